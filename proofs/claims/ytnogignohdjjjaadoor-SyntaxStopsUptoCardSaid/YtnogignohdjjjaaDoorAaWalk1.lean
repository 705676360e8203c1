/- the walk of token_scanner_blank, printed by a program of ours -/
import Derived.Test.YtnogignohdjjjaaDoorABase2
import Derived.Test.YtnogignohdjjjaaDoorAaFun1
import Derived.Test.YtnogignohdjjjaaDoorATypes1
import Derived.Test.YtnogignohdjjjaaDoorABase3
set_option linter.all false
set_option maxRecDepth 100000
set_option maxHeartbeats 8000000
namespace Pam
open Go Go.Proofs
theorem hI(p1:List UInt8)(p2:Int)(p3:List aa)(v1_:Nat)(r:Int)(hm:dQ p1 p2 p3=some r):ck Tryd.prog 18 [.c (.optr 0 0)] [.box [.str p1,.int .i64 p2,.osl 1 v1_ 0 p3.length],.arr 4 v1_ 35 (p3.map aa.enc)] (fun p σ=>(p=.t []∧σ=[.box [.str p1,.int .i64 r,.osl 1 v1_ 0 p3.length],.arr 4 v1_ 35 (p3.map aa.enc)])) (fun _ _=>False):=by
 refine aN 44 [] Tryd.func18 rfl rfl rfl (by kernel_rfl) (by simp) ?_;refine bJ ?_;unfold dQ at hm;refine ax [] ?_;refine aY ?_;obtain ⟨o1,hl1,hm1⟩:=bd hm;refine dB (S:=(Int×Bool)) (V:=Unit) (O:=Int) [2,3,4,5,6,7,8,9,10,11,12,13,14,15,16,17,18,19,20,21,22,23,24,25,26,27,28,29,30,31,32,33,34,35,36,37,38,39,40,41,42,43] (fun (x5,b6) _=>[(2,.c (.bool b6))]) (fun (x5,b6) _=>[.box [.str p1,.int .i64 x5,.osl 1 v1_ 0 p3.length],.arr 4 v1_ 35 (p3.map aa.enc)]) _ _ () hl1 ?_ ?_
 ·exact ls
 ·rintro ⟨x5,b6⟩ _ r1 hm hr1;replace hm:bo p1 x5 b6=some r1:=hm;refine bw ?_;unfold bo at hm;refine aR fun k1 hk1=>?_;refine sv [4,5,6,7,8,9,10,11,12] [0,1,3,7,0,16,48,112,240,511] [false,false,false,false,false,false,false,false,false,true] ?_
  by_cases h1:x5<(p1.length:Int)
  ·rw [iP h1] at hm;refine aj rfl (dT h1) ?_;refine av ?_;refine aL (hk1 _ _ ?_);refine aY ?_;refine bk (S:=Bool) (V:=Unit) [2,3,13,14,15,16,17,18,19,20,21,22,23,24,25,26,27,28,29,30,31,32,33,34,35,36] (fun b7 _=>[(2,.c (.bool b7))]) (fun b7 _=>[.box [.str p1,.int .i64 x5,.osl 1 v1_ 0 p3.length],.arr 4 v1_ 35 (p3.map aa.enc)]) (fun b7=>cr x5 b7=some r1) ?_ ?_
   ·skip;obtain ⟨hg2a,hm⟩:=gd hm
    refine sv [13,14,15,16,17,18,19,20,21,22] [0,1,3,7,0,16,48,112,255,511] [false,false,false,false,false,false,false,false,true,true] ?_;refine aY ?_;refine ax [24,25] ?_
    by_cases h3:((p1.getD x5.toNat 0).toNat:Int)=10
    ·rw [iP h3] at hm;refine aj rfl (eQ h3) ?_;refine cB ?_;refine ap ?_;refine ao false () hm ?_;exact ls
    ·rw [iN h3] at hm;refine ak rfl (nB h3) ?_;refine bk (S:=Bool) (V:=Unit) [23,26,27,28,29,30,31,32,33] (fun b8 _=>[(26,.c (.bool b8))]) (fun b8 _=>[.box [.str p1,.int .i64 x5,.osl 1 v1_ 0 p3.length],.arr 4 v1_ 35 (p3.map aa.enc)]) (fun b8=>bO p1 x5 b6 b8=some r1) ?_ ?_
     ·skip;refine ax [23,27] ?_
      by_cases h7:b6=true
      ·rw [iP h7] at hm;refine aj rfl (h7) ?_;refine av ?_;refine ao b6 () hm ?_;exact ls
      ·rw [iN h7] at hm;refine ak rfl (fB h7) ?_;refine ax [28,29] ?_
       by_cases h8:((p1.getD x5.toNat 0).toNat:Int)=32
       ·rw [iP h8] at hm;refine aj rfl (eQ h8) ?_;refine av ?_;refine ao (((p1.getD x5.toNat 0).toNat:Int) == 32) () hm ?_;exact ls
       ·rw [iN h8] at hm;refine ak rfl (nB h8) ?_;refine ax [30,31] ?_
        by_cases h9:((p1.getD x5.toNat 0).toNat:Int)=9
        ·rw [iP h9] at hm;refine aj rfl (eQ h9) ?_;refine av ?_;refine ao (((p1.getD x5.toNat 0).toNat:Int) == 9) () hm ?_;exact ls
        ·rw [iN h9] at hm;refine ak rfl (nB h9) ?_;refine cB ?_;refine ao (((p1.getD x5.toNat 0).toNat:Int) == 13) () hm ?_;exact ls
     ·rintro b8 _ hm;replace hm:bO p1 x5 b6 b8=some r1:=hm;refine bw ?_;unfold bO at hm
      by_cases h4:b8=true
      ·rw [iP h4] at hm;refine aj rfl (h4) ?_;refine av ?_;refine ap ?_;refine ao b6 () hm ?_;exact ls
      ·rw [iN h4] at hm;refine ak rfl (fB h4) ?_;refine ax [2,3,26,35,36] ?_
       by_cases h5:((p1.getD x5.toNat 0).toNat:Int)=35
       ·rw [iP h5] at hm;refine aj rfl (eQ h5) ?_;refine cB ?_;refine ap ?_;refine ao true () hm ?_;exact ls
       ·rw [iN h5] at hm;refine ak rfl (nB h5) ?_;have ho6:=a8 hm hr1;subst ho6;replace hm:some x5=some r:=hm1;refine aM ?_;refine aT (bn (aT (eV (aT ?_))))
        cases hm
        exact kr 2
   ·rintro b7 _ hm;replace hm:cr x5 b7=some r1:=hm;refine bw ?_;unfold cr at hm;refine cB ?_;refine ap ?_;refine aH ((IntKind.wrap .i64 (x5+1)),b7) () hm ?_;exact ls
  ·rw [iN h1] at hm;refine ak rfl (dF h1) ?_;refine e7 ?_;have ho10:=a8 hm hr1;subst ho10;replace hm:some x5=some r:=hm1;refine eC (cM (bx ?_))
   cases hm
   exact kn 2
theorem kF(p1:Int)(r:Bool)(hm:gw p1=some r):eU Tryd.prog 29 [.c (.int .u8 p1)] (.c (.bool r)):=by
 refine aN 9 [.tmp 2] Tryd.func29 rfl rfl rfl (by kernel_rfl) (by simp) ?_;refine bJ ?_;unfold gw at hm;refine ax [2] ?_
 by_cases h1:p1≥97
 ·rw [iP h1] at hm;have h1b:=dT h1;refine gG h1b [0,3,4,5,6,7,8] ?_;refine aM ?_
  cases hm
  exact kr 0
 ·rw [iN h1] at hm;have h1b:=dF h1;refine gG h1b [0,3,4,5,6,7,8] ?_;refine aM ?_
  cases hm
  exact kr 0
theorem ja(p1:Int)(r:Bool)(hm:gk p1=some r):eU Tryd.prog 32 [.c (.int .u8 p1)] (.c (.bool r)):=by
 refine aN 9 [.tmp 2] Tryd.func32 rfl rfl rfl (by kernel_rfl) (by simp) ?_;refine bJ ?_;unfold gk at hm;refine ax [2] ?_
 by_cases h1:p1≥48
 ·rw [iP h1] at hm;have h1b:=dT h1;refine gG h1b [0,3,4,5,6,7,8] ?_;refine aM ?_
  cases hm
  exact kr 0
 ·rw [iN h1] at hm;have h1b:=dF h1;refine gG h1b [0,3,4,5,6,7,8] ?_;refine aM ?_
  cases hm
  exact kr 0
theorem ix(p1:List UInt8)(p2:Int)(p3:List aa)(v1_:Nat)(r:((List UInt8)×Int))(hm:dg p1 p2 p3=some r):ck Tryd.prog 30 [.c (.optr 0 0)] [.box [.str p1,.int .i64 p2,.osl 1 v1_ 0 p3.length],.arr 4 v1_ 35 (p3.map aa.enc)] (fun p σ=>(p=.c (.str r.1)∧σ=[.box [.str p1,.int .i64 r.2,.osl 1 v1_ 0 p3.length],.arr 4 v1_ 35 (p3.map aa.enc)])) (fun _ _=>False):=by
 refine aN 59 [.tmp 2] Tryd.func30 rfl rfl rfl (by kernel_rfl) (by simp) ?_;refine bJ ?_;unfold dg at hm;refine ax [2] ?_;refine ax [4,5,6,7] ?_;refine bk (S:=Int) (V:=Unit) [8,9,10,11,12,13,14,15,16,17,18,19,20,21,22,23,24,25,26,27,28,29,30,31,32,33,34,35,36,37,38,39,40,41,42,43,44,45,46,47,48] (fun x1 _=>[]) (fun x1 _=>[.box [.str p1,.int .i64 x1,.osl 1 v1_ 0 p3.length],.arr 4 v1_ 35 (p3.map aa.enc)]) (fun x1=>cS p1 p2 x1=some r) ?_ ?_
 ·skip;refine aY ?_
  obtain ⟨o1,hl1,hm1⟩:=bd hm;refine dB (S:=Int) (V:=Unit) (O:=Int) [8,9,10,11,12,13,14,15,16,17,18,19,20,21,22,23,24,25,26,27,28,29,30,31,32,33,34,35,36,37,38,39,40,41,42,43,44,45,46,47,48] (fun x4 _=>[]) (fun x4 _=>[.box [.str p1,.int .i64 x4,.osl 1 v1_ 0 p3.length],.arr 4 v1_ 35 (p3.map aa.enc)]) _ _ () hl1 ?_ ?_
  ·exact ls
  ·rintro x4 _ r1 hm hr1;replace hm:cT p1 x4=some r1:=hm;refine bw ?_;unfold cT at hm;refine bk (S:=Unit) (V:=Unit) [8,9,10,11,12,13,14,15,16,17,18,19,20,21,22,23,24,25,26,27,28,29,30,31,32,33,34,35,36,37,38,39,40,41] (fun _ _=>[]) (fun _ _=>[.box [.str p1,.int .i64 x4,.osl 1 v1_ 0 p3.length],.arr 4 v1_ 35 (p3.map aa.enc)]) (fun _=>dv x4=some r1) ?_ ?_
   ·skip;refine tj [8,9,10,11,12,13,14,15,16,17,18,19,20,21,22,23,24,25,26,27,28,29,30,31,32,33,34,35,36,37,38,39,40] (by kernel_rfl) [0,1,3,7,0,16,48,112,240,511,1023,2047,4095,8191,16383,2047,34815,100351,231423,524287,1048575,2097151,4194303,8388607,16777215,33554431,4194303,71303167,205520895,473956351,1073741823,2147483647,4294967295,8589934591] [false,false,false,false,false,false,false,false,false,true,true,false,false,false,false,false,false,false,false,true,true,true,false,false,false,false,false,false,false,false,true,true,true,true] (by kernel_rfl) fun k hk=>?_
    refine uv 11 rfl ?_;simp (maxSteps:=3000000) only [bA,bT,tab,bX,reduceIte,↓reduceIte,reduceCtorEq,Int.reduceToNat,Nat.reduceDiv,Nat.reduceMod,Nat.reduceLT,Nat.reduceLeDiff,Nat.reduceAdd,Nat.reduceSub,Nat.reduceMul,Nat.reduceEqDiff,Nat.reduceBEq,Nat.reduceBNe,Nat.reduceGT]
    repeat refine sd ?_
    by_cases h2:x4<(p1.length:Int)
    ·rw [iP h2] at hm;have h2b:=dT h2;obtain ⟨hg3a,hm⟩:=gd hm;refine nG ?_;simp (maxSteps:=3000000) only [bA,bT,tab,bX,reduceIte,↓reduceIte,reduceCtorEq,Int.reduceToNat,Nat.reduceDiv,Nat.reduceMod,Nat.reduceLT,Nat.reduceLeDiff,Nat.reduceAdd,Nat.reduceSub,Nat.reduceMul,Nat.reduceEqDiff,Nat.reduceBEq,Nat.reduceBNe,Nat.reduceGT,h2b]
     repeat refine sd ?_
     obtain ⟨y5,hc4,hm⟩:=bd hm;refine pat (fun _=>kF ((p1.getD x4.toNat 0).toNat:Int) _ hc4) ?_
     by_cases h5:y5=true
     ·rw [iP h5] at hm;have h5b:=h5;refine nG ?_;simp (maxSteps:=3000000) only [bA,bT,tab,bX,reduceIte,↓reduceIte,reduceCtorEq,Int.reduceToNat,Nat.reduceDiv,Nat.reduceMod,Nat.reduceLT,Nat.reduceLeDiff,Nat.reduceAdd,Nat.reduceSub,Nat.reduceMul,Nat.reduceEqDiff,Nat.reduceBEq,Nat.reduceBNe,Nat.reduceGT,(a2 h2b h5b)]
      repeat refine sd ?_
      refine hk _ _ ?_;clear hk k;refine aj rfl rfl ?_;refine av ?_;refine ao () () hm ?_;exact la
     ·rw [iN h5] at hm;have h5b:=fB h5;refine nG ?_;simp (maxSteps:=3000000) only [bA,bT,tab,bX,reduceIte,↓reduceIte,reduceCtorEq,Int.reduceToNat,Nat.reduceDiv,Nat.reduceMod,Nat.reduceLT,Nat.reduceLeDiff,Nat.reduceAdd,Nat.reduceSub,Nat.reduceMul,Nat.reduceEqDiff,Nat.reduceBEq,Nat.reduceBNe,Nat.reduceGT,(a2 h2b h5b)]
      repeat refine sd ?_
      obtain ⟨y6,hc6,hm⟩:=bd hm;refine pat (fun _=>ja ((p1.getD x4.toNat 0).toNat:Int) _ hc6) ?_;refine nG ?_;simp (maxSteps:=3000000) only [bA,bT,tab,bX,reduceIte,↓reduceIte,reduceCtorEq,Int.reduceToNat,Nat.reduceDiv,Nat.reduceMod,Nat.reduceLT,Nat.reduceLeDiff,Nat.reduceAdd,Nat.reduceSub,Nat.reduceMul,Nat.reduceEqDiff,Nat.reduceBEq,Nat.reduceBNe,Nat.reduceGT,(a2 h2b h5b)]
      repeat refine sd ?_
      refine hk _ _ ?_;clear hk k
      by_cases h7:y6=true
      ·rw [iP h7] at hm;refine aj rfl (h7) ?_;refine av ?_;refine ao () () hm ?_;exact la
      ·rw [iN h7] at hm;refine ak rfl (fB h7) ?_;refine e7 ?_;have ho8:=a8 hm hr1;subst ho8;replace hm:cS p1 p2 x4=some r:=hm1;refine nE (cM (bx ?_));refine ao x4 () hm ?_;exact la
    ·rw [iN h2] at hm;have h2b:=dF h2;refine nG ?_;simp (maxSteps:=3000000) only [bA,bT,tab,bX,reduceIte,↓reduceIte,reduceCtorEq,Int.reduceToNat,Nat.reduceDiv,Nat.reduceMod,Nat.reduceLT,Nat.reduceLeDiff,Nat.reduceAdd,Nat.reduceSub,Nat.reduceMul,Nat.reduceEqDiff,Nat.reduceBEq,Nat.reduceBNe,Nat.reduceGT,h2b]
     repeat refine sd ?_
     refine hk _ _ ?_;clear hk k;refine ak rfl rfl ?_;refine e7 ?_;have ho9:=a8 hm hr1;subst ho9;replace hm:cS p1 p2 x4=some r:=hm1;refine nE (cM (bx ?_));refine ao x4 () hm ?_;exact ls
   ·rintro _ _ hm;replace hm:dv x4=some r1:=hm;refine bw ?_;unfold dv at hm;refine aY ?_;refine cB ?_;refine ap ?_;refine aH (IntKind.wrap .i64 (x4+1)) () hm ?_;exact ls
 ·rintro x1 _ hm;replace hm:cS p1 p2 x1=some r:=hm;refine bw ?_;unfold cS at hm;obtain ⟨hg1a,hm⟩:=gd hm;refine sv [0,3,49,50,51,52,53,54,55,56,57,58] [0,1,3,7,0,0,32,96,224,511,1023] [false,false,false,false,false,false,false,false,false,true,true] ?_;refine aM ?_
  cases hm
  exact kr 2
theorem od(p1:List UInt8)(r:Bool)(hm:il p1=some r):eU Tryd.prog 31 [.c (.str p1)] (.c (.bool r)):=by
 refine aN 37 [.tmp 2] Tryd.func31 rfl rfl rfl (by kernel_rfl) (by simp) ?_;refine bJ ?_;unfold il at hm;refine ax [2] ?_;refine aR fun k1 hk1=>?_;refine ax [0] ?_;refine aY ?_;refine bk (S:=Bool) (V:=Unit) [3,4,5,6,7,8,9,10,11,12,13,14,15,16,17,18,19,20,21,22,23,24,25,26,27,28,29,30,31,32,33,34,35,36] (fun b1 _=>[(4,.c (.bool b1))]) (fun b1 _=>[]) (fun b1=>aK b1=some r) ?_ ?_
 ·skip;refine ax [5] ?_
  by_cases h2:p1=([97,100,100]:List UInt8)
  ·rw [iP h2] at hm;refine aj rfl (eQ h2) ?_;refine av ?_;refine ao (p1 == ([97,100,100]:List UInt8)) () hm ?_;exact ls
  ·rw [iN h2] at hm;refine ak rfl (nB h2) ?_;refine ax [6] ?_
   by_cases h3:p1=([97,110,100]:List UInt8)
   ·rw [iP h3] at hm;refine aj rfl (eQ h3) ?_;refine av ?_;refine ao (p1 == ([97,110,100]:List UInt8)) () hm ?_;exact ls
   ·rw [iN h3] at hm;refine ak rfl (nB h3) ?_;refine ax [7] ?_
    by_cases h4:p1=([98,111,111,108]:List UInt8)
    ·rw [iP h4] at hm;refine aj rfl (eQ h4) ?_;refine av ?_;refine ao (p1 == ([98,111,111,108]:List UInt8)) () hm ?_;exact ls
    ·rw [iN h4] at hm;refine ak rfl (nB h4) ?_;refine ax [8] ?_
     by_cases h5:p1=([99,97,108,108]:List UInt8)
     ·rw [iP h5] at hm;refine aj rfl (eQ h5) ?_;refine av ?_;refine ao (p1 == ([99,97,108,108]:List UInt8)) () hm ?_;exact ls
     ·rw [iN h5] at hm;refine ak rfl (nB h5) ?_;refine ax [9] ?_
      by_cases h6:p1=([99,97,116]:List UInt8)
      ·rw [iP h6] at hm;refine aj rfl (eQ h6) ?_;refine av ?_;refine ao (p1 == ([99,97,116]:List UInt8)) () hm ?_;exact ls
      ·rw [iN h6] at hm;refine ak rfl (nB h6) ?_;refine ax [10] ?_
       by_cases h7:p1=([100,105,118]:List UInt8)
       ·rw [iP h7] at hm;refine aj rfl (eQ h7) ?_;refine av ?_;refine ao (p1 == ([100,105,118]:List UInt8)) () hm ?_;exact ls
       ·rw [iN h7] at hm;refine ak rfl (nB h7) ?_;refine ax [11] ?_
        by_cases h8:p1=([101,108,115,101]:List UInt8)
        ·rw [iP h8] at hm;refine aj rfl (eQ h8) ?_;refine av ?_;refine ao (p1 == ([101,108,115,101]:List UInt8)) () hm ?_;exact ls
        ·rw [iN h8] at hm;refine ak rfl (nB h8) ?_;refine ax [12] ?_
         by_cases h9:p1=([101,113]:List UInt8)
         ·rw [iP h9] at hm;refine aj rfl (eQ h9) ?_;refine av ?_;refine ao (p1 == ([101,113]:List UInt8)) () hm ?_;exact ls
         ·rw [iN h9] at hm;refine ak rfl (nB h9) ?_;refine ax [13] ?_
          by_cases h10:p1=([102,97,108,115,101]:List UInt8)
          ·rw [iP h10] at hm;refine aj rfl (eQ h10) ?_;refine av ?_;refine ao (p1 == ([102,97,108,115,101]:List UInt8)) () hm ?_;exact ls
          ·rw [iN h10] at hm;refine ak rfl (nB h10) ?_;refine ax [14] ?_
           by_cases h11:p1=([102,105,108,108]:List UInt8)
           ·rw [iP h11] at hm;refine aj rfl (eQ h11) ?_;refine av ?_;refine ao (p1 == ([102,105,108,108]:List UInt8)) () hm ?_;exact ls
           ·rw [iN h11] at hm;refine ak rfl (nB h11) ?_;refine ax [15] ?_
            by_cases h12:p1=([102,111,108,100]:List UInt8)
            ·rw [iP h12] at hm;refine aj rfl (eQ h12) ?_;refine av ?_;refine ao (p1 == ([102,111,108,100]:List UInt8)) () hm ?_;exact ls
            ·rw [iN h12] at hm;refine ak rfl (nB h12) ?_;refine ax [16] ?_
             by_cases h13:p1=([105,102]:List UInt8)
             ·rw [iP h13] at hm;refine aj rfl (eQ h13) ?_;refine av ?_;refine ao (p1 == ([105,102]:List UInt8)) () hm ?_;exact ls
             ·rw [iN h13] at hm;refine ak rfl (nB h13) ?_;refine ax [17] ?_
              by_cases h14:p1=([105,110,116]:List UInt8)
              ·rw [iP h14] at hm;refine aj rfl (eQ h14) ?_;refine av ?_;refine ao (p1 == ([105,110,116]:List UInt8)) () hm ?_;exact ls
              ·rw [iN h14] at hm;refine ak rfl (nB h14) ?_;refine ax [18] ?_
               by_cases h15:p1=([108,101,115,115]:List UInt8)
               ·rw [iP h15] at hm;refine aj rfl (eQ h15) ?_;refine av ?_;refine ao (p1 == ([108,101,115,115]:List UInt8)) () hm ?_;exact ls
               ·rw [iN h15] at hm;refine ak rfl (nB h15) ?_;refine ax [19] ?_
                by_cases h16:p1=([109,97,112]:List UInt8)
                ·rw [iP h16] at hm;refine aj rfl (eQ h16) ?_;refine av ?_;refine ao (p1 == ([109,97,112]:List UInt8)) () hm ?_;exact ls
                ·rw [iN h16] at hm;refine ak rfl (nB h16) ?_;refine ax [20] ?_
                 by_cases h17:p1=([109,97,120]:List UInt8)
                 ·rw [iP h17] at hm;refine aj rfl (eQ h17) ?_;refine av ?_;refine ao (p1 == ([109,97,120]:List UInt8)) () hm ?_;exact ls
                 ·rw [iN h17] at hm;refine ak rfl (nB h17) ?_;refine ax [21] ?_
                  by_cases h18:p1=([109,105,110]:List UInt8)
                  ·rw [iP h18] at hm;refine aj rfl (eQ h18) ?_;refine av ?_;refine ao (p1 == ([109,105,110]:List UInt8)) () hm ?_;exact ls
                  ·rw [iN h18] at hm;refine ak rfl (nB h18) ?_;refine ax [22] ?_
                   by_cases h19:p1=([109,111,100]:List UInt8)
                   ·rw [iP h19] at hm;refine aj rfl (eQ h19) ?_;refine av ?_;refine ao (p1 == ([109,111,100]:List UInt8)) () hm ?_;exact ls
                   ·rw [iN h19] at hm;refine ak rfl (nB h19) ?_;refine ax [23] ?_
                    by_cases h20:p1=([109,117,108]:List UInt8)
                    ·rw [iP h20] at hm;refine aj rfl (eQ h20) ?_;refine av ?_;refine ao (p1 == ([109,117,108]:List UInt8)) () hm ?_;exact ls
                    ·rw [iN h20] at hm;refine ak rfl (nB h20) ?_;refine ax [24] ?_
                     by_cases h21:p1=([110,101,103]:List UInt8)
                     ·rw [iP h21] at hm;refine aj rfl (eQ h21) ?_;refine av ?_;refine ao (p1 == ([110,101,103]:List UInt8)) () hm ?_;exact ls
                     ·rw [iN h21] at hm;refine ak rfl (nB h21) ?_;refine ax [25] ?_
                      by_cases h22:p1=([110,111,100,101]:List UInt8)
                      ·rw [iP h22] at hm;refine aj rfl (eQ h22) ?_;refine av ?_;refine ao (p1 == ([110,111,100,101]:List UInt8)) () hm ?_;exact ls
                      ·rw [iN h22] at hm;refine ak rfl (nB h22) ?_;refine ax [26] ?_
                       by_cases h23:p1=([110,111,116]:List UInt8)
                       ·rw [iP h23] at hm;refine aj rfl (eQ h23) ?_;refine av ?_;refine ao (p1 == ([110,111,116]:List UInt8)) () hm ?_;exact ls
                       ·rw [iN h23] at hm;refine ak rfl (nB h23) ?_;refine ax [27] ?_
                        by_cases h24:p1=([111,114]:List UInt8)
                        ·rw [iP h24] at hm;refine aj rfl (eQ h24) ?_;refine av ?_;refine ao (p1 == ([111,114]:List UInt8)) () hm ?_;exact ls
                        ·rw [iN h24] at hm;refine ak rfl (nB h24) ?_;refine ax [28] ?_
                         by_cases h25:p1=([112,114,101]:List UInt8)
                         ·rw [iP h25] at hm;refine aj rfl (eQ h25) ?_;refine av ?_;refine ao (p1 == ([112,114,101]:List UInt8)) () hm ?_;exact ls
                         ·rw [iN h25] at hm;refine ak rfl (nB h25) ?_;refine ax [29] ?_
                          by_cases h26:p1=([115,99,97,110]:List UInt8)
                          ·rw [iP h26] at hm;refine aj rfl (eQ h26) ?_;refine av ?_;refine ao (p1 == ([115,99,97,110]:List UInt8)) () hm ?_;exact ls
                          ·rw [iN h26] at hm;refine ak rfl (nB h26) ?_;refine ax [30] ?_
                           by_cases h27:p1=([115,108,105,99,101]:List UInt8)
                           ·rw [iP h27] at hm;refine aj rfl (eQ h27) ?_;refine av ?_;refine ao (p1 == ([115,108,105,99,101]:List UInt8)) () hm ?_;exact ls
                           ·rw [iN h27] at hm;refine ak rfl (nB h27) ?_;refine ax [31] ?_
                            by_cases h28:p1=([115,117,98]:List UInt8)
                            ·rw [iP h28] at hm;refine aj rfl (eQ h28) ?_;refine av ?_;refine ao (p1 == ([115,117,98]:List UInt8)) () hm ?_;exact ls
                            ·rw [iN h28] at hm;refine ak rfl (nB h28) ?_;refine ax [32] ?_
                             by_cases h29:p1=([116,104,101,110]:List UInt8)
                             ·rw [iP h29] at hm;refine aj rfl (eQ h29) ?_;refine av ?_;refine ao (p1 == ([116,104,101,110]:List UInt8)) () hm ?_;exact ls
                             ·rw [iN h29] at hm;refine ak rfl (nB h29) ?_;refine ax [33] ?_
                              by_cases h30:p1=([116,114,117,101]:List UInt8)
                              ·rw [iP h30] at hm;refine aj rfl (eQ h30) ?_;refine av ?_;refine ao (p1 == ([116,114,117,101]:List UInt8)) () hm ?_;exact ls
                              ·rw [iN h30] at hm;refine ak rfl (nB h30) ?_;refine ax [34] ?_
                               by_cases h31:p1=([118,97,114]:List UInt8)
                               ·rw [iP h31] at hm;refine aj rfl (eQ h31) ?_;refine av ?_;refine ao (p1 == ([118,97,114]:List UInt8)) () hm ?_;exact ls
                               ·rw [iN h31] at hm;refine ak rfl (nB h31) ?_;refine ax [35] ?_
                                by_cases h32:p1=([119,105,116,104]:List UInt8)
                                ·rw [iP h32] at hm;refine aj rfl (eQ h32) ?_;refine av ?_;refine ao (p1 == ([119,105,116,104]:List UInt8)) () hm ?_;exact ls
                                ·rw [iN h32] at hm;refine ak rfl (nB h32) ?_;refine cB ?_;refine ao (p1 == ([120,111,114]:List UInt8)) () hm ?_;exact ls
 ·rintro b1 _ hm;replace hm:aK b1=some r:=hm;refine bw ?_;unfold aK at hm
  by_cases h1:b1=true
  ·rw [iP h1] at hm;refine aj rfl (h1) ?_;refine ax [4] ?_;refine aM ?_;refine aT (cX ?_)
   cases hm
   exact kr 0
  ·rw [iN h1] at hm;refine ak rfl (fB h1) ?_;refine av ?_;refine ap ?_;refine aL (hk1 _ _ ?_);refine ax [4] ?_;refine aM ?_
   cases hm
   exact kr 0
theorem lw(p1:List UInt8)(p2 p3 r:Int)(hm:gy p1 p2 p3=some r):eU Tryd.prog 42 [.c (.str p1),.c (.int .i64 p2),.c (.int .i64 p3)] (.t [.c (.int .i64 r),.c (.nili)]):=by
 unfold gy at hm;obtain ⟨⟨rfl,rfl⟩,hm⟩:=gd hm;exact qm qn rfl ⟨_,Tryd.func42,rfl,by kernel_rfl⟩ p1 r hm
theorem mW(p1:List UInt8)(r:(Int×Bool))(hm:gA p1=some r):eU Tryd.prog 33 [.c (.str p1)] (.t [.c (.int .i64 r.1),.c (.bool r.2)]):=by
 refine aN 39 [.tmp 2,.tmp 3] Tryd.func33 rfl rfl rfl (by kernel_rfl) (by simp) ?_;refine bJ ?_;unfold gA at hm;refine ax [2,3] ?_;refine bk (S:=Unit) (V:=Unit) [2,3,7,8,9,10,11,12,13,14,15,16,17,18,19] (fun _ _=>[]) (fun _ _=>[]) (fun _=>eP p1=some r) ?_ ?_
 ·skip;refine cR [7,8,9,10,11,12,13,14,15,16,17,18] fun k kp hk hp=>?_
  refine aq 4 ?_;refine go ?_
  by_cases h8:(p1.length:Int)>18
  ·rw [iP h8] at hm;have h8b:=dT h8;refine ab ?_;refine gox h8b ?_;refine hk _ _ ?_;clear hk hp k kp;refine aj rfl rfl ?_;refine ax [0,19] ?_;refine aM ?_;refine bn ?_
   cases hm
   exact kr 0
  ·rw [iN h8] at hm;have h8b:=dF h8;refine aq 4 ?_;refine gox h8b ?_
   by_cases h9:(p1.length:Int)>1
   ·rw [iP h9] at hm;have h9b:=dT h9;obtain ⟨hg10a,hm⟩:=gd hm;refine ab ?_;refine gox (a2 h8b h9b) ?_;refine hk _ _ ?_;clear hk hp k kp
    by_cases h11:((p1.getD 0 0).toNat:Int)=48
    ·rw [iP h11] at hm;refine aj rfl (eQ h11) ?_;refine ax [0,19] ?_;refine aM ?_;refine bn ?_
     cases hm
     exact kr 0
    ·rw [iN h11] at hm;refine ak rfl (nB h11) ?_;refine av ?_;refine ao () () hm ?_;exact ls
   ·rw [iN h9] at hm;have h9b:=dF h9;refine ab ?_;refine gox (a2 h8b h9b) ?_;refine hk _ _ ?_;clear hk hp k kp;refine ak rfl rfl ?_;refine av ?_;refine ao () () hm ?_;exact ls
 ·rintro _ _ hm;replace hm:eP p1=some r:=hm;refine bw ?_;unfold eP at hm;refine bk (S:=Unit) (V:=Unit) [2,3,4,20,21,22,23,24,25,26,27,28,29,30] (fun _ _=>[]) (fun _ _=>[]) (fun _=>fl p1=some r) ?_ ?_
  ·skip;refine ax [20] ?_
   refine aY ?_;obtain ⟨o1,hl1,hm1⟩:=bd hm;refine dB (S:=Int) (V:=Unit) (O:=Unit ⊕ (Int×Bool)) [2,3,4,22,23,24,25,26,27,28,29,30] (fun x4 _=>[(22,.c (.int .i64 x4))]) (fun x4 _=>[]) _ _ () hl1 ?_ ?_
   ·exact ls
   ·rintro x4 _ r1 hm hr1;replace hm:dS p1 x4=some r1:=hm;refine bw ?_;unfold dS at hm;refine ax [] ?_;refine aR fun k1 hk1=>?_
    by_cases h2:x4<(p1.length:Int)
    ·rw [iP h2] at hm;refine aj rfl (dT h2) ?_;refine av ?_;refine aL (hk1 _ _ ?_);refine aR fun k2 hk2=>?_;refine aY ?_;refine ax [23,24] ?_;obtain ⟨hg3a,hm⟩:=gd hm;refine au [4,25,26,27,28] fun k kp hk hp=>?_;refine go ?_;obtain ⟨y5,hc4,hm⟩:=bd hm;refine RP (fun _=>ja ((p1.getD x4.toNat 0).toNat:Int) _ hc4) ?_;refine ab ?_;refine go ?_;refine hk _ _ ?_;clear hk hp k kp
     by_cases h5:y5=true
     ·rw [iP h5] at hm;refine ak rfl (by rw [show y5=true from (h5)];rfl) ?_;refine av ?_;refine ap ?_;refine aL (hk2 _ _ ?_);refine cB ?_;refine aH (IntKind.wrap .i64 (x4+1)) () hm ?_;exact ls
     ·rw [iN h5] at hm;refine aj rfl (by rw [show y5=false from (fB h5)];rfl) ?_;refine ax [0,21,22,29] ?_;have ho6:=a8 hm hr1;subst ho6;replace hm:some (0,false)=some r:=hm1;refine aM ?_;refine aT (cX (eV (aT (bn ?_))))
      cases hm
      exact kr 0
    ·rw [iN h2] at hm;refine ak rfl (dF h2) ?_;refine e7 ?_;have ho7:=a8 hm hr1;subst ho7;replace hm:fl p1=some r:=hm1;refine eC (cM (bx ?_));refine ao () () hm ?_;exact ls
  ·rintro _ _ hm;replace hm:fl p1=some r:=hm;refine bw ?_;unfold fl at hm;refine au [0,31,32,33,34,35] fun k kp hk hp=>?_;refine go ?_;obtain ⟨y1,hc1,hm⟩:=bd hm;refine RP (fun _=>lw p1 10 64 _ hc1) ?_;refine ab ?_;refine go ?_;refine hk _ _ ?_;clear hk hp k kp;refine qQ [5,6,36,37,38] (by kernel_rfl) [] [0,0,2,1,15] [false,false,false,false,true] [false,false,false,false,false] [[],[],[],[],[]] [false,false,true,false,false] (by kernel_rfl) fun k hk=>?_;refine tk 2 rfl rfl rfl rfl rfl ?_;refine gp ?_
   refine qP (sL rfl (by first|exact .inl rfl|exact .inr rfl) (by first|rfl|(simp only [bR,bT,tab,bX,reduceIte,↓reduceIte,reduceCtorEq,Int.reduceToNat,Nat.reduceDiv,Nat.reduceMod,Nat.reduceLT,Nat.reduceLeDiff,Nat.reduceAdd,Nat.reduceSub,Nat.reduceMul,Nat.reduceEqDiff,Nat.reduceBEq,Nat.reduceBNe,Nat.reduceGT];done)) (by first|kernel_rfl|exact of_decide_eq_true (by kernel_rfl))) (by first|rfl|(simp only [bA,bT,tab,bX,reduceIte,↓reduceIte,reduceCtorEq,Int.reduceToNat,Nat.reduceDiv,Nat.reduceMod,Nat.reduceLT,Nat.reduceLeDiff,Nat.reduceAdd,Nat.reduceSub,Nat.reduceMul,Nat.reduceEqDiff,Nat.reduceBEq,Nat.reduceBNe,Nat.reduceGT];done)) (by first|trivial|exact aA rfl) ?_
   refine gl ?_;refine o5 rfl ?_;refine gp ?_;refine hk _ _ ?_;clear hk k;refine aM ?_
   cases hm
   exact kr 0
theorem gS(p1 p2:List UInt8)(r:Bool)(hm:cY p1 p2=some r):eU Tryd.prog 48 [.c (.str p1),.c (.str p2)] (.c (.bool r)):=by
 refine aN 18 [.tmp 4] Tryd.func48 rfl rfl rfl (by kernel_rfl) (by simp) ?_;refine bJ ?_;unfold cY at hm;refine ax [4] ?_;refine cR [0,1,5,6,7,8,9,10,11,12,13,14,15,16,17] fun k kp hk hp=>?_;refine aq 6 ?_;refine go ?_
 by_cases h1:(p1.length:Int)≥(p2.length:Int)
 ·rw [iP h1] at hm;have h1b:=dT h1;obtain ⟨hg2a,hm⟩:=gd hm;refine ab ?_;refine gox h1b ?_;refine hk _ _ ?_;clear hk hp k kp;refine aM ?_
  cases hm
  exact kr 0
 ·rw [iN h1] at hm;have h1b:=dF h1;refine ab ?_;refine gox h1b ?_;refine hk _ _ ?_;clear hk hp k kp;refine aM ?_
  cases hm
  exact kr 0
theorem kW(p1 p2:List UInt8)(r:Bool)(hm:dI p1 p2=some r):eU Tryd.prog 43 [.c (.str p1),.c (.str p2)] (.c (.bool r)):=by
 refine aN 8 [.tmp 4] Tryd.func43 rfl rfl rfl (by kernel_rfl) (by simp) ?_;refine bJ ?_;unfold dI at hm;refine ax [4] ?_;refine au [0,1,5,6,7] fun k kp hk hp=>?_;refine go ?_;obtain ⟨y1,hc1,hm⟩:=bd hm;refine RP (fun _=>gS p1 p2 _ hc1) ?_;refine ab ?_;refine go ?_;refine hk _ _ ?_;clear hk hp k kp;refine aM ?_
 cases hm
 exact kr 0
theorem kI(p1:List UInt8)(p2:Int)(p3:List aa)(v1_:Nat)(r:(List UInt8))(hm:ep p1 p2 p3=some r):ck Tryd.prog 34 [.c (.optr 0 0)] [.box [.str p1,.int .i64 p2,.osl 1 v1_ 0 p3.length],.arr 4 v1_ 35 (p3.map aa.enc)] (fun p σ=>(p=.c (.str r)∧σ=[.box [.str p1,.int .i64 p2,.osl 1 v1_ 0 p3.length],.arr 4 v1_ 35 (p3.map aa.enc)])) (fun _ _=>False):=by
 refine aN 57 [.tmp 2] Tryd.func34 rfl rfl rfl (by kernel_rfl) (by simp) ?_;refine bJ ?_;unfold ep at hm;refine ax [2] ?_;refine bk (S:=Unit) (V:=Unit) [2,4,6,7,8,9,10,11,12,13,14,15,16,17,18,19,20,21,22,23,24] (fun _ _=>[]) (fun _ _=>[.box [.str p1,.int .i64 p2,.osl 1 v1_ 0 p3.length],.arr 4 v1_ 35 (p3.map aa.enc)]) (fun _=>dh p1 p2=some r) ?_ ?_
 ·skip;refine ax [] ?_
  refine bU [.box [.str p1,.int .i64 p2,.osl 1 v1_ 0 p3.length],.arr 4 v1_ 35 (p3.map aa.enc),.arr 1 0 9 ((lit ([([61,61]:List UInt8),([45,62]:List UInt8)]:List (List UInt8))).map eS)] ?_;refine aY ?_;obtain ⟨o1,hl1,hm1⟩:=bd hm;refine dB (S:=Int) (V:=Unit) (O:=Unit ⊕ (List UInt8)) [2,4,6,8,9,10,11,12,13,14,15,16,17,18,19,20,21,22,23,24] (fun x4 _=>[(6,.c (.osl 2 0 0 2)),(8,.c (.int .i64 x4))]) (fun x4 _=>[.box [.str p1,.int .i64 p2,.osl 1 v1_ 0 p3.length],.arr 4 v1_ 35 (p3.map aa.enc),.arr 1 0 9 ((lit ([([61,61]:List UInt8),([45,62]:List UInt8)]:List (List UInt8))).map eS)]) _ _ () hl1 ?_ ?_
  ·exact ls
  ·rintro x4 _ r1 hm hr1;replace hm:bD p1 p2 x4=some r1:=hm;refine bw ?_;unfold bD at hm;refine ax [] ?_;refine aR fun k2 hk2=>?_
   by_cases h21:x4<(2:Int)
   ·rw [iP h21] at hm;refine aj rfl (dT h21) ?_;refine av ?_;refine aL (hk2 _ _ ?_);refine aR fun k3 hk3=>?_;refine aY ?_;obtain ⟨hg22a,hm⟩:=gd hm;refine gG (em eS (lit ([([61,61]:List UInt8),([45,62]:List UInt8)]:List (List UInt8))) x4.toNat) [9,10,11] ?_;obtain ⟨hg23a,hm⟩:=gd hm;refine qe [12,13,14,15,16,17,18,19,20,21] (by kernel_rfl) [0,1,3,7,0,16,48,112,255,0,1023] [false,false,false,false,false,false,false,false,false,false,true] (by kernel_rfl) fun k hk=>?_;refine ga ?_;obtain ⟨y5,hc24,hm⟩:=bd hm;refine AP (fun _=>kW (p1.drop p2.toNat) ((lit ([([61,61]:List UInt8),([45,62]:List UInt8)]:List (List UInt8))).getD x4.toNat default) _ hc24) ?_;refine ga ?_;refine hk _ _ ?_;clear hk k
    by_cases h25:y5=true
    ·rw [iP h25] at hm;refine aj rfl (h25) ?_;refine ax [0,4,6,7,8,22,23] ?_;have ho26:=a8 hm hr1;subst ho26;replace hm:some ((lit ([([61,61]:List UInt8),([45,62]:List UInt8)]:List (List UInt8))).getD x4.toNat default)=some r:=hm1;refine aM ?_;refine aT (cX (eV (aT (bn ?_))))
     cases hm
     exact kr 2
    ·rw [iN h25] at hm;refine ak rfl (fB h25) ?_;refine av ?_;refine ap ?_;refine aL (hk3 _ _ ?_);refine cB ?_;refine aH (IntKind.wrap .i64 (x4+1)) () hm ?_;exact ls
   ·rw [iN h21] at hm;refine ak rfl (dF h21) ?_;refine e7 ?_;have ho27:=a8 hm hr1;subst ho27;replace hm:dh p1 p2=some r:=hm1;refine eC (cM (bx ?_));refine ao () () hm ?_;exact ls
 ·rintro _ _ hm;replace hm:dh p1 p2=some r:=hm;refine bw ?_;unfold dh at hm;refine aR fun k1 hk1=>?_;obtain ⟨hg1a,hm⟩:=gd hm;refine sv [0,25,26,27,28,29,30,31,32,33] [0,1,3,7,0,16,48,112,255,511] [false,false,false,false,false,false,false,false,true,true] ?_;refine ax [] ?_;refine aY ?_;refine bk (S:=Bool) (V:=Unit) [34,35,36,37,38,39,40,41,42,43,44,45,46,47,48,49,50,51,52,53] (fun b1 _=>[(35,.c (.bool b1))]) (fun b1 _=>[.box [.str p1,.int .i64 p2,.osl 1 v1_ 0 p3.length],.arr 4 v1_ 35 (p3.map aa.enc)]) (fun b1=>az p1 p2 b1=some r) ?_ ?_
  ·skip;refine ax [36] ?_
   by_cases h4:((p1.getD p2.toNat 0).toNat:Int)=40
   ·rw [iP h4] at hm;refine aj rfl (eQ h4) ?_;refine av ?_;refine ao (((p1.getD p2.toNat 0).toNat:Int) == 40) () hm ?_;exact ls
   ·rw [iN h4] at hm;refine ak rfl (nB h4) ?_;refine ax [37] ?_
    by_cases h5:((p1.getD p2.toNat 0).toNat:Int)=41
    ·rw [iP h5] at hm;refine aj rfl (eQ h5) ?_;refine av ?_;refine ao (((p1.getD p2.toNat 0).toNat:Int) == 41) () hm ?_;exact ls
    ·rw [iN h5] at hm;refine ak rfl (nB h5) ?_;refine ax [38] ?_
     by_cases h6:((p1.getD p2.toNat 0).toNat:Int)=123
     ·rw [iP h6] at hm;refine aj rfl (eQ h6) ?_;refine av ?_;refine ao (((p1.getD p2.toNat 0).toNat:Int) == 123) () hm ?_;exact ls
     ·rw [iN h6] at hm;refine ak rfl (nB h6) ?_;refine ax [39] ?_
      by_cases h7:((p1.getD p2.toNat 0).toNat:Int)=125
      ·rw [iP h7] at hm;refine aj rfl (eQ h7) ?_;refine av ?_;refine ao (((p1.getD p2.toNat 0).toNat:Int) == 125) () hm ?_;exact ls
      ·rw [iN h7] at hm;refine ak rfl (nB h7) ?_;refine ax [40] ?_
       by_cases h8:((p1.getD p2.toNat 0).toNat:Int)=91
       ·rw [iP h8] at hm;refine aj rfl (eQ h8) ?_;refine av ?_;refine ao (((p1.getD p2.toNat 0).toNat:Int) == 91) () hm ?_;exact ls
       ·rw [iN h8] at hm;refine ak rfl (nB h8) ?_;refine ax [41] ?_
        by_cases h9:((p1.getD p2.toNat 0).toNat:Int)=93
        ·rw [iP h9] at hm;refine aj rfl (eQ h9) ?_;refine av ?_;refine ao (((p1.getD p2.toNat 0).toNat:Int) == 93) () hm ?_;exact ls
        ·rw [iN h9] at hm;refine ak rfl (nB h9) ?_;refine ax [42] ?_
         by_cases h10:((p1.getD p2.toNat 0).toNat:Int)=60
         ·rw [iP h10] at hm;refine aj rfl (eQ h10) ?_;refine av ?_;refine ao (((p1.getD p2.toNat 0).toNat:Int) == 60) () hm ?_;exact ls
         ·rw [iN h10] at hm;refine ak rfl (nB h10) ?_;refine ax [43] ?_
          by_cases h11:((p1.getD p2.toNat 0).toNat:Int)=62
          ·rw [iP h11] at hm;refine aj rfl (eQ h11) ?_;refine av ?_;refine ao (((p1.getD p2.toNat 0).toNat:Int) == 62) () hm ?_;exact ls
          ·rw [iN h11] at hm;refine ak rfl (nB h11) ?_;refine ax [44] ?_
           by_cases h12:((p1.getD p2.toNat 0).toNat:Int)=44
           ·rw [iP h12] at hm;refine aj rfl (eQ h12) ?_;refine av ?_;refine ao (((p1.getD p2.toNat 0).toNat:Int) == 44) () hm ?_;exact ls
           ·rw [iN h12] at hm;refine ak rfl (nB h12) ?_;refine ax [45] ?_
            by_cases h13:((p1.getD p2.toNat 0).toNat:Int)=59
            ·rw [iP h13] at hm;refine aj rfl (eQ h13) ?_;refine av ?_;refine ao (((p1.getD p2.toNat 0).toNat:Int) == 59) () hm ?_;exact ls
            ·rw [iN h13] at hm;refine ak rfl (nB h13) ?_;refine ax [46] ?_
             by_cases h14:((p1.getD p2.toNat 0).toNat:Int)=58
             ·rw [iP h14] at hm;refine aj rfl (eQ h14) ?_;refine av ?_;refine ao (((p1.getD p2.toNat 0).toNat:Int) == 58) () hm ?_;exact ls
             ·rw [iN h14] at hm;refine ak rfl (nB h14) ?_;refine ax [47] ?_
              by_cases h15:((p1.getD p2.toNat 0).toNat:Int)=43
              ·rw [iP h15] at hm;refine aj rfl (eQ h15) ?_;refine av ?_;refine ao (((p1.getD p2.toNat 0).toNat:Int) == 43) () hm ?_;exact ls
              ·rw [iN h15] at hm;refine ak rfl (nB h15) ?_;refine ax [48] ?_
               by_cases h16:((p1.getD p2.toNat 0).toNat:Int)=45
               ·rw [iP h16] at hm;refine aj rfl (eQ h16) ?_;refine av ?_;refine ao (((p1.getD p2.toNat 0).toNat:Int) == 45) () hm ?_;exact ls
               ·rw [iN h16] at hm;refine ak rfl (nB h16) ?_;refine ax [49] ?_
                by_cases h17:((p1.getD p2.toNat 0).toNat:Int)=42
                ·rw [iP h17] at hm;refine aj rfl (eQ h17) ?_;refine av ?_;refine ao (((p1.getD p2.toNat 0).toNat:Int) == 42) () hm ?_;exact ls
                ·rw [iN h17] at hm;refine ak rfl (nB h17) ?_;refine ax [50] ?_
                 by_cases h18:((p1.getD p2.toNat 0).toNat:Int)=47
                 ·rw [iP h18] at hm;refine aj rfl (eQ h18) ?_;refine av ?_;refine ao (((p1.getD p2.toNat 0).toNat:Int) == 47) () hm ?_;exact ls
                 ·rw [iN h18] at hm;refine ak rfl (nB h18) ?_;refine ax [51] ?_
                  by_cases h19:((p1.getD p2.toNat 0).toNat:Int)=37
                  ·rw [iP h19] at hm;refine aj rfl (eQ h19) ?_;refine av ?_;refine ao (((p1.getD p2.toNat 0).toNat:Int) == 37) () hm ?_;exact ls
                  ·rw [iN h19] at hm;refine ak rfl (nB h19) ?_;refine ax [52] ?_
                   by_cases h20:((p1.getD p2.toNat 0).toNat:Int)=61
                   ·rw [iP h20] at hm;refine aj rfl (eQ h20) ?_;refine av ?_;refine ao (((p1.getD p2.toNat 0).toNat:Int) == 61) () hm ?_;exact ls
                   ·rw [iN h20] at hm;refine ak rfl (nB h20) ?_;refine cB ?_;refine ao (((p1.getD p2.toNat 0).toNat:Int) == 94) () hm ?_;exact ls
  ·rintro b1 _ hm;replace hm:az p1 p2 b1=some r:=hm;refine bw ?_;unfold az at hm
   by_cases h2:b1=true
   ·rw [iP h2] at hm;refine aj rfl (h2) ?_;obtain ⟨hg3a,hm⟩:=gd hm;refine cR [5,35,54,55,56] fun k kp hk hp=>?_;refine aq 2 ?_;refine go ?_
    refine RS (sK rfl (by first|rfl|(simp only [bR,bT,tab,bX,reduceIte,↓reduceIte,reduceCtorEq,Int.reduceToNat,Nat.reduceDiv,Nat.reduceMod,Nat.reduceLT,Nat.reduceLeDiff,Nat.reduceAdd,Nat.reduceSub,Nat.reduceMul,Nat.reduceEqDiff,Nat.reduceBEq,Nat.reduceBNe,Nat.reduceGT];done)) (by first|kernel_rfl|exact of_decide_eq_true (by kernel_rfl)) (by first|kernel_rfl|exact of_decide_eq_true (by kernel_rfl)) (by first|assumption|omega)) ?_
    simp only [bR,bT,tab,bX,reduceIte,↓reduceIte,reduceCtorEq,Int.reduceToNat,Nat.reduceDiv,Nat.reduceMod,Nat.reduceLT,Nat.reduceLeDiff,Nat.reduceAdd,Nat.reduceSub,Nat.reduceMul,Nat.reduceEqDiff,Nat.reduceBEq,Nat.reduceBNe,Nat.reduceGT];refine ab ?_;refine go ?_;refine hk _ _ ?_;clear hk hp k kp;refine aM ?_;refine aT (cX ?_)
    cases hm
    exact kr 2
   ·rw [iN h2] at hm;refine ak rfl (fB h2) ?_;refine av ?_;refine ap ?_;refine aL (hk1 _ _ ?_);refine ax [5,35] ?_;refine aM ?_
    cases hm
    exact kr 2
theorem kX(p1:List UInt8)(p2:Int)(p3:List aa)(v1_:Nat)(r:(Int×Int×(List aa)))(hm:dJ p1 p2 p3=some r):ck Tryd.prog 19 [.c (.optr 0 0)] [.box [.str p1,.int .i64 p2,.osl 1 v1_ 0 p3.length],.arr 4 v1_ 35 (p3.map aa.enc)] (fun p σ=>∃ w1_,(p=.c (.int .i64 r.1)∧σ=[.box [.str p1,.int .i64 r.2.1,.osl 1 w1_ 0 r.2.2.length],.arr 4 w1_ 35 (r.2.2.map aa.enc)])) (fun _ _=>False):=by
 refine aN 80 [.tmp 2] Tryd.func19 rfl rfl rfl (by kernel_rfl) (by simp) ?_;refine bJ ?_;unfold dJ at hm;refine ax [2] ?_;refine ax [7,8,9,10,11] ?_;refine bk (S:=(Int×Int×(List UInt8)×Int)) (V:=Unit) [2,4,5,6,12,13,14,15,16,17,18,19,20,21,22,23,24,25,26,27,28,29,30,31,32,33,34,35,36,37,38,39,40,41,42,43,44,45,46,47,48,49,50,51,52,53,54,55,56,57,58,59,60,61,62,63,64,65,66,67,68,69] (fun (x1,x2,s3,x4) _=>[]) (fun (x1,x2,s3,x4) _=>[.box [.str p1,.int .i64 x1,.osl 1 v1_ 0 p3.length],.arr 4 v1_ 35 (p3.map aa.enc),.box [.int .i64 x2,.int .i64 p2,.str s3,.int .i64 x4]]) (fun (x1,x2,s3,x4)=>bj p2 p3 x1 x2 s3 x4=some r) ?_ ?_
 ·skip;obtain ⟨hg2a,hm⟩:=gd hm
  refine sv [12,13,14,15,16,17,18,19,20] [0,1,3,7,0,16,48,112,255,511] [false,false,false,false,false,false,false,false,true,true] ?_;refine aY ?_;refine au [39,40] fun k kp hk hp=>?_;refine go ?_;obtain ⟨y5,hc3,hm⟩:=bd hm;refine RP (fun _=>kF ((p1.getD p2.toNat 0).toNat:Int) _ hc3) ?_;refine ab ?_;refine go ?_;refine hk _ _ ?_;clear hk hp k kp
  by_cases h4:y5=true
  ·rw [iP h4] at hm;refine aj rfl (h4) ?_;refine au [4,38,41,42,43] fun k kp hk hp=>?_;refine go ?_;obtain ⟨y6,hc5,hm⟩:=bd hm;refine RA (ix p1 p2 p3 v1_ _ hc5) [0,1] ?_;rintro p σ' ⟨rfl,rfl⟩ _;refine ab ?_;refine go ?_;refine hk _ _ ?_;clear hk hp k kp;refine ax [44] ?_;refine au [45,46] fun k kp hk hp=>?_;refine go ?_;obtain ⟨y7,hc7,hm⟩:=bd hm;refine RP (fun _=>od y6.1 _ hc7) ?_;refine ab ?_;refine go ?_;refine hk _ _ ?_;clear hk hp k kp
   by_cases h8:y7=true
   ·rw [iP h8] at hm;refine aj rfl (h8) ?_;refine cB ?_;refine ap ?_;refine ao (y6.2,1,y6.1,0) () hm ?_;exact ls
   ·rw [iN h8] at hm;refine ak rfl (fB h8) ?_;refine ax [47,49,50,51] ?_
    by_cases h9:(y6.1.length:Int)>12
    ·rw [iP h9] at hm;refine aj rfl (dT h9) ?_;refine ax [0,3,52] ?_;refine aM ?_;refine aT (bn ?_)
     cases hm
     exact kr 2
    ·rw [iN h9] at hm;refine ak rfl (dF h9) ?_;refine av ?_;refine ap ?_;refine ao (y6.2,2,y6.1,0) () hm ?_;exact ls
  ·rw [iN h4] at hm;refine ak rfl (fB h4) ?_;refine au [4,38,54,55] fun k kp hk hp=>?_;refine go ?_;obtain ⟨y8,hc10,hm⟩:=bd hm;refine RP (fun _=>ja ((p1.getD p2.toNat 0).toNat:Int) _ hc10) ?_;refine ab ?_;refine go ?_;refine hk _ _ ?_;clear hk hp k kp
   by_cases h11:y8=true
   ·rw [iP h11] at hm;refine aj rfl (h11) ?_;refine au [53,56,57,58] fun k kp hk hp=>?_;refine go ?_;obtain ⟨y9,hc12,hm⟩:=bd hm;refine RA (ix p1 p2 p3 v1_ _ hc12) [0,1] ?_;rintro p σ' ⟨rfl,rfl⟩ _;refine ab ?_;refine go ?_;refine hk _ _ ?_;clear hk hp k kp;refine au [59,60,61,62,63,64] fun k kp hk hp=>?_;refine go ?_;obtain ⟨y10,hc14,hm⟩:=bd hm;refine RP (fun _=>mW y9.1 _ hc14) ?_;refine ab ?_;refine go ?_;refine hk _ _ ?_;clear hk hp k kp;refine aR fun k1 hk1=>?_;refine ax [6,65] ?_
    by_cases h15:y10.2=true
    ·rw [iP h15] at hm;refine ak rfl (by rw [show y10.2=true from (h15)];rfl) ?_;refine av ?_;refine aL (hk1 _ _ ?_);refine cB ?_;refine ap ?_;refine ao (y9.2,3,y9.1,y10.1) () hm ?_;exact ls
    ·rw [iN h15] at hm;refine aj rfl (by rw [show y10.2=false from (fB h15)];rfl) ?_;refine ax [0,3,5,66] ?_;refine aM ?_;refine cX (aT (bn ?_))
     cases hm
     exact kr 2
   ·rw [iN h11] at hm;refine ak rfl (fB h11) ?_;refine au [21,22,23,24,53] fun k kp hk hp=>?_;refine go ?_;obtain ⟨y11,hc16,hm⟩:=bd hm;refine RA (kI p1 p2 p3 v1_ _ hc16) [0,1] ?_;rintro p σ' ⟨rfl,rfl⟩ _;refine ab ?_;refine go ?_;refine hk _ _ ?_;clear hk hp k kp;refine aR fun k2 hk2=>?_;refine ax [25,26] ?_
    by_cases h18:y11=([]:List UInt8)
    ·rw [iP h18] at hm;refine aj rfl (eQ h18) ?_;refine ax [0,3,27] ?_;refine aM ?_;refine cX (aT (bn ?_))
     cases hm
     exact kr 2
    ·rw [iN h18] at hm;refine ak rfl (nB h18) ?_;refine av ?_;refine aL (hk2 _ _ ?_);refine vW [0,1,3,7,0,16,48,127,255,511,1023] [false,false,false,false,false,false,false,true,true,true,true] ?_;refine ap ?_;refine ao ((IntKind.wrap .i64 (p2+(y11.length:Int))),4,y11,0) () hm ?_;exact ls
 ·rintro ⟨x1,x2,s3,x4⟩ _ hm;replace hm:bj p2 p3 x1 x2 s3 x4=some r:=hm;refine bw ?_;unfold bj at hm;obtain ⟨⟨hg1ax,hg1ay⟩,hm⟩:=gd hm;refine km [0,3,70,71,72,73,74,75,76,77,78,79] (by kernel_rfl) [1] [0,0,2,6,14,0,32,126,255,511,1023] [false,false,false,false,false,false,false,false,true,true,true] [false,false,false,false,false,false,false,true,false,false,false] [[0],[],[],[],[],[],[],[],[],[],[]] (by kernel_rfl) fun k hk=>?_;refine gp ?_;refine hk _ _ ?_;clear hk k;refine bU [.box [.str p1,.int .i64 x1,.osl 1 (v1_+1) 0 (p3.length+1)],.arr 4 (v1_+1) 35 ((p3++(lit ([(aa.mk x2 p2 s3 x4)]:List aa))).map aa.enc),.box [.int .i64 x2,.int .i64 p2,.str s3,.int .i64 x4],.arr 4 0 35 ((lit ([(aa.mk x2 p2 s3 x4)]:List aa)).map aa.enc)] ?_;refine ax [] ?_;refine aM ?_
  cases hm
  exact kr 2
theorem oe(p1:List UInt8)(r:((List aa)×bl))(hm:gK p1=some r):eU Tryd.prog 7 [.c (.str p1)] (.t [.c (.tree 4 (r.1.map aa.enc)),.a [.int .i64 ((r.2).code),.int .i64 ((r.2).at_)]]):=by
 refine aN 41 [.tmp 2,.cell 3 27] Tryd.func7 rfl rfl rfl (by kernel_rfl) (by simp) ?_;refine bJ ?_;unfold gK at hm;refine ax [2] ?_;refine aR fun k1 hk1=>?_;refine ax [7,8] ?_
 by_cases h1:(p1.length:Int)>12000
 ·rw [iP h1] at hm;refine aj rfl (dT h1) ?_;refine ax [0,9,10] ?_
  refine eI (fL 2 (.c (.tree 4 (([]:List _).map aa.enc))) rfl (by and_intros<;>trivial)) ?_
  refine mP ?_;refine aM ?_;refine cX ?_
  cases hm
  exact kr 0
 ·rw [iN h1] at hm;refine ak rfl (dF h1) ?_;refine av ?_;refine aL (hk1 _ _ ?_);refine ax [9,11,12,13] ?_;refine kj (i6 1 2 4 35 (by decide) rfl rfl) ?_;refine bk (S:=(Int×(List aa))) (V:=Nat) [0,2,5,6,14,15,16,17,18,19,20,21,22,23,24,25,26,27,28,29,30,31,32,33,34,35] (fun (x3,l4) v5=>[]) (fun (x3,l4) v5=>[.box [.int .i64 0,.int .i64 0],.box [.str p1,.int .i64 x3,.osl 2 v5 0 l4.length],.arr 4 v5 35 (l4.map aa.enc)]) (fun (x3,l4)=>gH x3 l4=some r) ?_ ?_
  ·skip;refine au [14,15] fun k kp hk hp=>?_
   refine go ?_;obtain ⟨y6,hc2,hm⟩:=bd hm;refine RA (hI p1 0 [] 0 _ hc2) [1,2] ?_;rintro p σ' ⟨rfl,rfl⟩ _;refine ab ?_;refine go ?_;refine hk _ _ ?_;clear hk hp k kp;refine aY ?_;obtain ⟨o1,hl1,hm1⟩:=bd hm;refine dB (S:=(Int×(List aa))) (V:=Nat) (O:=(Int×(List aa)) ⊕ ((List aa)×bl)) [2,5,6,16,17,18,19,20,21,22,23,24,25,26,27,28,29,30,31,32,33,34,35] (fun (x19,l20) v21=>[]) (fun (x19,l20) v21=>[.box [.int .i64 0,.int .i64 0],.box [.str p1,.int .i64 x19,.osl 2 v21 0 l20.length],.arr 4 v21 35 (l20.map aa.enc)]) _ _ 0 hl1 ?_ ?_
   ·exact ls
   ·rintro ⟨x19,l20⟩ v21 r1 hm hr1;replace hm:dD p1 x19 l20=some r1:=hm;refine bw ?_;unfold dD at hm;refine aR fun k2 hk2=>?_;refine ax [16,17,18,19,20,21] ?_
    by_cases h4:x19<(p1.length:Int)
    ·rw [iP h4] at hm;refine aj rfl (dT h4) ?_;refine av ?_;refine aL (hk2 _ _ ?_);refine aR fun k3 hk3=>?_;refine aY ?_;refine ax [22,25,26,27,28] ?_;refine au [29,30] fun k kp hk hp=>?_;refine go ?_;obtain ⟨y22,hc5,hm⟩:=bd hm;refine RA (kX p1 x19 l20 v21 _ hc5) [1,2] ?_;rintro p σ' hq6 _;obtain ⟨v23,rfl,rfl⟩:=hq6;refine ab ?_;refine go ?_;refine hk _ _ ?_;clear hk hp k kp;refine ax [31] ?_
     by_cases h7:¬ y22.1=0
     ·rw [iP h7] at hm;refine aj rfl (bne_iff_ne.2 h7) ?_;refine ax [0,4,5,6,32,33,34,35] ?_
      refine eI (fL 2 (.c (.tree 4 (([]:List _).map aa.enc))) rfl (by and_intros<;>trivial)) ?_
      refine mP ?_;have ho8:=a8 hm hr1;subst ho8;replace hm:some ([],(bl.mk y22.1 x19))=some r:=hm1;refine aM ?_;refine aT (cX (eV (aT (bn ?_))))
      cases hm
      exact kr 0
     ·rw [iN h7] at hm;refine ak rfl (bne_eq_false_iff_eq.2 (Decidable.not_not.1 h7)) ?_;refine av ?_;refine ap ?_;refine aL (hk3 _ _ ?_);refine bf fun k kp hk hp=>?_;refine go ?_;obtain ⟨y24,hc9,hm⟩:=bd hm;refine RA (hI p1 y22.2.1 y22.2.2 v23 _ hc9) [1,2] ?_;rintro p σ' ⟨rfl,rfl⟩ _;refine ab ?_;refine go ?_;refine hk _ _ ?_;clear hk hp k kp;refine aH (y24,y22.2.2) v23 hm ?_;exact ls
    ·rw [iN h4] at hm;refine ak rfl (dF h4) ?_;refine e7 ?_;have ho11:=a8 hm hr1;subst ho11;replace hm:gH x19 l20=some r:=hm1;refine eC (cM (bx ?_));refine ao (x19,l20) v21 hm ?_;exact ls
  ·rintro ⟨x3,l4⟩ v5 hm;replace hm:gH x3 l4=some r:=hm;refine bw ?_;unfold gH at hm;refine ax [4,36,37,38,39,40] ?_;refine kj (aB 2 rfl) ?_;refine aM ?_
   cases hm
   exact kr 0
theorem fQ(p1:List (List UInt8))(p2:List UInt8)(r:Int)(hm:ci p1 p2=some r):eU Tryd.prog 35 [.c (.tree 1 (p1.map eS)),.c (.str p2)] (.c (.int .i64 r)):=by
 refine aN 19 [.tmp 4] Tryd.func35 rfl rfl rfl (by kernel_rfl) (by simp) ?_;refine bJ ?_;unfold ci at hm;refine ax [4] ?_;refine bk (S:=Unit) (V:=Unit) [0,1,4,5,6,7,8,9,10,11,12,13,14,15,16,17,18] (fun _ _=>[]) (fun _ _=>[]) (fun _=>bH=some r) ?_ ?_
 ·skip;refine ax [6] ?_
  refine aY ?_;obtain ⟨o1,hl1,hm1⟩:=bd hm;refine dB (S:=Int) (V:=Unit) (O:=Unit ⊕ Int) [4,5,8,9,10,11,12,13,14,15,16,17,18] (fun x3 _=>[(8,.c (.int .i64 x3))]) (fun x3 _=>[]) _ _ () hl1 ?_ ?_
  ·exact ls
  ·rintro x3 _ r1 hm hr1;replace hm:cn p1 p2 x3=some r1:=hm;refine bw ?_;unfold cn at hm;refine ax [] ?_;refine aR fun k1 hk1=>?_
   by_cases h1:x3<(p1.length:Int)
   ·rw [iP h1] at hm;refine aj rfl (dT h1) ?_;refine av ?_;refine aL (hk1 _ _ ?_);refine aR fun k2 hk2=>?_;refine aY ?_;refine ax [9,10] ?_;obtain ⟨hg2a,hm⟩:=gd hm;refine gG (em eS p1 x3.toNat) [11,12,13,14,15] ?_
    by_cases h3:p2=(p1.getD x3.toNat default)
    ·rw [iP h3] at hm;refine aj rfl (eQ h3) ?_;refine ax [0,1,5,7,8,16,17] ?_;have ho4:=a8 hm hr1;subst ho4;replace hm:some x3=some r:=hm1;refine aM ?_;refine aT (cX (eV (aT (bn ?_))))
     cases hm
     exact kr 0
    ·rw [iN h3] at hm;refine ak rfl (nB h3) ?_;refine av ?_;refine ap ?_;refine aL (hk2 _ _ ?_);refine cB ?_;refine aH (IntKind.wrap .i64 (x3+1)) () hm ?_;exact ls
   ·rw [iN h1] at hm;refine ak rfl (dF h1) ?_;refine e7 ?_;have ho5:=a8 hm hr1;subst ho5;replace hm:bH=some r:=hm1;refine eC (cM (bx ?_));refine ao () () hm ?_;exact ls
 ·rintro _ _ hm;replace hm:bH=some r:=hm;refine bw ?_;unfold bH at hm;refine ax [] ?_;refine aM ?_
  cases hm
  exact kr 0
theorem hK(p1:List (List UInt8))(p2:List UInt8)(r:Bool)(hm:co p1 p2=some r):eU Tryd.prog 20 [.c (.tree 1 (p1.map eS)),.c (.str p2)] (.c (.bool r)):=by
 refine aN 9 [.tmp 4] Tryd.func20 rfl rfl rfl (by kernel_rfl) (by simp) ?_;refine bJ ?_;unfold co at hm;refine ax [4] ?_;refine au [0,1,5,6,7,8] fun k kp hk hp=>?_;refine go ?_;obtain ⟨y1,hc1,hm⟩:=bd hm;refine RP (fun _=>fQ p1 p2 _ hc1) ?_;refine ab ?_;refine go ?_;refine hk _ _ ?_;clear hk hp k kp;refine aM ?_
 cases hm
 exact kr 0
theorem aD(p1:List (List UInt8))(p2:ae)(r:Bool)(hm:aC p1 p2=some r):ck Tryd.prog 9 [.c (.optr 0 0),.c (.tree 1 (p1.map eS))] [.box [.tree 4 (p2.l.map aa.enc),.int .i64 p2.end_,.int .i64 p2.open_,.int .i64 p2.terms]] (fun p σ=>(p=.c (.bool r)∧σ=[.box [.tree 4 (p2.l.map aa.enc),.int .i64 p2.end_,.int .i64 p2.open_,.int .i64 p2.terms]])) (fun _ _=>False):=by
 refine aN 32 [.tmp 4] Tryd.func9 rfl rfl rfl (by kernel_rfl) (by simp) ?_;refine bJ ?_;unfold aC at hm;refine ax [4] ?_;refine cR [0,1,5,6,7,8,9,10,11,12,13,14,15,16,17,18,19,20,21,22,23,24,25,26,27,28,29,30,31] fun k kp hk hp=>?_;refine aq 7 ?_;refine go ?_
 by_cases h1:(p2.l.length:Int)>0
 ·rw [iP h1] at hm;have h1b:=dT h1;obtain ⟨hg2a,hm⟩:=gd hm;refine aq 10 ?_;refine gox (a2 (em aa.enc p2.l 0) h1b) ?_
  by_cases h3:¬ ((p2.l.getD 0 default).kind)=2
  ·rw [iP h3] at hm;have h3b:=bne_iff_ne.2 h3;refine ab ?_;refine gox (a2 (em aa.enc p2.l 0) (a2 h1b h3b)) ?_;obtain ⟨y1,hc4,hm⟩:=bd hm;refine RP (fun _=>hK p1 ((p2.l.getD 0 default).text) _ hc4) ?_;refine ab ?_;refine gox (a2 h1b h3b) ?_;refine hk _ _ ?_;clear hk hp k kp;refine aM ?_
   cases hm
   exact kr 1
  ·rw [iN h3] at hm;have h3b:(((p2.l.getD 0 default).kind) != 2)=false:=bne_eq_false_iff_eq.2 (Decidable.not_not.1 h3);refine ab ?_;refine gox (a2 h1b h3b) ?_;refine hk _ _ ?_;clear hk hp k kp;refine aM ?_
   cases hm
   exact kr 1
 ·rw [iN h1] at hm;have h1b:=dF h1;refine ab ?_;refine gox h1b ?_;refine hk _ _ ?_;clear hk hp k kp;refine aM ?_
  cases hm
  exact kr 1
theorem aI(p1:Int)(p2:ae)(r:(Int×Int))(hm:aF p1 p2=some r):ck Tryd.prog 10 [.c (.optr 0 0),.c (.int .i64 p1)] [.box [.tree 4 (p2.l.map aa.enc),.int .i64 p2.end_,.int .i64 p2.open_,.int .i64 p2.terms]] (fun p σ=>False) (fun p _=>p=.c (.ifc 48 true (nsC [(.i64,r.1),(.i64,r.2)]))):=by
 refine aN 28 [] Tryd.func10 rfl rfl rfl (by kernel_rfl) (by simp) ?_;refine bJ ?_;unfold aF at hm;refine ax [5,6,7,8] ?_;refine aR fun k1 hk1=>?_;refine ax [9,10,11,12,13] ?_
 by_cases h1:(p2.l.length:Int)>0
 ·rw [iP h1] at hm;refine aj rfl (dT h1) ?_;obtain ⟨hg2a,hm⟩:=gd hm;refine tP (em aa.enc p2.l 0) ?_;refine aL (hk1 _ _ ?_);refine ll fun k kp hk hp=>?_;refine aq 3 ?_;refine go ?_
  refine RS (m6 (ns:=[(.i64,p1),(.i64,(p2.l.getD 0 default).at_)]) rfl (by first|rfl|(simp only [bR,bT,tab,bX,reduceIte,↓reduceIte,reduceCtorEq,Int.reduceToNat,Nat.reduceDiv,Nat.reduceMod,Nat.reduceLT,Nat.reduceLeDiff,Nat.reduceAdd,Nat.reduceSub,Nat.reduceMul,Nat.reduceEqDiff,Nat.reduceBEq,Nat.reduceBNe,Nat.reduceGT];done)) (by first|kernel_rfl|exact of_decide_eq_true (by kernel_rfl))) ?_
  simp only [bR,bT,tab,bX,reduceIte,↓reduceIte,reduceCtorEq,Int.reduceToNat,Nat.reduceDiv,Nat.reduceMod,Nat.reduceLT,Nat.reduceLeDiff,Nat.reduceAdd,Nat.reduceSub,Nat.reduceMul,Nat.reduceEqDiff,Nat.reduceBEq,Nat.reduceBNe,Nat.reduceGT]
  refine ip rfl (by first|rfl|(simp only [bR,bT,tab,bX,reduceIte,↓reduceIte,reduceCtorEq,Int.reduceToNat,Nat.reduceDiv,Nat.reduceMod,Nat.reduceLT,Nat.reduceLeDiff,Nat.reduceAdd,Nat.reduceSub,Nat.reduceMul,Nat.reduceEqDiff,Nat.reduceBEq,Nat.reduceBNe,Nat.reduceGT];done)) (by first|rfl|(simp only [bR,bT,tab,bX,reduceIte,↓reduceIte,reduceCtorEq,Int.reduceToNat,Nat.reduceDiv,Nat.reduceMod,Nat.reduceLT,Nat.reduceLeDiff,Nat.reduceAdd,Nat.reduceSub,Nat.reduceMul,Nat.reduceEqDiff,Nat.reduceBEq,Nat.reduceBNe,Nat.reduceGT];done)) ?_
  refine hp _ _ _ ?_;obtain rfl:=sI hm;exact rfl
 ·rw [iN h1] at hm;refine ak rfl (dF h1) ?_;refine ax [0,14,22] ?_
  by_cases h3:p1=4
  ·rw [iP h3] at hm;refine aj rfl (eQ h3) ?_;refine cB ?_;refine aL (hk1 _ _ ?_);refine ll fun k kp hk hp=>?_;refine aq 3 ?_;refine go ?_
   refine RS (m6 (ns:=[(.i64,5),(.i64,p2.end_)]) rfl (by first|rfl|(simp only [bR,bT,tab,bX,reduceIte,↓reduceIte,reduceCtorEq,Int.reduceToNat,Nat.reduceDiv,Nat.reduceMod,Nat.reduceLT,Nat.reduceLeDiff,Nat.reduceAdd,Nat.reduceSub,Nat.reduceMul,Nat.reduceEqDiff,Nat.reduceBEq,Nat.reduceBNe,Nat.reduceGT];done)) (by first|kernel_rfl|exact of_decide_eq_true (by kernel_rfl))) ?_
   simp only [bR,bT,tab,bX,reduceIte,↓reduceIte,reduceCtorEq,Int.reduceToNat,Nat.reduceDiv,Nat.reduceMod,Nat.reduceLT,Nat.reduceLeDiff,Nat.reduceAdd,Nat.reduceSub,Nat.reduceMul,Nat.reduceEqDiff,Nat.reduceBEq,Nat.reduceBNe,Nat.reduceGT]
   refine ip rfl (by first|rfl|(simp only [bR,bT,tab,bX,reduceIte,↓reduceIte,reduceCtorEq,Int.reduceToNat,Nat.reduceDiv,Nat.reduceMod,Nat.reduceLT,Nat.reduceLeDiff,Nat.reduceAdd,Nat.reduceSub,Nat.reduceMul,Nat.reduceEqDiff,Nat.reduceBEq,Nat.reduceBNe,Nat.reduceGT];done)) (by first|rfl|(simp only [bR,bT,tab,bX,reduceIte,↓reduceIte,reduceCtorEq,Int.reduceToNat,Nat.reduceDiv,Nat.reduceMod,Nat.reduceLT,Nat.reduceLeDiff,Nat.reduceAdd,Nat.reduceSub,Nat.reduceMul,Nat.reduceEqDiff,Nat.reduceBEq,Nat.reduceBNe,Nat.reduceGT];done)) ?_
   refine hp _ _ _ ?_;obtain rfl:=sI hm;exact rfl
  ·rw [iN h3] at hm;refine ak rfl (nB h3) ?_;refine av ?_;refine aL (hk1 _ _ ?_);refine ll fun k kp hk hp=>?_;refine aq 3 ?_;refine go ?_
   refine RS (m6 (ns:=[(.i64,p1),(.i64,p2.end_)]) rfl (by first|rfl|(simp only [bR,bT,tab,bX,reduceIte,↓reduceIte,reduceCtorEq,Int.reduceToNat,Nat.reduceDiv,Nat.reduceMod,Nat.reduceLT,Nat.reduceLeDiff,Nat.reduceAdd,Nat.reduceSub,Nat.reduceMul,Nat.reduceEqDiff,Nat.reduceBEq,Nat.reduceBNe,Nat.reduceGT];done)) (by first|kernel_rfl|exact of_decide_eq_true (by kernel_rfl))) ?_
   simp only [bR,bT,tab,bX,reduceIte,↓reduceIte,reduceCtorEq,Int.reduceToNat,Nat.reduceDiv,Nat.reduceMod,Nat.reduceLT,Nat.reduceLeDiff,Nat.reduceAdd,Nat.reduceSub,Nat.reduceMul,Nat.reduceEqDiff,Nat.reduceBEq,Nat.reduceBNe,Nat.reduceGT]
   refine ip rfl (by first|rfl|(simp only [bR,bT,tab,bX,reduceIte,↓reduceIte,reduceCtorEq,Int.reduceToNat,Nat.reduceDiv,Nat.reduceMod,Nat.reduceLT,Nat.reduceLeDiff,Nat.reduceAdd,Nat.reduceSub,Nat.reduceMul,Nat.reduceEqDiff,Nat.reduceBEq,Nat.reduceBNe,Nat.reduceGT];done)) (by first|rfl|(simp only [bR,bT,tab,bX,reduceIte,↓reduceIte,reduceCtorEq,Int.reduceToNat,Nat.reduceDiv,Nat.reduceMod,Nat.reduceLT,Nat.reduceLeDiff,Nat.reduceAdd,Nat.reduceSub,Nat.reduceMul,Nat.reduceEqDiff,Nat.reduceBEq,Nat.reduceBNe,Nat.reduceGT];done)) ?_
   refine hp _ _ _ ?_;obtain rfl:=sI hm;exact rfl
theorem aO(p1:ae)(r:(aa×(List aa)))(hm:aG p1=some r):ck Tryd.prog 21 [.c (.optr 0 0)] [.box [.tree 4 (p1.l.map aa.enc),.int .i64 p1.end_,.int .i64 p1.open_,.int .i64 p1.terms]] (fun p σ=>(p=.a [.int .i64 ((r.1).kind),.int .i64 ((r.1).at_),.str ((r.1).text),.int .i64 ((r.1).n)]∧σ=[.box [.tree 4 (r.2.map aa.enc),.int .i64 p1.end_,.int .i64 p1.open_,.int .i64 p1.terms]])) (fun _ _=>False):=by
 refine aN 19 [.cell 2 35] Tryd.func21 rfl rfl rfl (by kernel_rfl) (by simp) ?_;refine bJ ?_;unfold aG at hm;refine ax [] ?_;obtain ⟨hg1a,hm⟩:=gd hm;refine gG (em aa.enc p1.l 0) [4,5,6,7,8,9] ?_;obtain ⟨hg2a,hm⟩:=gd hm;refine ax [0,10,11,12,13,14,15,16,17] ?_;refine ax [3,18] ?_;refine aM ?_
 cases hm
 exact kr 1
theorem hU(p1:Int)(p2:ae)(r:(aa×(List aa)) ⊕ (Int×Int))(hm:cw p1 p2=some r):ck Tryd.prog 36 [.c (.optr 0 0),.c (.int .i64 p1)] [.box [.tree 4 (p2.l.map aa.enc),.int .i64 p2.end_,.int .i64 p2.open_,.int .i64 p2.terms]] (fun p σ=>(Sum.elim (fun z=>(p=.a [.int .i64 ((z.1).kind),.int .i64 ((z.1).at_),.str ((z.1).text),.int .i64 ((z.1).n)]∧σ=[.box [.tree 4 (z.2.map aa.enc),.int .i64 p2.end_,.int .i64 p2.open_,.int .i64 p2.terms]])) (fun z=>False)) r) (fun p _=>(Sum.elim (fun z=>False) (fun z=>p=.c (.ifc 48 true (nsC [(.i64,z.1),(.i64,z.2)])))) r):=by
 refine aN 26 [.cell 4 35] Tryd.func36 rfl rfl rfl (by kernel_rfl) (by simp) ?_;refine bJ ?_;unfold cw at hm;refine ax [] ?_;refine aR fun k1 hk1=>?_;refine cR [1,5,6,7,8,9,10,11,12,13,14,15,16,17,18,19,20] fun k kp hk hp=>?_;refine aq 7 ?_;refine go ?_
 by_cases h1:(p2.l.length:Int)=0
 ·rw [iP h1] at hm;have h1b:=eQ h1;refine ab ?_;refine gox h1b ?_;refine hk _ _ ?_;clear hk hp k kp;refine aj rfl rfl ?_;refine bf fun k kp hk hp=>?_;refine go ?_;obtain ⟨y1,hc2,hm⟩:=bd hm
  refine am (aI 4 p2  _ hc2) [0] (by first|trivial|exact aA rfl) (by first|trivial|(intro _;first|trivial|simp [an])|simp [an]) (by simp) (by simp) rfl rfl (by first|trivial|(simp [bX,eK,eB,eS,eL,ar,ah,PV.under,CV.under,af,OB.under,ag];done)) (by first|trivial|(simp [bX,eK,eB,eS,eL,ar,ah,PV.under,CV.under,af,OB.under,ag];done)) ?_ ?_
  rotate_left
  ·rintro p σ' hpp hpl;skip;subst hpp;refine hp _ _ _ ?_;refine bN ?_;obtain rfl:=sI hm;exact rfl
  rintro p σ' hq3 _;exact False.elim hq3
 ·rw [iN h1] at hm;have h1b:=nB h1;obtain ⟨hg4a,hm⟩:=gd hm;refine ab ?_;refine gox (a2 (em aa.enc p2.l 0) h1b) ?_;refine hk _ _ ?_;clear hk hp k kp
  by_cases h5:¬ ((p2.l.getD 0 default).kind)=p1
  ·rw [iP h5] at hm;refine aj rfl (bne_iff_ne.2 h5) ?_;refine bf fun k kp hk hp=>?_;refine go ?_;obtain ⟨y2,hc6,hm⟩:=bd hm
   refine am (aI 4 p2  _ hc6) [0] (by first|trivial|exact aA rfl) (by first|trivial|(intro _;first|trivial|simp [an])|simp [an]) (by simp) (by simp) rfl rfl (by first|trivial|(simp [bX,eK,eB,eS,eL,ar,ah,PV.under,CV.under,af,OB.under,ag];done)) (by first|trivial|(simp [bX,eK,eB,eS,eL,ar,ah,PV.under,CV.under,af,OB.under,ag];done)) ?_ ?_
   rotate_left
   ·rintro p σ' hpp hpl;skip;subst hpp;refine hp _ _ _ ?_;refine bN ?_;obtain rfl:=sI hm;exact rfl
   rintro p σ' hq7 _;exact False.elim hq7
  ·rw [iN h5] at hm;refine ak rfl (bne_eq_false_iff_eq.2 (Decidable.not_not.1 h5)) ?_;refine av ?_;refine aL (hk1 _ _ ?_);refine au [0,21,24,25] fun k kp hk hp=>?_;refine go ?_;obtain ⟨y3,hc8,hm⟩:=bd hm;refine RA (aO p2  _ hc8) [0] ?_;rintro p σ' ⟨rfl,rfl⟩ _;refine ab ?_;refine go ?_;refine hk _ _ ?_;clear hk hp k kp;refine aM ?_
   cases hm
   exact kr 1
theorem bt(p1:ae)(r:((List UInt8)×(List aa)) ⊕ (Int×Int))(hm:bm p1=some r):ck Tryd.prog 22 [.c (.optr 0 0)] [.box [.tree 4 (p1.l.map aa.enc),.int .i64 p1.end_,.int .i64 p1.open_,.int .i64 p1.terms]] (fun p σ=>(Sum.elim (fun z=>(p=.c (.str z.1)∧σ=[.box [.tree 4 (z.2.map aa.enc),.int .i64 p1.end_,.int .i64 p1.open_,.int .i64 p1.terms]])) (fun z=>False)) r) (fun p _=>(Sum.elim (fun z=>False) (fun z=>p=.c (.ifc 48 true (nsC [(.i64,z.1),(.i64,z.2)])))) r):=by
 refine aN 6 [.tmp 2] Tryd.func22 rfl rfl rfl (by kernel_rfl) (by simp) ?_;refine bJ ?_;unfold bm at hm;refine ax [2] ?_;refine au [0,3,4,5] fun k kp hk hp=>?_;refine go ?_;obtain ⟨y1,hc1,hm⟩:=bd hm
 refine am (hU 2 p1  _ hc1) [0] (by first|trivial|exact aA rfl) (by first|trivial|(intro _;first|trivial|simp [an])|simp [an]) (by simp) (by simp) rfl rfl (by first|trivial|(simp [bX,eK,eB,eS,eL,ar,ah,PV.under,CV.under,af,OB.under,ag];done)) (by first|trivial|(simp [bX,eK,eB,eS,eL,ar,ah,PV.under,CV.under,af,OB.under,ag];done)) ?_ ?_
 rotate_left
 ·rintro p σ' hpp hpl
  rcases y1 with y2|y3
  ·exact False.elim hpp
  simp only [Sum.elim_inl,Sum.elim_inr] at hm hpp;subst hpp;refine hp _ _ _ ?_;obtain rfl:=sI hm;exact rfl
 rintro p σ' hq2 _
 rcases y1 with y4|y5
 ·skip;simp only [Sum.elim_inl,Sum.elim_inr] at hm hq2
  obtain ⟨rfl,rfl⟩:=hq2;refine ab ?_;refine go ?_;refine hk _ _ ?_;clear hk hp k kp;refine aM ?_
  cases hm
  exact kr 1
 ·skip;exact False.elim hq2
theorem bB(p1:List UInt8)(p2:ae)(r:(Bool×(List aa)))(hm:bg p1 p2=some r):ck Tryd.prog 23 [.c (.optr 0 0),.c (.str p1)] [.box [.tree 4 (p2.l.map aa.enc),.int .i64 p2.end_,.int .i64 p2.open_,.int .i64 p2.terms]] (fun p σ=>(p=.c (.bool r.1)∧σ=[.box [.tree 4 (r.2.map aa.enc),.int .i64 p2.end_,.int .i64 p2.open_,.int .i64 p2.terms]])) (fun _ _=>False):=by
 refine aN 14 [.tmp 4] Tryd.func23 rfl rfl rfl (by kernel_rfl) (by simp) ?_;refine bJ ?_;unfold bg at hm;refine ax [4] ?_;refine au [1,6,7,8,9] fun k kp hk hp=>?_;refine go ?_;refine ay (aB 1 rfl) ?_;refine gt ?_;obtain ⟨y1,hc1,hm⟩:=bd hm;refine RA (aD (lit ([p1]:List (List UInt8))) p2  _ hc1) [0] ?_;rintro p σ' ⟨rfl,rfl⟩ _;refine ab ?_;refine go ?_;refine hk _ _ ?_;clear hk hp k kp;refine aR fun k1 hk1=>?_;refine ax [] ?_
 by_cases h3:y1=true
 ·rw [iP h3] at hm;refine aj rfl (h3) ?_;refine bf fun k kp hk hp=>?_;refine go ?_;obtain ⟨y2,hc4,hm⟩:=bd hm;refine RA (aO p2  _ hc4) [0] ?_;rintro p σ' ⟨rfl,rfl⟩ _;refine ab ?_;refine go ?_;refine hk _ _ ?_;clear hk hp k kp;refine aL (hk1 _ _ ?_);refine ax [0,5,10,11,12,13] ?_;refine aM ?_
  cases hm
  exact kr 1
 ·rw [iN h3] at hm;refine ak rfl (fB h3) ?_;refine av ?_;refine aL (hk1 _ _ ?_);refine ax [0,5,10,13] ?_;refine aM ?_
  cases hm
  exact kr 1
theorem iy(p1:Int)(p2:ae)(r:((List (List UInt8))×(List aa)) ⊕ (Int×Int))(hm:dK p1 p2=some r):ck Tryd.prog 24 [.c (.optr 0 0),.c (.int .i64 p1),.c (.fn 4118 [.optr 0 0])] [.box [.tree 4 (p2.l.map aa.enc),.int .i64 p2.end_,.int .i64 p2.open_,.int .i64 p2.terms]] (fun p σ=>(Sum.elim (fun z=>(p=.c (.tree 1 (z.1.map eS))∧σ=[.box [.tree 4 (z.2.map aa.enc),.int .i64 p2.end_,.int .i64 p2.open_,.int .i64 p2.terms]])) (fun z=>False)) r) (fun p _=>(Sum.elim (fun z=>False) (fun z=>p=.c (.ifc 48 true (nsC [(.i64,z.1),(.i64,z.2)])))) r):=by
 refine aN 23 [.tmp 6] Tryd.func24 rfl rfl rfl (by kernel_rfl) (by simp) ?_;refine bJ ?_;unfold dK at hm;refine ax [6] ?_;refine ax [] ?_;refine aY ?_;refine eI (jO 7 1 9 (by decide) rfl (Nat.le_of_ble_eq_true rfl)) ?_;refine pB ?_;obtain ⟨o1,hl1,hm1⟩:=bd hm;refine dB (S:=((List aa)×(List (List UInt8)))) (V:=Nat) (O:=((List (List UInt8))×(List aa)) ⊕ (Int×Int)) [6,7,8,9,10,11,12,13,14,15,16,17,18,19,20,21,22] (fun (l13,l14) v15=>[(7,.c (.osl 1 v15 0 l14.length))]) (fun (l13,l14) v15=>[.box [.tree 4 (l13.map aa.enc),.int .i64 p2.end_,.int .i64 p2.open_,.int .i64 p2.terms],.arr 1 v15 9 (l14.map eS)]) _ _ 0 hl1 ?_ ?_
 ·exact ls
 ·rintro ⟨l13,l14⟩ v15 r1 hm hr1;replace hm:dw p1 p2 l13 l14=some r1:=hm;refine bw ?_;unfold dw at hm;refine aY ?_;refine aR fun k1 hk1=>?_;refine ax [8,9,10] ?_
  by_cases h1:(l14.length:Int)=p1
  ·rw [iP h1] at hm;refine aj rfl (eQ h1) ?_;refine bf fun k kp hk hp=>?_;refine go ?_;obtain ⟨y16,hc2,hm⟩:=bd hm
   refine am (aI 7 (ae.mk l13 p2.end_ p2.open_ p2.terms)  _ hc2) [0] (by first|trivial|exact aA rfl) (by first|trivial|(intro _;first|trivial|simp [an])|simp [an]) (by simp) (by simp) rfl rfl (by first|trivial|(simp [bX,eK,eB,eS,eL,ar,ah,PV.under,CV.under,af,OB.under,ag];done)) (by first|trivial|(simp [bX,eK,eB,eS,eL,ar,ah,PV.under,CV.under,af,OB.under,ag];done)) ?_ ?_
   rotate_left
   ·rintro p σ' hpp hpl;skip;subst hpp;have ho4:=a8 hm hr1;subst ho4;replace hm:some (.inr (y16.1,y16.2))=some r:=hm1;refine hp _ _ _ ?_;refine bN ?_;refine aP ?_;refine cm ?_;refine aP ?_;obtain rfl:=sI hm;exact rfl
   rintro p σ' hq3 _;exact False.elim hq3
  ·rw [iN h1] at hm;refine ak rfl (nB h1) ?_;refine av ?_;refine aL (hk1 _ _ ?_);refine au [11,14,15,16,17,18] fun k kp hk hp=>?_;refine go ?_;obtain ⟨y17,hc5,hm⟩:=bd hm
   refine am (bt (ae.mk l13 p2.end_ p2.open_ p2.terms)  _ hc5) [0] (by first|trivial|exact aA rfl) (by first|trivial|(intro _;first|trivial|simp [an])|simp [an]) (by simp) (by simp) rfl rfl (by first|trivial|(simp [bX,eK,eB,eS,eL,ar,ah,PV.under,CV.under,af,OB.under,ag];done)) (by first|trivial|(simp [bX,eK,eB,eS,eL,ar,ah,PV.under,CV.under,af,OB.under,ag];done)) ?_ ?_
   rotate_left
   ·rintro p σ' hpp hpl
    rcases y17 with y18|y19
    ·exact False.elim hpp
    simp only [Sum.elim_inl,Sum.elim_inr] at hm hpp;subst hpp;have ho7:=a8 hm hr1;subst ho7;replace hm:some (.inr (y19.1,y19.2))=some r:=hm1;refine hp _ _ _ ?_;refine aP ?_;refine cm ?_;refine aP ?_;obtain rfl:=sI hm;exact rfl
   rintro p σ' hq6 _
   rcases y17 with y20|y21
   ·skip;simp only [Sum.elim_inl,Sum.elim_inr] at hm hq6
    obtain ⟨rfl,rfl⟩:=hq6;obtain ⟨⟨hg8ax,hg8ay⟩,hm⟩:=gd hm;refine ab ?_;refine go ?_;refine hk _ _ ?_;clear hk hp k kp;refine bU [.box [.tree 4 (y20.2.map aa.enc),.int .i64 p2.end_,.int .i64 p2.open_,.int .i64 p2.terms],.arr 1 (v15+1) 9 ((l14++(lit ([y20.1]:List (List UInt8)))).map eS),.arr 1 0 9 ((lit ([y20.1]:List (List UInt8))).map eS)] ?_;refine au [19,20] fun k kp hk hp=>?_;refine go ?_;obtain ⟨y22,hc9,hm⟩:=bd hm;refine RA (bB ([44]:List UInt8) (ae.mk y20.2 p2.end_ p2.open_ p2.terms)  _ hc9) [0] ?_;rintro p σ' ⟨rfl,rfl⟩ _;refine ab ?_;refine go ?_;refine hk _ _ ?_;clear hk hp k kp
    by_cases h11:y22.1=true
    ·rw [iP h11] at hm;refine ak rfl (by rw [show y22.1=true from (h11)];rfl) ?_;refine av ?_;refine ap ?_;refine aH (y22.2,(l14++(lit ([y20.1]:List (List UInt8))))) (v15+1) hm ?_;exact ls
    ·rw [iN h11] at hm;refine aj rfl (by rw [show y22.1=false from (fB h11)];rfl) ?_;refine ax [0,1,2,7,21,22] ?_;refine kj (aB 1 rfl) ?_;have ho12:=a8 hm hr1;subst ho12;replace hm:some (.inl ((l14++(lit ([y20.1]:List (List UInt8)))),y22.2))=some r:=hm1;refine aM ?_;refine aT (eV (aT ?_))
     cases hm
     exact kr 1
   ·skip;exact False.elim hq6
theorem aJ(p1:List (List UInt8))(p2:ae)(r:(List aa) ⊕ (Int×Int))(hm:aE p1 p2=some r):ck Tryd.prog 25 [.c (.optr 0 0),.c (.tree 1 (p1.map eS))] [.box [.tree 4 (p2.l.map aa.enc),.int .i64 p2.end_,.int .i64 p2.open_,.int .i64 p2.terms]] (fun p σ=>(Sum.elim (fun z=>(p=.t []∧σ=[.box [.tree 4 (z.map aa.enc),.int .i64 p2.end_,.int .i64 p2.open_,.int .i64 p2.terms]])) (fun z=>False)) r) (fun p _=>(Sum.elim (fun z=>False) (fun z=>p=.c (.ifc 48 true (nsC [(.i64,z.1),(.i64,z.2)])))) r):=by
 refine aN 22 [] Tryd.func25 rfl rfl rfl (by kernel_rfl) (by simp) ?_;refine bJ ?_;unfold aE at hm;refine ax [1] ?_;refine aY ?_;obtain ⟨o1,hl1,hm1⟩:=bd hm;refine dB (S:=((List aa)×Int)) (V:=Unit) (O:=(List aa) ⊕ (Int×Int)) [5,8,9,10,11,12,13,14,15,16,17,18,19,20,21] (fun (l5,x6) _=>[(8,.c (.int .i64 x6))]) (fun (l5,x6) _=>[.box [.tree 4 (l5.map aa.enc),.int .i64 p2.end_,.int .i64 p2.open_,.int .i64 p2.terms]]) _ _ () hl1 ?_ ?_
 ·exact ls
 ·rintro ⟨l5,x6⟩ _ r1 hm hr1;replace hm:di p1 p2 l5 x6=some r1:=hm;refine bw ?_;unfold di at hm;refine ax [] ?_;refine aR fun k1 hk1=>?_
  by_cases h1:x6<(p1.length:Int)
  ·rw [iP h1] at hm;refine aj rfl (dT h1) ?_;refine av ?_;refine aL (hk1 _ _ ?_);refine aR fun k2 hk2=>?_;refine aY ?_;obtain ⟨hg2a,hm⟩:=gd hm;refine gG (em eS p1 x6.toNat) [9,10,11] ?_;refine aR fun k3 hk3=>?_;refine au [5,12,13,14,15] fun k kp hk hp=>?_;refine go ?_;refine ay (aB 1 rfl) ?_;refine gt ?_;obtain ⟨y7,hc3,hm⟩:=bd hm;refine RA (aD (lit ([(p1.getD x6.toNat default)]:List (List UInt8))) (ae.mk l5 p2.end_ p2.open_ p2.terms)  _ hc3) [0] ?_;rintro p σ' ⟨rfl,rfl⟩ _;refine ab ?_;refine go ?_;refine hk _ _ ?_;clear hk hp k kp
   by_cases h5:y7=true
   ·rw [iP h5] at hm;refine ak rfl (by rw [show y7=true from (h5)];rfl) ?_;refine av ?_;refine aL (hk3 _ _ ?_);refine bf fun k kp hk hp=>?_;refine go ?_;obtain ⟨y8,hc6,hm⟩:=bd hm;refine RA (aO (ae.mk l5 p2.end_ p2.open_ p2.terms)  _ hc6) [0] ?_;rintro p σ' ⟨rfl,rfl⟩ _;refine ab ?_;refine go ?_;refine hk _ _ ?_;clear hk hp k kp;refine ap ?_;refine aL (hk2 _ _ ?_);refine cB ?_;refine aH (y8.2,(IntKind.wrap .i64 (x6+1))) () hm ?_;exact ls
   ·rw [iN h5] at hm;refine aj rfl (by rw [show y7=false from (fB h5)];rfl) ?_;refine bf fun k kp hk hp=>?_;refine go ?_;obtain ⟨y9,hc8,hm⟩:=bd hm
    refine am (aI 4 (ae.mk l5 p2.end_ p2.open_ p2.terms)  _ hc8) [0] (by first|trivial|exact aA rfl) (by first|trivial|(intro _;first|trivial|simp [an])|simp [an]) (by simp) (by simp) rfl rfl (by first|trivial|(simp [bX,eK,eB,eS,eL,ar,ah,PV.under,CV.under,af,OB.under,ag];done)) (by first|trivial|(simp [bX,eK,eB,eS,eL,ar,ah,PV.under,CV.under,af,OB.under,ag];done)) ?_ ?_
    rotate_left
    ·rintro p σ' hpp hpl;skip;subst hpp;have ho10:=a8 hm hr1;subst ho10;replace hm:some (.inr (y9.1,y9.2))=some r:=hm1;refine hp _ _ _ ?_;refine bN ?_;refine aP ?_;refine bN ?_;refine cm ?_;refine aP ?_;obtain rfl:=sI hm;exact rfl
    rintro p σ' hq9 _;exact False.elim hq9
  ·rw [iN h1] at hm;refine ak rfl (dF h1) ?_;refine e7 ?_;have ho11:=a8 hm hr1;subst ho11;replace hm:some (.inl l5)=some r:=hm1;refine eC (cM (bx ?_))
   cases hm
   exact kn 1
theorem hY(p1:Int)(p2:ae)(r:(aw×(List aa)) ⊕ (Int×Int))(hm:eq p1 p2=some r):ck Tryd.prog 45 [.c (.optr 0 0),.c (.int .i64 p1)] [.box [.tree 4 (p2.l.map aa.enc),.int .i64 p2.end_,.int .i64 p2.open_,.int .i64 p2.terms]] (fun p σ=>(Sum.elim (fun z=>(p=.a [.int .i64 ((z.1).n),.str ((z.1).name)]∧σ=[.box [.tree 4 (z.2.map aa.enc),.int .i64 p2.end_,.int .i64 p2.open_,.int .i64 p2.terms]])) (fun z=>False)) r) (fun p _=>(Sum.elim (fun z=>False) (fun z=>p=.c (.ifc 48 true (nsC [(.i64,z.1),(.i64,z.2)])))) r):=by
 refine aN 38 [.cell 4 95] Tryd.func45 rfl rfl rfl (by kernel_rfl) (by simp) ?_;refine bJ ?_;unfold eq at hm;refine ax [] ?_;refine bk (S:=Unit) (V:=Unit) [6,7,8,9,10,11,12,13,14,15,16,17,18,19,20,21,22,23,24,25] (fun _ _=>[]) (fun _ _=>[.box [.tree 4 (p2.l.map aa.enc),.int .i64 p2.end_,.int .i64 p2.open_,.int .i64 p2.terms],.box [.int .i64 0,.str []]]) (fun _=>cH p1 p2=some r) ?_ ?_
 ·skip;refine cR [6,7,8,9,10,11,12,13,14,15,16,17,18,19,20] fun k kp hk hp=>?_
  refine aq 7 ?_;refine go ?_
  by_cases h8:(p2.l.length:Int)>0
  ·rw [iP h8] at hm;have h8b:=dT h8;obtain ⟨hg9a,hm⟩:=gd hm;refine ab ?_;refine gox (a2 (em aa.enc p2.l 0) h8b) ?_;refine hk _ _ ?_;clear hk hp k kp
   by_cases h10:((p2.l.getD 0 default).kind)=2
   ·rw [iP h10] at hm;refine aj rfl (eQ h10) ?_;refine au [0,1,21,22,23,24,25] fun k kp hk hp=>?_;refine go ?_;obtain ⟨y12,hc11,hm⟩:=bd hm
    refine am (bt p2  _ hc11) [0] (by first|trivial|exact aA rfl) (by first|trivial|(intro _;first|trivial|simp [an])|simp [an]) (by simp) (by simp) rfl rfl (by first|trivial|(simp [bX,eK,eB,eS,eL,ar,ah,PV.under,CV.under,af,OB.under,ag];done)) (by first|trivial|(simp [bX,eK,eB,eS,eL,ar,ah,PV.under,CV.under,af,OB.under,ag];done)) ?_ ?_
    rotate_left
    ·rintro p σ' hpp hpl
     rcases y12 with y13|y14
     ·exact False.elim hpp
     simp only [Sum.elim_inl,Sum.elim_inr] at hm hpp;subst hpp;refine hp _ _ _ ?_;refine be ?_;obtain rfl:=sI hm;exact rfl
    rintro p σ' hq12 _
    rcases y12 with y15|y16
    ·skip;simp only [Sum.elim_inl,Sum.elim_inr] at hm hq12
     obtain ⟨rfl,rfl⟩:=hq12;refine ab ?_;refine go ?_;refine hk _ _ ?_;clear hk hp k kp;refine aM ?_;refine bn ?_
     cases hm
     exact kr 1
    ·skip;exact False.elim hq12
   ·rw [iN h10] at hm;refine ak rfl (nB h10) ?_;refine av ?_;refine ao () () hm ?_;exact ls
  ·rw [iN h8] at hm;have h8b:=dF h8;refine ab ?_;refine gox h8b ?_;refine hk _ _ ?_;clear hk hp k kp;refine ak rfl rfl ?_;refine av ?_;refine ao () () hm ?_;exact ls
 ·rintro _ _ hm;replace hm:cH p1 p2=some r:=hm;refine bw ?_;unfold cH at hm;refine au [1,26,27,28,29,30,31] fun k kp hk hp=>?_;refine go ?_;obtain ⟨y1,hc1,hm⟩:=bd hm
  refine am (hU 3 p2  _ hc1) [0] (by first|trivial|exact aA rfl) (by first|trivial|(intro _;first|trivial|simp [an])|simp [an]) (by simp) (by simp) rfl rfl (by first|trivial|(simp [bX,eK,eB,eS,eL,ar,ah,PV.under,CV.under,af,OB.under,ag];done)) (by first|trivial|(simp [bX,eK,eB,eS,eL,ar,ah,PV.under,CV.under,af,OB.under,ag];done)) ?_ ?_
  rotate_left
  ·rintro p σ' hpp hpl
   rcases y1 with y2|y3
   ·exact False.elim hpp
   simp only [Sum.elim_inl,Sum.elim_inr] at hm hpp;subst hpp;refine hp _ _ _ ?_;obtain rfl:=sI hm;exact rfl
  rintro p σ' hq2 _
  rcases y1 with y4|y5
  ·skip;simp only [Sum.elim_inl,Sum.elim_inr] at hm hq2
   obtain ⟨rfl,rfl⟩:=hq2;refine ab ?_;refine go ?_;refine hk _ _ ?_;clear hk hp k kp;refine aR fun k1 hk1=>?_;refine au [32] fun k kp hk hp=>?_;refine go ?_;obtain ⟨y6,hc3,hm⟩:=bd hm;refine RA (bB ([42]:List UInt8) (ae.mk y4.2 p2.end_ p2.open_ p2.terms)  _ hc3) [0] ?_;rintro p σ' ⟨rfl,rfl⟩ _;refine ab ?_;refine go ?_;refine hk _ _ ?_;clear hk hp k kp
   by_cases h5:y6.1=true
   ·rw [iP h5] at hm;refine aj rfl (h5) ?_;refine bf fun k kp hk hp=>?_;refine go ?_;obtain ⟨y7,hc6,hm⟩:=bd hm
    refine am (bt (ae.mk y6.2 p2.end_ p2.open_ p2.terms)  _ hc6) [0] (by first|trivial|exact aA rfl) (by first|trivial|(intro _;first|trivial|simp [an])|simp [an]) (by simp) (by simp) rfl rfl (by first|trivial|(simp [bX,eK,eB,eS,eL,ar,ah,PV.under,CV.under,af,OB.under,ag];done)) (by first|trivial|(simp [bX,eK,eB,eS,eL,ar,ah,PV.under,CV.under,af,OB.under,ag];done)) ?_ ?_
    rotate_left
    ·rintro p σ' hpp hpl
     rcases y7 with y8|y9
     ·exact False.elim hpp
     simp only [Sum.elim_inl,Sum.elim_inr] at hm hpp;subst hpp;refine hp _ _ _ ?_;refine bN ?_;obtain rfl:=sI hm;exact rfl
    rintro p σ' hq7 _
    rcases y7 with y10|y11
    ·skip;simp only [Sum.elim_inl,Sum.elim_inr] at hm hq7
     obtain ⟨rfl,rfl⟩:=hq7;refine ab ?_;refine go ?_;refine hk _ _ ?_;clear hk hp k kp;refine aL (hk1 _ _ ?_);refine ax [0,5,33,34,35,36,37] ?_;refine aM ?_
     cases hm
     exact kr 1
    ·skip;exact False.elim hq7
   ·rw [iN h5] at hm;refine ak rfl (fB h5) ?_;refine av ?_;refine aL (hk1 _ _ ?_);refine ax [0,5,33,37] ?_;refine aM ?_
    cases hm
    exact kr 1
  ·skip;exact False.elim hq2
theorem fe(p1:ae)(r:((List aw)×(List aa)) ⊕ (Int×Int))(hm:dq p1=some r):ck Tryd.prog 40 [.c (.optr 0 0)] [.box [.tree 4 (p1.l.map aa.enc),.int .i64 p1.end_,.int .i64 p1.open_,.int .i64 p1.terms]] (fun p σ=>(Sum.elim (fun z=>(p=.c (.tree 2 (z.1.map aw.enc))∧σ=[.box [.tree 4 (z.2.map aa.enc),.int .i64 p1.end_,.int .i64 p1.open_,.int .i64 p1.terms]])) (fun z=>False)) r) (fun p _=>(Sum.elim (fun z=>False) (fun z=>p=.c (.ifc 48 true (nsC [(.i64,z.1),(.i64,z.2)])))) r):=by
 refine aN 30 [.tmp 2] Tryd.func40 rfl rfl rfl (by kernel_rfl) (by simp) ?_;refine bJ ?_;unfold dq at hm;refine ax [2] ?_;refine ax [] ?_;refine bk (S:=((List aa)×Int)) (V:=Unit) [3,5,6] (fun (l1,x2) _=>[(3,.c (.int .i64 x2))]) (fun (l1,x2) _=>[.box [.tree 4 (l1.map aa.enc),.int .i64 p1.end_,.int .i64 p1.open_,.int .i64 p1.terms]]) (fun (l1,x2)=>cJ p1 l1 x2=some r) ?_ ?_
 ·skip;refine au [5] fun k kp hk hp=>?_
  refine go ?_;obtain ⟨y43,hc18,hm⟩:=bd hm;refine RA (bB ([45]:List UInt8) p1  _ hc18) [0] ?_;rintro p σ' ⟨rfl,rfl⟩ _;refine ab ?_;refine go ?_;refine hk _ _ ?_;clear hk hp k kp
  by_cases h20:y43.1=true
  ·rw [iP h20] at hm;refine aj rfl (h20) ?_;refine cB ?_;refine ao (y43.2,(-1)) () hm ?_;exact ls
  ·rw [iN h20] at hm;refine ak rfl (fB h20) ?_;refine av ?_;refine ao (y43.2,1) () hm ?_;exact ls
 ·rintro ⟨l1,x2⟩ _ hm;replace hm:cJ p1 l1 x2=some r:=hm;refine bw ?_;unfold cJ at hm;refine au [3,7,8,9,10] fun k kp hk hp=>?_;refine go ?_;obtain ⟨y3,hc1,hm⟩:=bd hm
  refine am (hY x2 (ae.mk l1 p1.end_ p1.open_ p1.terms)  _ hc1) [0] (by first|trivial|exact aA rfl) (by first|trivial|(intro _;first|trivial|simp [an])|simp [an]) (by simp) (by simp) rfl rfl (by first|trivial|(simp [bX,eK,eB,eS,eL,ar,ah,PV.under,CV.under,af,OB.under,ag];done)) (by first|trivial|(simp [bX,eK,eB,eS,eL,ar,ah,PV.under,CV.under,af,OB.under,ag];done)) ?_ ?_
  rotate_left
  ·rintro p σ' hpp hpl
   rcases y3 with y4|y5
   ·exact False.elim hpp
   simp only [Sum.elim_inl,Sum.elim_inr] at hm hpp;subst hpp;refine hp _ _ _ ?_;obtain rfl:=sI hm;exact rfl
  rintro p σ' hq2 _
  rcases y3 with y6|y7
  ·skip;simp only [Sum.elim_inl,Sum.elim_inr] at hm hq2
   obtain ⟨rfl,rfl⟩:=hq2;refine ab ?_;refine go ?_;refine hk _ _ ?_;clear hk hp k kp;refine bU [.box [.tree 4 (y6.2.map aa.enc),.int .i64 p1.end_,.int .i64 p1.open_,.int .i64 p1.terms],.arr 2 0 95 ((lit ([(y6.1)]:List aw)).map aw.enc)] ?_;refine bk (S:=((List aa)×(List aw))) (V:=Nat) [0,3,4,11,12,13,14,15,16,17,18,19,20,21,22,23,24,25,26,27,28] (fun (l10,l11) v12=>[(4,.c (.osl 1 v12 0 l11.length))]) (fun (l10,l11) v12=>[.box [.tree 4 (l10.map aa.enc),.int .i64 p1.end_,.int .i64 p1.open_,.int .i64 p1.terms],.arr 2 v12 95 (l11.map aw.enc)]) (fun (l10,l11)=>d8 l10 l11=some r) ?_ ?_
   ·skip;refine aY ?_
    obtain ⟨o1,hl1,hm1⟩:=bd hm;refine dB (S:=((List aa)×(List aw))) (V:=Nat) (O:=((List aa)×(List aw)) ⊕ (((List aw)×(List aa)) ⊕ (Int×Int))) [3,4,11,12,13,14,15,16,17,18,19,20,21,22,23,24,25,26,27,28] (fun (l25,l26) v27=>[(4,.c (.osl 1 v27 0 l26.length))]) (fun (l25,l26) v27=>[.box [.tree 4 (l25.map aa.enc),.int .i64 p1.end_,.int .i64 p1.open_,.int .i64 p1.terms],.arr 2 v27 95 (l26.map aw.enc)]) _ _ 0 hl1 ?_ ?_
    ·exact ls
    ·rintro ⟨l25,l26⟩ v27 r1 hm hr1;replace hm:d9 p1 l25 l26=some r1:=hm;refine bw ?_;unfold d9 at hm;refine aR fun k1 hk1=>?_;refine au [11,12] fun k kp hk hp=>?_;refine go ?_;refine ay (aB 2 rfl) ?_;refine gt ?_;obtain ⟨y28,hc3,hm⟩:=bd hm;refine RA (aD (lit ([([43]:List UInt8),([45]:List UInt8)]:List (List UInt8))) (ae.mk l25 p1.end_ p1.open_ p1.terms)  _ hc3) [0] ?_;rintro p σ' ⟨rfl,rfl⟩ _;refine ab ?_;refine go ?_;refine hk _ _ ?_;clear hk hp k kp
     by_cases h5:y28=true
     ·rw [iP h5] at hm;refine aj rfl (h5) ?_;refine av ?_;refine aL (hk1 _ _ ?_);refine aY ?_;refine aR fun k2 hk2=>?_;refine ax [13,14,15] ?_
      by_cases h6:(l26.length:Int)=30
      ·rw [iP h6] at hm;refine aj rfl (eQ h6) ?_;refine bf fun k kp hk hp=>?_;refine go ?_;obtain ⟨y29,hc7,hm⟩:=bd hm
       refine am (aI 7 (ae.mk l25 p1.end_ p1.open_ p1.terms)  _ hc7) [0] (by first|trivial|exact aA rfl) (by first|trivial|(intro _;first|trivial|simp [an])|simp [an]) (by simp) (by simp) rfl rfl (by first|trivial|(simp [bX,eK,eB,eS,eL,ar,ah,PV.under,CV.under,af,OB.under,ag];done)) (by first|trivial|(simp [bX,eK,eB,eS,eL,ar,ah,PV.under,CV.under,af,OB.under,ag];done)) ?_ ?_
       rotate_left
       ·rintro p σ' hpp hpl;skip;subst hpp;have ho9:=a8 hm hr1;subst ho9;replace hm:some (.inr (y29.1,y29.2))=some r:=hm1;refine hp _ _ _ ?_;refine bN ?_;refine aP ?_;refine cm ?_;refine aP ?_;refine be ?_;obtain rfl:=sI hm;exact rfl
       rintro p σ' hq8 _;exact False.elim hq8
      ·rw [iN h6] at hm;refine ak rfl (nB h6) ?_;refine av ?_;refine aL (hk2 _ _ ?_);refine ax [16] ?_;refine bk (S:=((List aa)×Int)) (V:=Nat) [3,4,19,20,21,22] (fun (l31,x33) v32=>[(3,.c (.int .i64 x33)),(4,.c (.osl 1 v32 0 l26.length))]) (fun (l31,x33) v32=>[.box [.tree 4 (l31.map aa.enc),.int .i64 p1.end_,.int .i64 p1.open_,.int .i64 p1.terms],.arr 2 v32 95 (l26.map aw.enc),.dead]) (fun (l31,x33)=>cI p1 l26 l31 x33=some r1) ?_ ?_
       ·skip;refine au [19,20,21] fun k kp hk hp=>?_
        refine go ?_;obtain ⟨y39,hc14,hm⟩:=bd hm;refine RA (aO (ae.mk l25 p1.end_ p1.open_ p1.terms)  _ hc14) [0] ?_;rintro p σ' ⟨rfl,rfl⟩ _;refine ab ?_;refine go ?_;refine hk _ _ ?_;clear hk hp k kp
        by_cases h16:((y39.1).text)=([45]:List UInt8)
        ·rw [iP h16] at hm;refine aj rfl (eQ h16) ?_;refine cB ?_;refine ao (y39.2,(-1)) v27 hm ?_;exact ls
        ·rw [iN h16] at hm;refine ak rfl (nB h16) ?_;refine av ?_;refine ao (y39.2,1) v27 hm ?_;exact ls
       ·rintro ⟨l31,x33⟩ v32 hm;replace hm:cI p1 l26 l31 x33=some r1:=hm;refine bw ?_;unfold cI at hm;refine bf fun k kp hk hp=>?_;refine go ?_;obtain ⟨y34,hc10,hm⟩:=bd hm
        refine am (hY x33 (ae.mk l31 p1.end_ p1.open_ p1.terms)  _ hc10) [0] (by first|trivial|exact aA rfl) (by first|trivial|(intro _;first|trivial|simp [an])|simp [an]) (by simp) (by simp) rfl rfl (by first|trivial|(simp [bX,eK,eB,eS,eL,ar,ah,PV.under,CV.under,af,OB.under,ag];done)) (by first|trivial|(simp [bX,eK,eB,eS,eL,ar,ah,PV.under,CV.under,af,OB.under,ag];done)) ?_ ?_
        rotate_left
        ·rintro p σ' hpp hpl
         rcases y34 with y35|y36
         ·exact False.elim hpp
         simp only [Sum.elim_inl,Sum.elim_inr] at hm hpp;subst hpp;have ho12:=a8 hm hr1;subst ho12;replace hm:some (.inr (y36.1,y36.2))=some r:=hm1;refine hp _ _ _ ?_;refine aP ?_;refine cm ?_;refine aP ?_;refine be ?_;obtain rfl:=sI hm;exact rfl
        rintro p σ' hq11 _
        rcases y34 with y37|y38
        ·skip;simp only [Sum.elim_inl,Sum.elim_inr] at hm hq11
         obtain ⟨rfl,rfl⟩:=hq11;obtain ⟨⟨hg13ax,hg13ay⟩,hm⟩:=gd hm;refine ab ?_;refine go ?_;refine hk _ _ ?_;clear hk hp k kp;refine ap ?_;refine aH (y37.2,(l26++(lit ([(y37.1)]:List aw)))) (v32+1) hm ?_;exact ls
        ·skip;exact False.elim hq11
     ·rw [iN h5] at hm;refine ak rfl (fB h5) ?_;refine e7 ?_;have ho17:=a8 hm hr1;subst ho17;replace hm:d8 l25 l26=some r:=hm1;refine eC (cM (bx ?_));refine ao (l25,l26) v27 hm ?_;exact ls
   ·rintro ⟨l10,l11⟩ v12 hm;replace hm:d8 l10 l11=some r:=hm;refine bw ?_;unfold d8 at hm;refine ax [4,29] ?_;refine kj (aB 1 rfl) ?_;refine aM ?_
    cases hm
    exact kr 1
  ·skip;exact False.elim hq2
theorem kY(p1:ae)(r:(iG×(List aa)) ⊕ (Int×Int))(hm:eJ p1=some r):ck Tryd.prog 37 [.c (.optr 0 0)] [.box [.tree 4 (p1.l.map aa.enc),.int .i64 p1.end_,.int .i64 p1.open_,.int .i64 p1.terms]] (fun p σ=>(Sum.elim (fun z=>(p=.a [.int .u8 ((z.1).elem),.tree 2 (((z.1).n).map aw.enc)]∧σ=[.box [.tree 4 (z.2.map aa.enc),.int .i64 p1.end_,.int .i64 p1.open_,.int .i64 p1.terms]])) (fun z=>False)) r) (fun p _=>(Sum.elim (fun z=>False) (fun z=>p=.c (.ifc 48 true (nsC [(.i64,z.1),(.i64,z.2)])))) r):=by
 refine aN 21 [.cell 2 74] Tryd.func37 rfl rfl rfl (by kernel_rfl) (by simp) ?_;refine bJ ?_;unfold eJ at hm;refine ax [] ?_;refine aR fun k1 hk1=>?_;refine au [4,5,6] fun k kp hk hp=>?_;refine go ?_;refine ay (aB 2 rfl) ?_;refine gt ?_;obtain ⟨y1,hc1,hm⟩:=bd hm;refine RA (aD (lit ([([105,110,116]:List UInt8),([98,111,111,108]:List UInt8)]:List (List UInt8))) p1  _ hc1) [0] ?_;rintro p σ' ⟨rfl,rfl⟩ _;refine ab ?_;refine go ?_;refine hk _ _ ?_;clear hk hp k kp
 by_cases h3:y1=true
 ·rw [iP h3] at hm;refine ak rfl (by rw [show y1=true from (h3)];rfl) ?_;refine av ?_;refine aL (hk1 _ _ ?_);refine au [7,10,11,12,13,14] fun k kp hk hp=>?_;refine go ?_;obtain ⟨y2,hc4,hm⟩:=bd hm;refine RA (aO p1  _ hc4) [0] ?_;rintro p σ' ⟨rfl,rfl⟩ _;obtain ⟨hg6a,hm⟩:=gd hm;refine ab ?_;refine go ?_;refine hk _ _ ?_;clear hk hp k kp;refine aR fun k2 hk2=>?_;refine au [15] fun k kp hk hp=>?_;refine go ?_;obtain ⟨y3,hc7,hm⟩:=bd hm;refine RA (bB ([94]:List UInt8) (ae.mk y2.2 p1.end_ p1.open_ p1.terms)  _ hc7) [0] ?_;rintro p σ' ⟨rfl,rfl⟩ _;refine ab ?_;refine go ?_;refine hk _ _ ?_;clear hk hp k kp
  by_cases h9:y3.1=true
  ·rw [iP h9] at hm;refine aj rfl (h9) ?_;refine bf fun k kp hk hp=>?_;refine go ?_;obtain ⟨y4,hc10,hm⟩:=bd hm
   refine am (fe (ae.mk y3.2 p1.end_ p1.open_ p1.terms)  _ hc10) [0] (by first|trivial|exact aA rfl) (by first|trivial|(intro _;first|trivial|simp [an])|simp [an]) (by simp) (by simp) rfl rfl (by first|trivial|(simp [bX,eK,eB,eS,eL,ar,ah,PV.under,CV.under,af,OB.under,ag];done)) (by first|trivial|(simp [bX,eK,eB,eS,eL,ar,ah,PV.under,CV.under,af,OB.under,ag];done)) ?_ ?_
   rotate_left
   ·rintro p σ' hpp hpl
    rcases y4 with y5|y6
    ·exact False.elim hpp
    simp only [Sum.elim_inl,Sum.elim_inr] at hm hpp;subst hpp;refine hp _ _ _ ?_;refine bN ?_;obtain rfl:=sI hm;exact rfl
   rintro p σ' hq11 _
   rcases y4 with y7|y8
   ·skip;simp only [Sum.elim_inl,Sum.elim_inr] at hm hq11
    obtain ⟨rfl,rfl⟩:=hq11;refine ab ?_;refine go ?_;refine hk _ _ ?_;clear hk hp k kp;refine aL (hk2 _ _ ?_);refine ax [0,3,16,17,18,19,20] ?_;refine aM ?_
    cases hm
    exact kr 1
   ·skip;exact False.elim hq11
  ·rw [iN h9] at hm;refine ak rfl (fB h9) ?_;refine av ?_;refine aL (hk2 _ _ ?_);refine ax [0,3,16,20] ?_
   refine eI (fa 1 [.int .u8 ((((y2.1).text).getD 0 0).toNat:Int),.tree 2 ([].map aw.enc)] rfl (by and_intros<;>trivial)) ?_
   refine gg rfl (by simp only [bZ,bL,reduceIte,↓reduceIte,reduceCtorEq,Int.reduceToNat,Nat.reduceDiv,Nat.reduceMod,Nat.reduceLT,Nat.reduceLeDiff,Nat.reduceAdd,Nat.reduceSub,Nat.reduceMul,Nat.reduceEqDiff,Nat.reduceBEq,Nat.reduceBNe,Nat.reduceGT];rfl) ?_;refine aM ?_
   cases hm
   exact kr 1
 ·rw [iN h3] at hm;refine aj rfl (by rw [show y1=false from (fB h3)];rfl) ?_;refine bf fun k kp hk hp=>?_;refine go ?_;obtain ⟨y9,hc12,hm⟩:=bd hm
  refine am (aI 4 p1  _ hc12) [0] (by first|trivial|exact aA rfl) (by first|trivial|(intro _;first|trivial|simp [an])|simp [an]) (by simp) (by simp) rfl rfl (by first|trivial|(simp [bX,eK,eB,eS,eL,ar,ah,PV.under,CV.under,af,OB.under,ag];done)) (by first|trivial|(simp [bX,eK,eB,eS,eL,ar,ah,PV.under,CV.under,af,OB.under,ag];done)) ?_ ?_
  rotate_left
  ·rintro p σ' hpp hpl;skip;subst hpp;refine hp _ _ _ ?_;refine bN ?_;obtain rfl:=sI hm;exact rfl
  rintro p σ' hq13 _;exact False.elim hq13
theorem f8(p1:ae)(r:(aX×(List aa)) ⊕ (Int×Int))(hm:dr p1=some r):ck Tryd.prog 27 [.c (.optr 0 0)] [.box [.tree 4 (p1.l.map aa.enc),.int .i64 p1.end_,.int .i64 p1.open_,.int .i64 p1.terms]] (fun p σ=>(Sum.elim (fun z=>(p=.a [.str ((z.1).name),.int .u8 (((z.1).t).elem),.tree 2 ((((z.1).t).n).map aw.enc)]∧σ=[.box [.tree 4 (z.2.map aa.enc),.int .i64 p1.end_,.int .i64 p1.open_,.int .i64 p1.terms]])) (fun z=>False)) r) (fun p _=>(Sum.elim (fun z=>False) (fun z=>p=.c (.ifc 48 true (nsC [(.i64,z.1),(.i64,z.2)])))) r):=by
 refine aN 13 [.cell 2 76] Tryd.func27 rfl rfl rfl (by kernel_rfl) (by simp) ?_;refine bJ ?_;unfold dr at hm;refine ax [] ?_;refine au [4,5] fun k kp hk hp=>?_;refine go ?_;obtain ⟨y1,hc1,hm⟩:=bd hm
 refine am (bt p1  _ hc1) [0] (by first|trivial|exact aA rfl) (by first|trivial|(intro _;first|trivial|simp [an])|simp [an]) (by simp) (by simp) rfl rfl (by first|trivial|(simp [bX,eK,eB,eS,eL,ar,ah,PV.under,CV.under,af,OB.under,ag];done)) (by first|trivial|(simp [bX,eK,eB,eS,eL,ar,ah,PV.under,CV.under,af,OB.under,ag];done)) ?_ ?_
 rotate_left
 ·rintro p σ' hpp hpl
  rcases y1 with y2|y3
  ·exact False.elim hpp
  simp only [Sum.elim_inl,Sum.elim_inr] at hm hpp;subst hpp;refine hp _ _ _ ?_;obtain rfl:=sI hm;exact rfl
 rintro p σ' hq2 _
 rcases y1 with y4|y5
 ·skip;simp only [Sum.elim_inl,Sum.elim_inr] at hm hq2
  obtain ⟨rfl,rfl⟩:=hq2;refine ab ?_;refine go ?_;refine hk _ _ ?_;clear hk hp k kp;refine au [6,7,8] fun k kp hk hp=>?_;refine go ?_;refine ay (aB 2 rfl) ?_;refine gt ?_;obtain ⟨y6,hc3,hm⟩:=bd hm
  refine am (aJ (lit ([([58]:List UInt8)]:List (List UInt8))) (ae.mk y4.2 p1.end_ p1.open_ p1.terms)  _ hc3) [0] (by first|trivial|exact aA rfl) (by first|trivial|(intro _;first|trivial|simp [an])|simp [an]) (by simp) (by simp) rfl rfl (by first|trivial|(simp [bX,eK,eB,eS,eL,ar,ah,PV.under,CV.under,af,OB.under,ag];done)) (by first|trivial|(simp [bX,eK,eB,eS,eL,ar,ah,PV.under,CV.under,af,OB.under,ag];done)) ?_ ?_
  rotate_left
  ·rintro p σ' hpp hpl
   rcases y6 with y7|y8
   ·exact False.elim hpp
   simp only [Sum.elim_inl,Sum.elim_inr] at hm hpp;subst hpp;refine hp _ _ _ ?_;obtain rfl:=sI hm;exact rfl
  rintro p σ' hq4 _
  rcases y6 with y9|y10
  ·skip;simp only [Sum.elim_inl,Sum.elim_inr] at hm hq4
   obtain ⟨rfl,rfl⟩:=hq4;refine ab ?_;refine go ?_;refine hk _ _ ?_;clear hk hp k kp;refine au [0,3,9,10,11,12] fun k kp hk hp=>?_;refine go ?_;obtain ⟨y11,hc5,hm⟩:=bd hm
   refine am (kY (ae.mk y9 p1.end_ p1.open_ p1.terms)  _ hc5) [0] (by first|trivial|exact aA rfl) (by first|trivial|(intro _;first|trivial|simp [an])|simp [an]) (by simp) (by simp) rfl rfl (by first|trivial|(simp [bX,eK,eB,eS,eL,ar,ah,PV.under,CV.under,af,OB.under,ag];done)) (by first|trivial|(simp [bX,eK,eB,eS,eL,ar,ah,PV.under,CV.under,af,OB.under,ag];done)) ?_ ?_
   rotate_left
   ·rintro p σ' hpp hpl
    rcases y11 with y12|y13
    ·exact False.elim hpp
    simp only [Sum.elim_inl,Sum.elim_inr] at hm hpp;subst hpp;refine hp _ _ _ ?_;obtain rfl:=sI hm;exact rfl
   rintro p σ' hq6 _
   rcases y11 with y14|y15
   ·skip;simp only [Sum.elim_inl,Sum.elim_inr] at hm hq6
    obtain ⟨rfl,rfl⟩:=hq6;refine ab ?_;refine go ?_;refine hk _ _ ?_;clear hk hp k kp;refine aM ?_
    cases hm
    exact kr 1
   ·skip;exact False.elim hq6
  ·skip;exact False.elim hq4
 ·skip;exact False.elim hq2
theorem hM(p1:Int)(p2:ae)(r:((List aX)×(List aa)) ⊕ (Int×Int))(hm:dd p1 p2=some r):ck Tryd.prog 26 [.c (.optr 0 0),.c (.int .i64 p1),.c (.fn 4123 [.optr 0 0])] [.box [.tree 4 (p2.l.map aa.enc),.int .i64 p2.end_,.int .i64 p2.open_,.int .i64 p2.terms]] (fun p σ=>(Sum.elim (fun z=>(p=.c (.tree 3 (z.1.map aX.enc))∧σ=[.box [.tree 4 (z.2.map aa.enc),.int .i64 p2.end_,.int .i64 p2.open_,.int .i64 p2.terms]])) (fun z=>False)) r) (fun p _=>(Sum.elim (fun z=>False) (fun z=>p=.c (.ifc 48 true (nsC [(.i64,z.1),(.i64,z.2)])))) r):=by
 refine aN 23 [.tmp 6] Tryd.func26 rfl rfl rfl (by kernel_rfl) (by simp) ?_;refine bJ ?_;unfold dd at hm;refine ax [6] ?_;refine ax [] ?_;refine aY ?_;refine eI (jO 7 3 76 (by decide) rfl (Nat.le_of_ble_eq_true rfl)) ?_;refine pB ?_;obtain ⟨o1,hl1,hm1⟩:=bd hm;refine dB (S:=((List aa)×(List aX))) (V:=Nat) (O:=((List aX)×(List aa)) ⊕ (Int×Int)) [6,7,8,9,10,11,12,13,14,15,16,17,18,19,20,21,22] (fun (l13,l14) v15=>[(7,.c (.osl 1 v15 0 l14.length))]) (fun (l13,l14) v15=>[.box [.tree 4 (l13.map aa.enc),.int .i64 p2.end_,.int .i64 p2.open_,.int .i64 p2.terms],.arr 3 v15 76 (l14.map aX.enc)]) _ _ 0 hl1 ?_ ?_
 ·exact ls
 ·rintro ⟨l13,l14⟩ v15 r1 hm hr1;replace hm:cZ p1 p2 l13 l14=some r1:=hm;refine bw ?_;unfold cZ at hm;refine aY ?_;refine aR fun k1 hk1=>?_;refine ax [8,9,10] ?_
  by_cases h1:(l14.length:Int)=p1
  ·rw [iP h1] at hm;refine aj rfl (eQ h1) ?_;refine bf fun k kp hk hp=>?_;refine go ?_;obtain ⟨y16,hc2,hm⟩:=bd hm
   refine am (aI 7 (ae.mk l13 p2.end_ p2.open_ p2.terms)  _ hc2) [0] (by first|trivial|exact aA rfl) (by first|trivial|(intro _;first|trivial|simp [an])|simp [an]) (by simp) (by simp) rfl rfl (by first|trivial|(simp [bX,eK,eB,eS,eL,ar,ah,PV.under,CV.under,af,OB.under,ag];done)) (by first|trivial|(simp [bX,eK,eB,eS,eL,ar,ah,PV.under,CV.under,af,OB.under,ag];done)) ?_ ?_
   rotate_left
   ·rintro p σ' hpp hpl;skip;subst hpp;have ho4:=a8 hm hr1;subst ho4;replace hm:some (.inr (y16.1,y16.2))=some r:=hm1;refine hp _ _ _ ?_;refine bN ?_;refine aP ?_;refine cm ?_;refine aP ?_;obtain rfl:=sI hm;exact rfl
   rintro p σ' hq3 _;exact False.elim hq3
  ·rw [iN h1] at hm;refine ak rfl (nB h1) ?_;refine av ?_;refine aL (hk1 _ _ ?_);refine au [11,14,15,16,17,18] fun k kp hk hp=>?_;refine go ?_;obtain ⟨y17,hc5,hm⟩:=bd hm
   refine am (f8 (ae.mk l13 p2.end_ p2.open_ p2.terms)  _ hc5) [0] (by first|trivial|exact aA rfl) (by first|trivial|(intro _;first|trivial|simp [an])|simp [an]) (by simp) (by simp) rfl rfl (by first|trivial|(simp [bX,eK,eB,eS,eL,ar,ah,PV.under,CV.under,af,OB.under,ag];done)) (by first|trivial|(simp [bX,eK,eB,eS,eL,ar,ah,PV.under,CV.under,af,OB.under,ag];done)) ?_ ?_
   rotate_left
   ·rintro p σ' hpp hpl
    rcases y17 with y18|y19
    ·exact False.elim hpp
    simp only [Sum.elim_inl,Sum.elim_inr] at hm hpp;subst hpp;have ho7:=a8 hm hr1;subst ho7;replace hm:some (.inr (y19.1,y19.2))=some r:=hm1;refine hp _ _ _ ?_;refine aP ?_;refine cm ?_;refine aP ?_;obtain rfl:=sI hm;exact rfl
   rintro p σ' hq6 _
   rcases y17 with y20|y21
   ·skip;simp only [Sum.elim_inl,Sum.elim_inr] at hm hq6
    obtain ⟨rfl,rfl⟩:=hq6;obtain ⟨⟨hg8ax,hg8ay⟩,hm⟩:=gd hm;refine ab ?_;refine go ?_;refine hk _ _ ?_;clear hk hp k kp;refine bU [.box [.tree 4 (y20.2.map aa.enc),.int .i64 p2.end_,.int .i64 p2.open_,.int .i64 p2.terms],.arr 3 (v15+1) 76 ((l14++(lit ([(aX.mk ((y20.1).name) ((y20.1).t))]:List aX))).map aX.enc),.arr 3 0 76 ((lit ([(aX.mk ((y20.1).name) ((y20.1).t))]:List aX)).map aX.enc)] ?_;refine au [19,20] fun k kp hk hp=>?_;refine go ?_;obtain ⟨y22,hc9,hm⟩:=bd hm;refine RA (bB ([44]:List UInt8) (ae.mk y20.2 p2.end_ p2.open_ p2.terms)  _ hc9) [0] ?_;rintro p σ' ⟨rfl,rfl⟩ _;refine ab ?_;refine go ?_;refine hk _ _ ?_;clear hk hp k kp
    by_cases h11:y22.1=true
    ·rw [iP h11] at hm;refine ak rfl (by rw [show y22.1=true from (h11)];rfl) ?_;refine av ?_;refine ap ?_;refine aH (y22.2,(l14++(lit ([(aX.mk ((y20.1).name) ((y20.1).t))]:List aX)))) (v15+1) hm ?_;exact ls
    ·rw [iN h11] at hm;refine aj rfl (by rw [show y22.1=false from (fB h11)];rfl) ?_;refine ax [0,1,2,7,21,22] ?_;refine kj (aB 1 rfl) ?_;have ho12:=a8 hm hr1;subst ho12;replace hm:some (.inl ((l14++(lit ([(aX.mk ((y20.1).name) ((y20.1).t))]:List aX))),y22.2))=some r:=hm1;refine aM ?_;refine aT (eV (aT ?_))
     cases hm
     exact kr 1
   ·skip;exact False.elim hq6
theorem eN(p1 p2 p3:Int)(p4:List UInt8)(p5:ae)(p6:List ai)(v1_:Nat)(r:(Int×Int×Int×(List UInt8)×(List (List aw))×Int))(hm:cU p1 p2 p3 p4 p5 p6=some r):ck Tryd.prog 51 [.c (.optr 0 0),.a [.int .i64 p1,.int .i64 p2,.int .i64 p3,.str p4,.nils,.osl 1 v1_ 0 p6.length]] [.box [.tree 4 (p5.l.map aa.enc),.int .i64 p5.end_,.int .i64 p5.open_,.int .i64 p5.terms],.arr 6 v1_ 47 (p6.map ai.enc)] (fun p σ=>(p=.a [.int .i64 r.1,.int .i64 r.2.1,.int .i64 r.2.2.1,.str r.2.2.2.1,.tree 1 (r.2.2.2.2.1.map (eL 2 aw.enc)),.osl 1 v1_ 0 p6.length]∧σ=[.box [.tree 4 (p5.l.map aa.enc),.int .i64 p5.end_,.int .i64 p5.open_,.int .i64 r.2.2.2.2.2],.arr 6 v1_ 47 (p6.map ai.enc)])) (fun _ _=>False):=by
 refine aN 13 [.cell 4 47] Tryd.func51 rfl rfl rfl (by kernel_rfl) (by simp) ?_;refine bJ ?_;unfold cU at hm;refine ax [1] ?_;refine ax [0,5,6,7,8,9,10,11] ?_;refine ax [3,12] ?_
 refine eI (fa 3 [.int .i64 p1,.int .i64 p2,.int .i64 p3,.str p4,.tree 1 ([].map (eL 2 aw.enc)),.osl 1 v1_ 0 p6.length] rfl (by and_intros<;>trivial)) ?_
 refine gg rfl (by simp only [bZ,bL,reduceIte,↓reduceIte,reduceCtorEq,Int.reduceToNat,Nat.reduceDiv,Nat.reduceMod,Nat.reduceLT,Nat.reduceLeDiff,Nat.reduceAdd,Nat.reduceSub,Nat.reduceMul,Nat.reduceEqDiff,Nat.reduceBEq,Nat.reduceBNe,Nat.reduceGT];rfl) ?_;refine aM ?_
 cases hm
 exact kr 2
theorem f9(p1 p2 p3:Int)(p4:List UInt8)(p5:ae)(r:(ai×Int))(hm:et p1 p2 p3 p4 p5=some r):ck Tryd.prog 51 [.c (.optr 0 0),.a [.int .i64 p1,.int .i64 p2,.int .i64 p3,.str p4,.nils,.nils]] [.box [.tree 4 (p5.l.map aa.enc),.int .i64 p5.end_,.int .i64 p5.open_,.int .i64 p5.terms]] (fun p σ=>(p=.a [.int .i64 ((r.1).op),.int .i64 ((r.1).k),.int .i64 ((r.1).n),.str ((r.1).name),.tree 1 (((r.1).s).map (eL 2 aw.enc)),.tree 6 (((r.1).l).map ai.enc)]∧σ=[.box [.tree 4 (p5.l.map aa.enc),.int .i64 p5.end_,.int .i64 p5.open_,.int .i64 r.2]])) (fun _ _=>False):=by
 refine aN 13 [.cell 4 47] Tryd.func51 rfl rfl rfl (by kernel_rfl) (by simp) ?_;refine bJ ?_;unfold et at hm;refine ax [1] ?_;refine ax [0,5,6,7,8,9,10,11] ?_;refine ax [3,12] ?_
 refine eI (fa 2 [.int .i64 p1,.int .i64 p2,.int .i64 p3,.str p4,.tree 1 ([].map (eL 2 aw.enc)),.tree 6 ([].map ai.enc)] rfl (by and_intros<;>trivial)) ?_
 refine gg rfl (by simp only [bZ,bL,reduceIte,↓reduceIte,reduceCtorEq,Int.reduceToNat,Nat.reduceDiv,Nat.reduceMod,Nat.reduceLT,Nat.reduceLeDiff,Nat.reduceAdd,Nat.reduceSub,Nat.reduceMul,Nat.reduceEqDiff,Nat.reduceBEq,Nat.reduceBNe,Nat.reduceGT];rfl) ?_;refine aM ?_
 cases hm
 exact kr 1
theorem eO(p1:ai)(p2:ae)(r:(ai×Int))(hm:dx p1 p2=some r):ck Tryd.prog 51 [.c (.optr 0 0),.a [.int .i64 p1.op,.int .i64 p1.k,.int .i64 p1.n,.str p1.name,.tree 1 (p1.s.map (eL 2 aw.enc)),.tree 6 (p1.l.map ai.enc)]] [.box [.tree 4 (p2.l.map aa.enc),.int .i64 p2.end_,.int .i64 p2.open_,.int .i64 p2.terms]] (fun p σ=>(p=.a [.int .i64 ((r.1).op),.int .i64 ((r.1).k),.int .i64 ((r.1).n),.str ((r.1).name),.tree 1 (((r.1).s).map (eL 2 aw.enc)),.tree 6 (((r.1).l).map ai.enc)]∧σ=[.box [.tree 4 (p2.l.map aa.enc),.int .i64 p2.end_,.int .i64 p2.open_,.int .i64 r.2]])) (fun _ _=>False):=by
 refine aN 13 [.cell 4 47] Tryd.func51 rfl rfl rfl (by kernel_rfl) (by simp) ?_;refine bJ ?_;unfold dx at hm;refine ax [1] ?_;refine ax [0,5,6,7,8,9,10,11] ?_;refine ax [3,12] ?_;refine aM ?_
 cases hm
 exact kr 1
theorem jR(rc_syntax_parser_rank:Int→ae→Option ((ai×(List aa)×Int×Int) ⊕ (Int×Int)))(hr_syntax_parser_rank:∀ (p1:Int) (p2:ae) (r:(ai×(List aa)×Int×Int) ⊕ (Int×Int)),rc_syntax_parser_rank p1 p2=some r→ck Tryd.prog 44 [.c (.optr 0 0),.c (.int .i64 p1)] [.box [.tree 4 (p2.l.map aa.enc),.int .i64 p2.end_,.int .i64 p2.open_,.int .i64 p2.terms]] (fun p σ=>(Sum.elim (fun z=>(p=.a [.int .i64 ((z.1).op),.int .i64 ((z.1).k),.int .i64 ((z.1).n),.str ((z.1).name),.tree 1 (((z.1).s).map (eL 2 aw.enc)),.tree 6 (((z.1).l).map ai.enc)]∧σ=[.box [.tree 4 (z.2.1.map aa.enc),.int .i64 p2.end_,.int .i64 z.2.2.1,.int .i64 z.2.2.2]])) (fun z=>False)) r) (fun p _=>(Sum.elim (fun z=>False) (fun z=>p=.c (.ifc 48 true (nsC [(.i64,z.1),(.i64,z.2)])))) r))(p1:ae)(r:(ai×(List aa)×Int×Int) ⊕ (Int×Int))(hm:eF rc_syntax_parser_rank p1=some r):ck Tryd.prog 66 [.c (.optr 0 0)] [.box [.optr 1 0],.box [.tree 4 (p1.l.map aa.enc),.int .i64 p1.end_,.int .i64 p1.open_,.int .i64 p1.terms]] (fun p σ=>(Sum.elim (fun z=>(p=.a [.int .i64 ((z.1).op),.int .i64 ((z.1).k),.int .i64 ((z.1).n),.str ((z.1).name),.tree 1 (((z.1).s).map (eL 2 aw.enc)),.tree 6 (((z.1).l).map ai.enc)]∧σ=[.box [.optr 1 0],.box [.tree 4 (z.2.1.map aa.enc),.int .i64 p1.end_,.int .i64 z.2.2.1,.int .i64 z.2.2.2]])) (fun z=>False)) r) (fun p _=>(Sum.elim (fun z=>False) (fun z=>p=.c (.ifc 48 true (nsC [(.i64,z.1),(.i64,z.2)])))) r):=by
 refine aN 9 [.cell 1 47] Tryd.func66 rfl rfl rfl (by kernel_rfl) (by simp) ?_;refine bJ ?_;unfold eF at hm;refine ax [] ?_;refine au [3,4] fun k kp hk hp=>?_;refine go ?_;obtain ⟨y1,hc1,hm⟩:=bd hm
 refine am (hr_syntax_parser_rank 0 p1  _ hc1) [1] (by first|trivial|exact aA rfl) (by first|trivial|(intro _;first|trivial|simp [an])|simp [an]) (by simp) (by simp) rfl rfl (by first|trivial|(simp [bX,eK,eB,eS,eL,ar,ah,PV.under,CV.under,af,OB.under,ag];done)) (by first|trivial|(simp [bX,eK,eB,eS,eL,ar,ah,PV.under,CV.under,af,OB.under,ag];done)) ?_ ?_
 rotate_left
 ·rintro p σ' hpp hpl
  rcases y1 with y2|y3
  ·exact False.elim hpp
  simp only [Sum.elim_inl,Sum.elim_inr] at hm hpp;subst hpp;refine hp _ _ _ ?_;obtain rfl:=sI hm;exact rfl
 rintro p σ' hq2 _
 rcases y1 with y4|y5
 ·skip;simp only [Sum.elim_inl,Sum.elim_inr] at hm hq2
  obtain ⟨rfl,rfl⟩:=hq2;refine ab ?_;refine go ?_;refine hk _ _ ?_;clear hk hp k kp;refine au [0,5,6,7] fun k kp hk hp=>?_;refine go ?_;refine ay (aB 4 rfl) ?_;refine gt ?_;obtain ⟨y6,hc3,hm⟩:=bd hm
  refine am (aJ (lit ([([41]:List UInt8)]:List (List UInt8))) (ae.mk y4.2.1 p1.end_ y4.2.2.1 y4.2.2.2)  _ hc3) [1] (by first|trivial|exact aA rfl) (by first|trivial|(intro _;first|trivial|simp [an])|simp [an]) (by simp) (by simp) rfl rfl (by first|trivial|(simp [bX,eK,eB,eS,eL,ar,ah,PV.under,CV.under,af,OB.under,ag];done)) (by first|trivial|(simp [bX,eK,eB,eS,eL,ar,ah,PV.under,CV.under,af,OB.under,ag];done)) ?_ ?_
  rotate_left
  ·rintro p σ' hpp hpl
   rcases y6 with y7|y8
   ·exact False.elim hpp
   simp only [Sum.elim_inl,Sum.elim_inr] at hm hpp;subst hpp;refine hp _ _ _ ?_;obtain rfl:=sI hm;exact rfl
  rintro p σ' hq4 _
  rcases y6 with y9|y10
  ·skip;simp only [Sum.elim_inl,Sum.elim_inr] at hm hq4
   obtain ⟨rfl,rfl⟩:=hq4;refine ab ?_;refine go ?_;refine hk _ _ ?_;clear hk hp k kp;refine ax [2,8] ?_;refine aM ?_
   cases hm
   exact kr 2
  ·skip;exact False.elim hq4
 ·skip;exact False.elim hq2
theorem dZ(rc_syntax_parser_rank:Int→ae→Option ((ai×(List aa)×Int×Int) ⊕ (Int×Int)))(hr_syntax_parser_rank:∀ (p1:Int) (p2:ae) (r:(ai×(List aa)×Int×Int) ⊕ (Int×Int)),rc_syntax_parser_rank p1 p2=some r→ck Tryd.prog 44 [.c (.optr 0 0),.c (.int .i64 p1)] [.box [.tree 4 (p2.l.map aa.enc),.int .i64 p2.end_,.int .i64 p2.open_,.int .i64 p2.terms]] (fun p σ=>(Sum.elim (fun z=>(p=.a [.int .i64 ((z.1).op),.int .i64 ((z.1).k),.int .i64 ((z.1).n),.str ((z.1).name),.tree 1 (((z.1).s).map (eL 2 aw.enc)),.tree 6 (((z.1).l).map ai.enc)]∧σ=[.box [.tree 4 (z.2.1.map aa.enc),.int .i64 p2.end_,.int .i64 z.2.2.1,.int .i64 z.2.2.2]])) (fun z=>False)) r) (fun p _=>(Sum.elim (fun z=>False) (fun z=>p=.c (.ifc 48 true (nsC [(.i64,z.1),(.i64,z.2)])))) r))(p1:ae)(r:(ai×(List aa)×Int×Int) ⊕ (Int×Int))(hm:bP rc_syntax_parser_rank p1=some r):ck Tryd.prog 57 [.c (.optr 0 0),.c (.fn 66 [.optr 1 0])] [.box [.tree 4 (p1.l.map aa.enc),.int .i64 p1.end_,.int .i64 p1.open_,.int .i64 p1.terms],.box [.optr 0 0]] (fun p σ=>(Sum.elim (fun z=>(p=.a [.int .i64 ((z.1).op),.int .i64 ((z.1).k),.int .i64 ((z.1).n),.str ((z.1).name),.tree 1 (((z.1).s).map (eL 2 aw.enc)),.tree 6 (((z.1).l).map ai.enc)]∧σ=[.box [.tree 4 (z.2.1.map aa.enc),.int .i64 p1.end_,.int .i64 z.2.2.1,.int .i64 z.2.2.2],.box [.optr 0 0]])) (fun z=>False)) r) (fun p _=>(Sum.elim (fun z=>False) (fun z=>p=.c (.ifc 48 true (nsC [(.i64,z.1),(.i64,z.2)])))) r):=by
 refine aN 32 [.cell 4 47] Tryd.func57 rfl rfl rfl (by kernel_rfl) (by simp) ?_;refine bJ ?_;unfold bP at hm;refine ax [] ?_;refine aR fun k1 hk1=>?_;refine ax [6,7,8,9] ?_
 by_cases h1:p1.open_=60
 ·rw [iP h1] at hm;refine aj rfl (eQ h1) ?_;refine bf fun k kp hk hp=>?_;refine go ?_;obtain ⟨y1,hc2,hm⟩:=bd hm
  refine am (aI 6 p1  _ hc2) [0] (by first|trivial|exact aA rfl) (by first|trivial|(intro _;first|trivial|simp [an])|simp [an]) (by simp) (by simp) rfl rfl (by first|trivial|(simp [bX,eK,eB,eS,eL,ar,ah,PV.under,CV.under,af,OB.under,ag];done)) (by first|trivial|(simp [bX,eK,eB,eS,eL,ar,ah,PV.under,CV.under,af,OB.under,ag];done)) ?_ ?_
  rotate_left
  ·rintro p σ' hpp hpl;skip;subst hpp;refine hp _ _ _ ?_;refine bN ?_;obtain rfl:=sI hm;exact rfl
  rintro p σ' hq3 _;exact False.elim hq3
 ·rw [iN h1] at hm;refine ak rfl (nB h1) ?_;refine av ?_;refine aL (hk1 _ _ ?_);refine ax [10,13,14,15,16,17,18,19] ?_;refine au [20,21] fun k kp hk hp=>?_;refine go ?_;obtain ⟨y2,hc4,hm⟩:=bd hm;refine RA (aO (ae.mk p1.l p1.end_ (IntKind.wrap .i64 (p1.open_+1)) p1.terms)  _ hc4) [0] ?_;rintro p σ' ⟨rfl,rfl⟩ _;refine ab ?_;refine go ?_;refine hk _ _ ?_;clear hk hp k kp;refine au [1,22,23] fun k kp hk hp=>?_;refine go ?_;obtain ⟨y3,hc6,hm⟩:=bd hm
  refine am (jR rc_syntax_parser_rank hr_syntax_parser_rank (ae.mk y2.2 p1.end_ (IntKind.wrap .i64 (p1.open_+1)) p1.terms)  _ hc6) [1,0] (by first|trivial|exact aA rfl) (by first|trivial|(intro _;first|trivial|simp [an])|simp [an]) (by simp) (by simp) rfl rfl (by first|trivial|(simp [bX,eK,eB,eS,eL,ar,ah,PV.under,CV.under,af,OB.under,ag];done)) (by first|trivial|(simp [bX,eK,eB,eS,eL,ar,ah,PV.under,CV.under,af,OB.under,ag];done)) ?_ ?_
  rotate_left
  ·rintro p σ' hpp hpl
   rcases y3 with y4|y5
   ·exact False.elim hpp
   simp only [Sum.elim_inl,Sum.elim_inr] at hm hpp;subst hpp;refine hp _ _ _ ?_;obtain rfl:=sI hm;exact rfl
  rintro p σ' hq7 _
  rcases y3 with y6|y7
  ·skip;simp only [Sum.elim_inl,Sum.elim_inr] at hm hq7
   obtain ⟨rfl,rfl⟩:=hq7;refine ab ?_;refine go ?_;refine hk _ _ ?_;clear hk hp k kp;refine ax [0,24,25,26,27,28,29,30] ?_;refine ax [5,31] ?_;refine aM ?_
   cases hm
   exact kr 2
  ·skip;exact False.elim hq7
theorem jS(rc_syntax_parser_rank:Int→ae→Option ((ai×(List aa)×Int×Int) ⊕ (Int×Int)))(hr_syntax_parser_rank:∀ (p1:Int) (p2:ae) (r:(ai×(List aa)×Int×Int) ⊕ (Int×Int)),rc_syntax_parser_rank p1 p2=some r→ck Tryd.prog 44 [.c (.optr 0 0),.c (.int .i64 p1)] [.box [.tree 4 (p2.l.map aa.enc),.int .i64 p2.end_,.int .i64 p2.open_,.int .i64 p2.terms]] (fun p σ=>(Sum.elim (fun z=>(p=.a [.int .i64 ((z.1).op),.int .i64 ((z.1).k),.int .i64 ((z.1).n),.str ((z.1).name),.tree 1 (((z.1).s).map (eL 2 aw.enc)),.tree 6 (((z.1).l).map ai.enc)]∧σ=[.box [.tree 4 (z.2.1.map aa.enc),.int .i64 p2.end_,.int .i64 z.2.2.1,.int .i64 z.2.2.2]])) (fun z=>False)) r) (fun p _=>(Sum.elim (fun z=>False) (fun z=>p=.c (.ifc 48 true (nsC [(.i64,z.1),(.i64,z.2)])))) r))(p1:ae)(r:(ai×(List aa)×Int×Int) ⊕ (Int×Int))(hm:eG rc_syntax_parser_rank p1=some r):ck Tryd.prog 67 [.c (.optr 0 0)] [.box [.optr 1 0],.box [.tree 4 (p1.l.map aa.enc),.int .i64 p1.end_,.int .i64 p1.open_,.int .i64 p1.terms]] (fun p σ=>(Sum.elim (fun z=>(p=.a [.int .i64 ((z.1).op),.int .i64 ((z.1).k),.int .i64 ((z.1).n),.str ((z.1).name),.tree 1 (((z.1).s).map (eL 2 aw.enc)),.tree 6 (((z.1).l).map ai.enc)]∧σ=[.box [.optr 1 0],.box [.tree 4 (z.2.1.map aa.enc),.int .i64 p1.end_,.int .i64 z.2.2.1,.int .i64 z.2.2.2]])) (fun z=>False)) r) (fun p _=>(Sum.elim (fun z=>False) (fun z=>p=.c (.ifc 48 true (nsC [(.i64,z.1),(.i64,z.2)])))) r):=by
 refine aN 22 [.cell 1 47] Tryd.func67 rfl rfl rfl (by kernel_rfl) (by simp) ?_;refine bJ ?_;unfold eG at hm;refine ax [] ?_;refine au [4,5] fun k kp hk hp=>?_;refine go ?_;obtain ⟨y1,hc1,hm⟩:=bd hm
 refine am (hr_syntax_parser_rank 0 p1  _ hc1) [1] (by first|trivial|exact aA rfl) (by first|trivial|(intro _;first|trivial|simp [an])|simp [an]) (by simp) (by simp) rfl rfl (by first|trivial|(simp [bX,eK,eB,eS,eL,ar,ah,PV.under,CV.under,af,OB.under,ag];done)) (by first|trivial|(simp [bX,eK,eB,eS,eL,ar,ah,PV.under,CV.under,af,OB.under,ag];done)) ?_ ?_
 rotate_left
 ·rintro p σ' hpp hpl
  rcases y1 with y2|y3
  ·exact False.elim hpp
  simp only [Sum.elim_inl,Sum.elim_inr] at hm hpp;subst hpp;refine hp _ _ _ ?_;obtain rfl:=sI hm;exact rfl
 rintro p σ' hq2 _
 rcases y1 with y4|y5
 ·skip;simp only [Sum.elim_inl,Sum.elim_inr] at hm hq2
  obtain ⟨rfl,rfl⟩:=hq2;refine ab ?_;refine go ?_;refine hk _ _ ?_;clear hk hp k kp;refine au [6,7,8] fun k kp hk hp=>?_;refine go ?_;refine ay (aB 4 rfl) ?_;refine gt ?_;obtain ⟨y6,hc3,hm⟩:=bd hm
  refine am (aJ (lit ([([116,104,101,110]:List UInt8)]:List (List UInt8))) (ae.mk y4.2.1 p1.end_ y4.2.2.1 y4.2.2.2)  _ hc3) [1] (by first|trivial|exact aA rfl) (by first|trivial|(intro _;first|trivial|simp [an])|simp [an]) (by simp) (by simp) rfl rfl (by first|trivial|(simp [bX,eK,eB,eS,eL,ar,ah,PV.under,CV.under,af,OB.under,ag];done)) (by first|trivial|(simp [bX,eK,eB,eS,eL,ar,ah,PV.under,CV.under,af,OB.under,ag];done)) ?_ ?_
  rotate_left
  ·rintro p σ' hpp hpl
   rcases y6 with y7|y8
   ·exact False.elim hpp
   simp only [Sum.elim_inl,Sum.elim_inr] at hm hpp;subst hpp;refine hp _ _ _ ?_;obtain rfl:=sI hm;exact rfl
  rintro p σ' hq4 _
  rcases y6 with y9|y10
  ·skip;simp only [Sum.elim_inl,Sum.elim_inr] at hm hq4
   obtain ⟨rfl,rfl⟩:=hq4;refine ab ?_;refine go ?_;refine hk _ _ ?_;clear hk hp k kp;refine au [9,10] fun k kp hk hp=>?_;refine go ?_;obtain ⟨y11,hc5,hm⟩:=bd hm
   refine am (hr_syntax_parser_rank 0 (ae.mk y9 p1.end_ y4.2.2.1 y4.2.2.2)  _ hc5) [1] (by first|trivial|exact aA rfl) (by first|trivial|(intro _;first|trivial|simp [an])|simp [an]) (by simp) (by simp) rfl rfl (by first|trivial|(simp [bX,eK,eB,eS,eL,ar,ah,PV.under,CV.under,af,OB.under,ag];done)) (by first|trivial|(simp [bX,eK,eB,eS,eL,ar,ah,PV.under,CV.under,af,OB.under,ag];done)) ?_ ?_
   rotate_left
   ·rintro p σ' hpp hpl
    rcases y11 with y12|y13
    ·exact False.elim hpp
    simp only [Sum.elim_inl,Sum.elim_inr] at hm hpp;subst hpp;refine hp _ _ _ ?_;obtain rfl:=sI hm;exact rfl
   rintro p σ' hq6 _
   rcases y11 with y14|y15
   ·skip;simp only [Sum.elim_inl,Sum.elim_inr] at hm hq6
    obtain ⟨rfl,rfl⟩:=hq6;refine ab ?_;refine go ?_;refine hk _ _ ?_;clear hk hp k kp;refine au [11,12,13] fun k kp hk hp=>?_;refine go ?_;refine ay (aB 6 rfl) ?_;refine gt ?_;obtain ⟨y16,hc7,hm⟩:=bd hm
    refine am (aJ (lit ([([101,108,115,101]:List UInt8)]:List (List UInt8))) (ae.mk y14.2.1 p1.end_ y14.2.2.1 y14.2.2.2)  _ hc7) [1] (by first|trivial|exact aA rfl) (by first|trivial|(intro _;first|trivial|simp [an])|simp [an]) (by simp) (by simp) rfl rfl (by first|trivial|(simp [bX,eK,eB,eS,eL,ar,ah,PV.under,CV.under,af,OB.under,ag];done)) (by first|trivial|(simp [bX,eK,eB,eS,eL,ar,ah,PV.under,CV.under,af,OB.under,ag];done)) ?_ ?_
    rotate_left
    ·rintro p σ' hpp hpl
     rcases y16 with y17|y18
     ·exact False.elim hpp
     simp only [Sum.elim_inl,Sum.elim_inr] at hm hpp;subst hpp;refine hp _ _ _ ?_;obtain rfl:=sI hm;exact rfl
    rintro p σ' hq8 _
    rcases y16 with y19|y20
    ·skip;simp only [Sum.elim_inl,Sum.elim_inr] at hm hq8
     obtain ⟨rfl,rfl⟩:=hq8;refine ab ?_;refine go ?_;refine hk _ _ ?_;clear hk hp k kp;obtain ⟨y21,hc9,hm⟩:=bd hm
     rcases y21 with y22|y23
     ·skip;simp only [Sum.elim_inl,Sum.elim_inr] at hm
      refine km [0,2,3,14,15,16,17,18,19,20,21] (by kernel_rfl) [1] [0,0,0,0,8,30,62,127,255] [false,false,false,false,false,false,false,true,true] [false,false,false,false,true,false,false,false,false] [[0],[2],[3],[],[],[],[],[],[]] (by kernel_rfl) fun k hk=>?_;refine gp ?_
      refine dm (σ2:=[.box [.optr 1 0],.box [.tree 4 (y22.2.1.map aa.enc),.int .i64 p1.end_,.int .i64 y22.2.2.1,.int .i64 y22.2.2.2],.box [.int .i64 0,.int .i64 0,.int .i64 0,.str [],.nils,.nils],.box [.int .i64 ((y4.1).op),.int .i64 ((y4.1).k),.int .i64 ((y4.1).n),.str ((y4.1).name),.tree 1 (((y4.1).s).map (eL 2 aw.enc)),.tree 6 (((y4.1).l).map ai.enc)],.dead,.box [.int .i64 ((y14.1).op),.int .i64 ((y14.1).k),.int .i64 ((y14.1).n),.str ((y14.1).name),.tree 1 (((y14.1).s).map (eL 2 aw.enc)),.tree 6 (((y14.1).l).map ai.enc)],.dead]) (res:=.a [.int .i64 ((y22.1).op),.int .i64 ((y22.1).k),.int .i64 ((y22.1).n),.str ((y22.1).name),.tree 1 (((y22.1).s).map (eL 2 aw.enc)),.tree 6 (((y22.1).l).map ai.enc)]) ⟨_,_,_,_,[1],hr_syntax_parser_rank 0 (ae.mk y19 p1.end_ y14.2.2.1 y14.2.2.2)  _ hc9,by simp,by simp,by first|rfl|(simp [PV.ren,CV.ren,CV.ren0,cz,lit];omega),rfl,by first|trivial|(simp [bX,eK,eB,eS,eL,ar,ah,PV.under,CV.under,af,OB.under,ag];done),by first|trivial|(simp [bX,eK,eB,eS,eL,ar,ah,PV.under,CV.under,af,OB.under,ag];done),fun q τ hq _=>by obtain ⟨rfl,rfl⟩:=hq;exact ⟨rfl,rfl⟩,fun _ _ h=>False.elim h⟩ (by first|trivial|exact aA rfl) (by first|trivial|(intro _;first|trivial|simp [an])|simp [an]) ⟨rfl,by simp only [hP];and_intros<;>first|exact .inl rfl|exact .inr rfl|trivial⟩ ?_
      refine gp ?_;obtain ⟨y24,hc10,hm⟩:=bd hm
      refine jr (σ2:=[.box [.optr 1 0],.box [.tree 4 (y22.2.1.map aa.enc),.int .i64 p1.end_,.int .i64 y22.2.2.1,.int .i64 y24.2.2.2.2.2],.box [.int .i64 0,.int .i64 0,.int .i64 0,.str [],.nils,.nils],.box [.int .i64 ((y4.1).op),.int .i64 ((y4.1).k),.int .i64 ((y4.1).n),.str ((y4.1).name),.tree 1 (((y4.1).s).map (eL 2 aw.enc)),.tree 6 (((y4.1).l).map ai.enc)],.dead,.box [.int .i64 ((y14.1).op),.int .i64 ((y14.1).k),.int .i64 ((y14.1).n),.str ((y14.1).name),.tree 1 (((y14.1).s).map (eL 2 aw.enc)),.tree 6 (((y14.1).l).map ai.enc)],.dead,.arr 6 0 47 ((lit ([(y4.1),(y14.1),(y22.1)]:List ai)).map ai.enc)]) (res:=.a [.int .i64 y24.1,.int .i64 y24.2.1,.int .i64 y24.2.2.1,.str y24.2.2.2.1,.tree 1 (y24.2.2.2.2.1.map (eL 2 aw.enc)),.osl 7 0 0 ((lit ([(y4.1),(y14.1),(y22.1)]:List ai)).length)]) ⟨_,_,_,_,[1,7],eN 6 0 0 [] (ae.mk y22.2.1 p1.end_ y22.2.2.1 y22.2.2.2) (lit ([(y4.1),(y14.1),(y22.1)]:List ai)) 0 _ hc10,by simp,by simp,rfl,(by first|rfl|(simp only [lit,List.map_cons,List.map_nil,bX,eK,eB,eS,eL];rfl)),by first|trivial|(simp [bX,eK,eB,eS,eL,ar,ah,PV.under,CV.under,af,OB.under,ag];done),by first|trivial|(simp [bX,eK,eB,eS,eL,ar,ah,PV.under,CV.under,af,OB.under,ag];done),fun q τ hq _=>by obtain ⟨rfl,rfl⟩:=hq;exact ⟨rfl,rfl⟩,fun _ _ h=>h.elim⟩ (by first|trivial|exact aA rfl) (by first|trivial|(intro _;first|trivial|simp [an])|simp [an]) (by first|exact .inl rfl|exact .inr (by simp only [lR];and_intros<;>first|rfl|trivial|(simp only [lit,List.map_cons,List.map_nil,bX,eK,eB,eS,eL]))) ?_
      refine gp ?_;refine hk _ _ ?_;clear hk k;refine bU [.box [.optr 1 0],.box [.tree 4 (y22.2.1.map aa.enc),.int .i64 p1.end_,.int .i64 y22.2.2.1,.int .i64 y24.2.2.2.2.2],.box [.int .i64 y24.1,.int .i64 y24.2.1,.int .i64 y24.2.2.1,.str y24.2.2.2.1,.tree 1 (y24.2.2.2.2.1.map (eL 2 aw.enc)),.osl 7 0 0 ((lit ([(y4.1),(y14.1),(y22.1)]:List ai)).length)],.box [.int .i64 ((y4.1).op),.int .i64 ((y4.1).k),.int .i64 ((y4.1).n),.str ((y4.1).name),.tree 1 (((y4.1).s).map (eL 2 aw.enc)),.tree 6 (((y4.1).l).map ai.enc)],.dead,.box [.int .i64 ((y14.1).op),.int .i64 ((y14.1).k),.int .i64 ((y14.1).n),.str ((y14.1).name),.tree 1 (((y14.1).s).map (eL 2 aw.enc)),.tree 6 (((y14.1).l).map ai.enc)],.dead,.arr 6 0 47 ((lit ([(y4.1),(y14.1),(y22.1)]:List ai)).map ai.enc)] ?_;refine kj (aB 7 rfl) ?_;refine aM ?_
      cases hm
      exact kr 2
     ·skip;simp only [Sum.elim_inl,Sum.elim_inr] at hm
      refine iU ?_;refine lH 4 [] [false,false,false,false,false,false,false,true,true] [] _ rfl ?_;simp only [List.take_succ_cons,List.take_zero];refine ga ?_
      refine ⟨_,_,_,_,[1],hr_syntax_parser_rank 0 (ae.mk y19 p1.end_ y14.2.2.1 y14.2.2.2)  _ hc9,by simp,by simp,rfl,rfl,by first|trivial|(simp [bX,eK,eB,eS,eL,ar,ah,PV.under,CV.under,af,OB.under,ag];done),by first|trivial|(simp [bX,eK,eB,eS,eL,ar,ah,PV.under,CV.under,af,OB.under,ag];done),fun q τ h=>False.elim h,?_⟩
      rintro p σ' hpp hpl;simp only [Sum.elim_inl,Sum.elim_inr] at hpp;subst hpp;refine bN ?_;obtain rfl:=sI hm;exact rfl
    ·skip;exact False.elim hq8
   ·skip;exact False.elim hq6
  ·skip;exact False.elim hq4
 ·skip;exact False.elim hq2
theorem d6(rc_syntax_parser_rank:Int→ae→Option ((ai×(List aa)×Int×Int) ⊕ (Int×Int)))(hr_syntax_parser_rank:∀ (p1:Int) (p2:ae) (r:(ai×(List aa)×Int×Int) ⊕ (Int×Int)),rc_syntax_parser_rank p1 p2=some r→ck Tryd.prog 44 [.c (.optr 0 0),.c (.int .i64 p1)] [.box [.tree 4 (p2.l.map aa.enc),.int .i64 p2.end_,.int .i64 p2.open_,.int .i64 p2.terms]] (fun p σ=>(Sum.elim (fun z=>(p=.a [.int .i64 ((z.1).op),.int .i64 ((z.1).k),.int .i64 ((z.1).n),.str ((z.1).name),.tree 1 (((z.1).s).map (eL 2 aw.enc)),.tree 6 (((z.1).l).map ai.enc)]∧σ=[.box [.tree 4 (z.2.1.map aa.enc),.int .i64 p2.end_,.int .i64 z.2.2.1,.int .i64 z.2.2.2]])) (fun z=>False)) r) (fun p _=>(Sum.elim (fun z=>False) (fun z=>p=.c (.ifc 48 true (nsC [(.i64,z.1),(.i64,z.2)])))) r))(p1:ae)(r:(ai×(List aa)×Int×Int) ⊕ (Int×Int))(hm:bQ rc_syntax_parser_rank p1=some r):ck Tryd.prog 57 [.c (.optr 0 0),.c (.fn 67 [.optr 1 0])] [.box [.tree 4 (p1.l.map aa.enc),.int .i64 p1.end_,.int .i64 p1.open_,.int .i64 p1.terms],.box [.optr 0 0]] (fun p σ=>(Sum.elim (fun z=>(p=.a [.int .i64 ((z.1).op),.int .i64 ((z.1).k),.int .i64 ((z.1).n),.str ((z.1).name),.tree 1 (((z.1).s).map (eL 2 aw.enc)),.tree 6 (((z.1).l).map ai.enc)]∧σ=[.box [.tree 4 (z.2.1.map aa.enc),.int .i64 p1.end_,.int .i64 z.2.2.1,.int .i64 z.2.2.2],.box [.optr 0 0]])) (fun z=>False)) r) (fun p _=>(Sum.elim (fun z=>False) (fun z=>p=.c (.ifc 48 true (nsC [(.i64,z.1),(.i64,z.2)])))) r):=by
 refine aN 32 [.cell 4 47] Tryd.func57 rfl rfl rfl (by kernel_rfl) (by simp) ?_;refine bJ ?_;unfold bQ at hm;refine ax [] ?_;refine aR fun k1 hk1=>?_;refine ax [6,7,8,9] ?_
 by_cases h1:p1.open_=60
 ·rw [iP h1] at hm;refine aj rfl (eQ h1) ?_;refine bf fun k kp hk hp=>?_;refine go ?_;obtain ⟨y1,hc2,hm⟩:=bd hm
  refine am (aI 6 p1  _ hc2) [0] (by first|trivial|exact aA rfl) (by first|trivial|(intro _;first|trivial|simp [an])|simp [an]) (by simp) (by simp) rfl rfl (by first|trivial|(simp [bX,eK,eB,eS,eL,ar,ah,PV.under,CV.under,af,OB.under,ag];done)) (by first|trivial|(simp [bX,eK,eB,eS,eL,ar,ah,PV.under,CV.under,af,OB.under,ag];done)) ?_ ?_
  rotate_left
  ·rintro p σ' hpp hpl;skip;subst hpp;refine hp _ _ _ ?_;refine bN ?_;obtain rfl:=sI hm;exact rfl
  rintro p σ' hq3 _;exact False.elim hq3
 ·rw [iN h1] at hm;refine ak rfl (nB h1) ?_;refine av ?_;refine aL (hk1 _ _ ?_);refine ax [10,13,14,15,16,17,18,19] ?_;refine au [20,21] fun k kp hk hp=>?_;refine go ?_;obtain ⟨y2,hc4,hm⟩:=bd hm;refine RA (aO (ae.mk p1.l p1.end_ (IntKind.wrap .i64 (p1.open_+1)) p1.terms)  _ hc4) [0] ?_;rintro p σ' ⟨rfl,rfl⟩ _;refine ab ?_;refine go ?_;refine hk _ _ ?_;clear hk hp k kp;refine au [1,22,23] fun k kp hk hp=>?_;refine go ?_;obtain ⟨y3,hc6,hm⟩:=bd hm
  refine am (jS rc_syntax_parser_rank hr_syntax_parser_rank (ae.mk y2.2 p1.end_ (IntKind.wrap .i64 (p1.open_+1)) p1.terms)  _ hc6) [1,0] (by first|trivial|exact aA rfl) (by first|trivial|(intro _;first|trivial|simp [an])|simp [an]) (by simp) (by simp) rfl rfl (by first|trivial|(simp [bX,eK,eB,eS,eL,ar,ah,PV.under,CV.under,af,OB.under,ag];done)) (by first|trivial|(simp [bX,eK,eB,eS,eL,ar,ah,PV.under,CV.under,af,OB.under,ag];done)) ?_ ?_
  rotate_left
  ·rintro p σ' hpp hpl
   rcases y3 with y4|y5
   ·exact False.elim hpp
   simp only [Sum.elim_inl,Sum.elim_inr] at hm hpp;subst hpp;refine hp _ _ _ ?_;obtain rfl:=sI hm;exact rfl
  rintro p σ' hq7 _
  rcases y3 with y6|y7
  ·skip;simp only [Sum.elim_inl,Sum.elim_inr] at hm hq7
   obtain ⟨rfl,rfl⟩:=hq7;refine ab ?_;refine go ?_;refine hk _ _ ?_;clear hk hp k kp;refine ax [0,24,25,26,27,28,29,30] ?_;refine ax [5,31] ?_;refine aM ?_
   cases hm
   exact kr 2
  ·skip;exact False.elim hq7
theorem hZ(p1:ae)(r:(List UInt8))(hm:eu p1=some r):ck Tryd.prog 70 [.c (.optr 0 0)] [.box [.tree 4 (p1.l.map aa.enc),.int .i64 p1.end_,.int .i64 p1.open_,.int .i64 p1.terms]] (fun p σ=>(p=.c (.str r)∧σ=[.box [.tree 4 (p1.l.map aa.enc),.int .i64 p1.end_,.int .i64 p1.open_,.int .i64 p1.terms]])) (fun _ _=>False):=by
 refine aN 26 [.tmp 2] Tryd.func70 rfl rfl rfl (by kernel_rfl) (by simp) ?_;refine bJ ?_;unfold eu at hm;refine ax [2] ?_;refine aR fun k1 hk1=>?_;refine cR [3,4,5,6,7,8,9,10,11,12,13,14,15,16,17] fun k kp hk hp=>?_;refine aq 7 ?_;refine go ?_
 by_cases h1:(p1.l.length:Int)=0
 ·rw [iP h1] at hm;have h1b:=eQ h1;refine ab ?_;refine gox h1b ?_;refine hk _ _ ?_;clear hk hp k kp;refine aj rfl rfl ?_;refine ax [0,18] ?_;refine aM ?_;refine cX ?_
  cases hm
  exact kr 1
 ·rw [iN h1] at hm;have h1b:=nB h1;obtain ⟨hg2a,hm⟩:=gd hm;refine ab ?_;refine gox (a2 (em aa.enc p1.l 0) h1b) ?_;refine hk _ _ ?_;clear hk hp k kp
  by_cases h3:¬ ((p1.l.getD 0 default).kind)=1
  ·rw [iP h3] at hm;refine aj rfl (bne_iff_ne.2 h3) ?_;refine ax [0,18] ?_;refine aM ?_;refine cX ?_
   cases hm
   exact kr 1
  ·rw [iN h3] at hm;refine ak rfl (bne_eq_false_iff_eq.2 (Decidable.not_not.1 h3)) ?_;refine av ?_;refine aL (hk1 _ _ ?_);refine gG (em aa.enc p1.l 0) [0,18,19,20,21,22,23,24,25] ?_;refine aM ?_
   cases hm
   exact kr 1
theorem fF(p1:List UInt8)(p2:List (List UInt8))(v0_:Nat)(r:Int)(hm:cA p1 p2=some r):ck Tryd.prog 35 [.c (.osl 0 v0_ 0 p2.length),.c (.str p1)] [.arr 1 v0_ 9 (p2.map eS)] (fun p σ=>(p=.c (.int .i64 r)∧σ=[.arr 1 v0_ 9 (p2.map eS)])) (fun _ _=>False):=by
 refine aN 19 [.tmp 4] Tryd.func35 rfl rfl rfl (by kernel_rfl) (by simp) ?_;refine bJ ?_;unfold cA at hm;refine ax [4] ?_;refine bk (S:=Unit) (V:=Unit) [0,1,4,5,6,7,8,9,10,11,12,13,14,15,16,17,18] (fun _ _=>[]) (fun _ _=>[.arr 1 v0_ 9 (p2.map eS)]) (fun _=>bV=some r) ?_ ?_
 ·skip;refine ax [6] ?_
  refine aY ?_;obtain ⟨o1,hl1,hm1⟩:=bd hm;refine dB (S:=Int) (V:=Unit) (O:=Unit ⊕ Int) [0,4,5,8,9,10,11,12,13,14,15,16,17,18] (fun x3 _=>[(0,.c (.osl 0 v0_ 0 p2.length)),(8,.c (.int .i64 x3))]) (fun x3 _=>[.arr 1 v0_ 9 (p2.map eS)]) _ _ () hl1 ?_ ?_
  ·exact ls
  ·rintro x3 _ r1 hm hr1;replace hm:dY p1 p2 x3=some r1:=hm;refine bw ?_;unfold dY at hm;refine ax [] ?_;refine aR fun k1 hk1=>?_
   by_cases h1:x3<(p2.length:Int)
   ·rw [iP h1] at hm;refine aj rfl (dT h1) ?_;refine av ?_;refine aL (hk1 _ _ ?_);refine aR fun k2 hk2=>?_;refine aY ?_;refine ax [9,10] ?_;obtain ⟨hg2a,hm⟩:=gd hm;refine gG (em eS p2 x3.toNat) [11,12,13,14,15] ?_
    by_cases h3:p1=(p2.getD x3.toNat default)
    ·rw [iP h3] at hm;refine aj rfl (eQ h3) ?_;refine ax [0,1,5,7,8,16,17] ?_;have ho4:=a8 hm hr1;subst ho4;replace hm:some x3=some r:=hm1;refine aM ?_;refine aT (cX (eV (aT (bn ?_))))
     cases hm
     exact kr 1
    ·rw [iN h3] at hm;refine ak rfl (nB h3) ?_;refine av ?_;refine ap ?_;refine aL (hk2 _ _ ?_);refine cB ?_;refine aH (IntKind.wrap .i64 (x3+1)) () hm ?_;exact ls
   ·rw [iN h1] at hm;refine ak rfl (dF h1) ?_;refine e7 ?_;have ho5:=a8 hm hr1;subst ho5;replace hm:bV=some r:=hm1;refine eC (cM (bx ?_));refine ao () () hm ?_;exact ls
 ·rintro _ _ hm;replace hm:bV=some r:=hm;refine bw ?_;unfold bV at hm;refine ax [] ?_;refine aM ?_
  cases hm
  exact kr 1
theorem jg(p1:ae)(r:(Int×(List aa)) ⊕ (Int×Int))(hm:dL p1=some r):ck Tryd.prog 72 [.c (.optr 0 0)] [.box [.tree 4 (p1.l.map aa.enc),.int .i64 p1.end_,.int .i64 p1.open_,.int .i64 p1.terms]] (fun p σ=>(Sum.elim (fun z=>(p=.c (.int .i64 z.1)∧σ=[.box [.tree 4 (z.2.map aa.enc),.int .i64 p1.end_,.int .i64 p1.open_,.int .i64 p1.terms]])) (fun z=>False)) r) (fun p _=>(Sum.elim (fun z=>False) (fun z=>p=.c (.ifc 48 true (nsC [(.i64,z.1),(.i64,z.2)])))) r):=by
  refine aN 15 [.tmp 2] Tryd.func72 rfl rfl rfl (by kernel_rfl) (by simp) ?_;refine gg (by simp only [fJ,Env.ofList,List.length_nil,List.length_cons,bE,Nat.reduceDiv,Nat.reduceMod,Nat.reduceLT,Nat.reduceLeDiff,Nat.reduceAdd,Nat.reduceSub,Nat.reduceMul,Nat.reduceEqDiff,Nat.reduceBEq,Nat.reduceBNe,Nat.reduceGT,Int.reduceToNat];rfl) rfl ?_;unfold dL at hm;refine au [2] fun k kp hk hp=>?_;simp only [bR,bT,tab,bX,reduceIte,↓reduceIte,reduceCtorEq,Int.reduceToNat,Nat.reduceDiv,Nat.reduceMod,Nat.reduceLT,Nat.reduceLeDiff,Nat.reduceAdd,Nat.reduceSub,Nat.reduceMul,Nat.reduceEqDiff,Nat.reduceBEq,Nat.reduceBNe,Nat.reduceGT]
  repeat refine ⟨by first|omega|assumption|decide|exact aU fun _=>rfl|(intro _;omega)|rfl|exact fun e=>absurd (List.map_eq_nil_iff.1 e) (by assumption)|(and_intros<;>first|omega|assumption|decide|exact aU fun _=>rfl),?_⟩
  refine hk _ _ ?_;clear hk hp k kp;refine au [4,5,6,7] fun k kp hk hp=>?_;simp only [bR,bT,tab,bX,reduceIte,↓reduceIte,reduceCtorEq,Int.reduceToNat,Nat.reduceDiv,Nat.reduceMod,Nat.reduceLT,Nat.reduceLeDiff,Nat.reduceAdd,Nat.reduceSub,Nat.reduceMul,Nat.reduceEqDiff,Nat.reduceBEq,Nat.reduceBNe,Nat.reduceGT,List.replicate,List.foldr]
  repeat refine ⟨by first|omega|assumption|decide|exact aU fun _=>rfl|(intro _;omega)|rfl|exact fun e=>absurd (List.map_eq_nil_iff.1 e) (by assumption)|(and_intros<;>first|omega|assumption|decide|exact aU fun _=>rfl),?_⟩
  obtain ⟨y1,hc1,hm⟩:=bd hm
  refine am (hZ p1  _ hc1) [0] (by first|trivial|exact aA rfl) (by first|trivial|(intro _;first|trivial|simp [an])|simp [an]) (by simp) (by simp) rfl rfl (by first|trivial|(simp [bX,eK,eB,eS,eL,ar,ah,PV.under,CV.under,af,OB.under,ag];done)) (by first|trivial|(simp [bX,eK,eB,eS,eL,ar,ah,PV.under,CV.under,af,OB.under,ag];done)) ?_ (fun _ _ h _=>h.elim)
  rintro p σ' ⟨rfl,rfl⟩ _;refine ab ?_;simp only [bR,bT,tab,bX,reduceIte,↓reduceIte,reduceCtorEq,Int.reduceToNat,Nat.reduceDiv,Nat.reduceMod,Nat.reduceLT,Nat.reduceLeDiff,Nat.reduceAdd,Nat.reduceSub,Nat.reduceMul,Nat.reduceEqDiff,Nat.reduceBEq,Nat.reduceBNe,Nat.reduceGT]
  repeat refine ⟨by first|omega|assumption|decide|exact aU fun _=>rfl|(intro _;omega)|rfl|exact fun e=>absurd (List.map_eq_nil_iff.1 e) (by assumption)|(and_intros<;>first|omega|assumption|decide|exact aU fun _=>rfl),?_⟩
  obtain ⟨y2,hc3,hm⟩:=bd hm
  refine am (fF y1 (lit ([([]:List UInt8),([97,100,100]:List UInt8),([115,117,98]:List UInt8),([109,117,108]:List UInt8),([100,105,118]:List UInt8),([109,111,100]:List UInt8),([109,105,110]:List UInt8),([109,97,120]:List UInt8),([108,101,115,115]:List UInt8),([101,113]:List UInt8),([97,110,100]:List UInt8),([111,114]:List UInt8),([120,111,114]:List UInt8),([110,101,103]:List UInt8),([110,111,116]:List UInt8)]:List (List UInt8))) 0 _ hc3) [1] (by first|trivial|exact aA rfl) (by first|trivial|(intro _;first|trivial|simp [an])|simp [an]) (by simp) (by simp) rfl rfl (by first|trivial|(simp [bX,eK,eB,eS,eL,ar,ah,PV.under,CV.under,af,OB.under,ag];done)) (by first|trivial|(simp [bX,eK,eB,eS,eL,ar,ah,PV.under,CV.under,af,OB.under,ag];done)) ?_ (fun _ _ h _=>h.elim)
  rintro p σ' ⟨rfl,rfl⟩ _;refine ab ?_;simp only [bR,bT,tab,bX,reduceIte,↓reduceIte,reduceCtorEq,Int.reduceToNat,Nat.reduceDiv,Nat.reduceMod,Nat.reduceLT,Nat.reduceLeDiff,Nat.reduceAdd,Nat.reduceSub,Nat.reduceMul,Nat.reduceEqDiff,Nat.reduceBEq,Nat.reduceBNe,Nat.reduceGT]
  repeat refine ⟨by first|omega|assumption|decide|exact aU fun _=>rfl|(intro _;omega)|rfl|exact fun e=>absurd (List.map_eq_nil_iff.1 e) (by assumption)|(and_intros<;>first|omega|assumption|decide|exact aU fun _=>rfl),?_⟩
  refine hk _ _ ?_;clear hk hp k kp
  refine gg rfl (show _=[.box [.tree 4 (p1.l.map aa.enc),.int .i64 p1.end_,.int .i64 p1.open_,.int .i64 p1.terms],.arr 1 0 9 ((lit ([([]:List UInt8),([97,100,100]:List UInt8),([115,117,98]:List UInt8),([109,117,108]:List UInt8),([100,105,118]:List UInt8),([109,111,100]:List UInt8),([109,105,110]:List UInt8),([109,97,120]:List UInt8),([108,101,115,115]:List UInt8),([101,113]:List UInt8),([97,110,100]:List UInt8),([111,114]:List UInt8),([120,111,114]:List UInt8),([110,101,103]:List UInt8),([110,111,116]:List UInt8)]:List (List UInt8))).map eS)] from by first|rfl|(simp only [List.take_of_length_le,List.length_map,List.length_append,List.length_cons,List.length_nil,List.length_replicate,List.length_set,List.map_append,List.map_cons,List.map_nil,List.map_replicate,List.map_set,Nat.le_refl,Nat.zero_add,List.nil_append,List.set_cons_zero,List.set_cons_succ,bX,eK,eB,eS,eL];done)|(simp only [List.take_of_length_le,List.length_map,List.length_append,List.length_cons,List.length_nil,List.length_replicate,List.length_set,List.map_append,List.map_cons,List.map_nil,List.map_replicate,List.map_set,Nat.le_refl,Nat.zero_add,List.nil_append,List.set_cons_zero,List.set_cons_succ,bX,eK,eB,eS,eL];rfl)|(simp;done)|(simp only [lit,List.map_append,List.map_cons,List.map_nil,List.map_set,List.map_replicate,List.nil_append,bX,eK,eB,eS,eL];done)) ?_
  refine aR fun k1 hk1=>?_;refine au [8] fun k kp hk hp=>?_;simp only [bR,bT,tab,bX,reduceIte,↓reduceIte,reduceCtorEq,Int.reduceToNat,Nat.reduceDiv,Nat.reduceMod,Nat.reduceLT,Nat.reduceLeDiff,Nat.reduceAdd,Nat.reduceSub,Nat.reduceMul,Nat.reduceEqDiff,Nat.reduceBEq,Nat.reduceBNe,Nat.reduceGT]
  repeat refine ⟨by first|omega|assumption|decide|exact aU fun _=>rfl|(intro _;omega)|rfl|exact fun e=>absurd (List.map_eq_nil_iff.1 e) (by assumption)|(and_intros<;>first|omega|assumption|decide|exact aU fun _=>rfl),?_⟩
  refine hk _ _ ?_;clear hk hp k kp
  by_cases h5:y2<1
  · rw [iP h5] at hm
    refine aj rfl (dT h5) ?_;refine bf fun k kp hk hp=>?_;simp only [bR,bT,tab,bX,reduceIte,↓reduceIte,reduceCtorEq,Int.reduceToNat,Nat.reduceDiv,Nat.reduceMod,Nat.reduceLT,Nat.reduceLeDiff,Nat.reduceAdd,Nat.reduceSub,Nat.reduceMul,Nat.reduceEqDiff,Nat.reduceBEq,Nat.reduceBNe,Nat.reduceGT]
    repeat refine ⟨by first|omega|assumption|decide|exact aU fun _=>rfl|(intro _;omega)|rfl|exact fun e=>absurd (List.map_eq_nil_iff.1 e) (by assumption)|(and_intros<;>first|omega|assumption|decide|exact aU fun _=>rfl),?_⟩
    obtain ⟨y3,hc6,hm⟩:=bd hm
    refine am (aI 4 p1  _ hc6) [0] (by first|trivial|exact aA rfl) (by first|trivial|(intro _;first|trivial|simp [an])|simp [an]) (by simp) (by simp) rfl rfl (by first|trivial|(simp [bX,eK,eB,eS,eL,ar,ah,PV.under,CV.under,af,OB.under,ag];done)) (by first|trivial|(simp [bX,eK,eB,eS,eL,ar,ah,PV.under,CV.under,af,OB.under,ag];done)) ?_ ?_
    rotate_left
    · rintro p σ' hpp hpl
      skip;subst hpp
      refine hp _ _ _ ?_;refine bN ?_;obtain rfl:=sI hm;exact rfl
    rintro p σ' hq7 _;exact False.elim hq7
  · rw [iN h5] at hm
    refine ak rfl (dF h5) ?_;refine av ?_;refine aL (hk1 _ _ ?_);refine au [0,9,12,13] fun k kp hk hp=>?_;simp only [bR,bT,tab,bX,reduceIte,↓reduceIte,reduceCtorEq,Int.reduceToNat,Nat.reduceDiv,Nat.reduceMod,Nat.reduceLT,Nat.reduceLeDiff,Nat.reduceAdd,Nat.reduceSub,Nat.reduceMul,Nat.reduceEqDiff,Nat.reduceBEq,Nat.reduceBNe,Nat.reduceGT]
    repeat refine ⟨by first|omega|assumption|decide|exact aU fun _=>rfl|(intro _;omega)|rfl|exact fun e=>absurd (List.map_eq_nil_iff.1 e) (by assumption)|(and_intros<;>first|omega|assumption|decide|exact aU fun _=>rfl),?_⟩
    obtain ⟨y4,hc8,hm⟩:=bd hm
    refine am (aO p1  _ hc8) [0] (by first|trivial|exact aA rfl) (by first|trivial|(intro _;first|trivial|simp [an])|simp [an]) (by simp) (by simp) rfl rfl (by first|trivial|(simp [bX,eK,eB,eS,eL,ar,ah,PV.under,CV.under,af,OB.under,ag];done)) (by first|trivial|(simp [bX,eK,eB,eS,eL,ar,ah,PV.under,CV.under,af,OB.under,ag];done)) ?_ (fun _ _ h _=>h.elim)
    rintro p σ' ⟨rfl,rfl⟩ _;refine ab ?_;simp only [bR,bT,tab,bX,reduceIte,↓reduceIte,reduceCtorEq,Int.reduceToNat,Nat.reduceDiv,Nat.reduceMod,Nat.reduceLT,Nat.reduceLeDiff,Nat.reduceAdd,Nat.reduceSub,Nat.reduceMul,Nat.reduceEqDiff,Nat.reduceBEq,Nat.reduceBNe,Nat.reduceGT]
    repeat refine ⟨by first|omega|assumption|decide|exact aU fun _=>rfl|(intro _;omega)|rfl|exact fun e=>absurd (List.map_eq_nil_iff.1 e) (by assumption)|(and_intros<;>first|omega|assumption|decide|exact aU fun _=>rfl),?_⟩
    refine hk _ _ ?_;clear hk hp k kp;refine au [3,14] fun k kp hk hp=>?_;simp only [bR,bT,tab,bX,reduceIte,↓reduceIte,reduceCtorEq,Int.reduceToNat,Nat.reduceDiv,Nat.reduceMod,Nat.reduceLT,Nat.reduceLeDiff,Nat.reduceAdd,Nat.reduceSub,Nat.reduceMul,Nat.reduceEqDiff,Nat.reduceBEq,Nat.reduceBNe,Nat.reduceGT]
    repeat refine ⟨by first|omega|assumption|decide|exact aU fun _=>rfl|(intro _;omega)|rfl|exact fun e=>absurd (List.map_eq_nil_iff.1 e) (by assumption)|(and_intros<;>first|omega|assumption|decide|exact aU fun _=>rfl),?_⟩
    refine hk _ _ ?_;clear hk hp k kp;refine aM ?_
    cases hm
    exact kr 1
theorem kt(rc_syntax_parser_rank:Int→ae→Option ((ai×(List aa)×Int×Int) ⊕ (Int×Int)))(hr_syntax_parser_rank:∀ (p1:Int) (p2:ae) (r:(ai×(List aa)×Int×Int) ⊕ (Int×Int)),rc_syntax_parser_rank p1 p2=some r→ck Tryd.prog 44 [.c (.optr 0 0),.c (.int .i64 p1)] [.box [.tree 4 (p2.l.map aa.enc),.int .i64 p2.end_,.int .i64 p2.open_,.int .i64 p2.terms]] (fun p σ=>(Sum.elim (fun z=>(p=.a [.int .i64 ((z.1).op),.int .i64 ((z.1).k),.int .i64 ((z.1).n),.str ((z.1).name),.tree 1 (((z.1).s).map (eL 2 aw.enc)),.tree 6 (((z.1).l).map ai.enc)]∧σ=[.box [.tree 4 (z.2.1.map aa.enc),.int .i64 p2.end_,.int .i64 z.2.2.1,.int .i64 z.2.2.2]])) (fun z=>False)) r) (fun p _=>(Sum.elim (fun z=>False) (fun z=>p=.c (.ifc 48 true (nsC [(.i64,z.1),(.i64,z.2)])))) r))(p1:Int)(p2:ae)(r:((List ai)×(List aa)×Int×Int) ⊕ (Int×Int))(hm:eW rc_syntax_parser_rank p1 p2=some r):ck Tryd.prog 73 [.c (.optr 0 0),.c (.int .i64 p1)] [.box [.tree 4 (p2.l.map aa.enc),.int .i64 p2.end_,.int .i64 p2.open_,.int .i64 p2.terms]] (fun p σ=>(Sum.elim (fun z=>(p=.c (.tree 6 (z.1.map ai.enc))∧σ=[.box [.tree 4 (z.2.1.map aa.enc),.int .i64 p2.end_,.int .i64 z.2.2.1,.int .i64 z.2.2.2]])) (fun z=>False)) r) (fun p _=>(Sum.elim (fun z=>False) (fun z=>p=.c (.ifc 48 true (nsC [(.i64,z.1),(.i64,z.2)])))) r):=by
 refine aN 38 [.tmp 4] Tryd.func73 rfl rfl rfl (by kernel_rfl) (by simp) ?_;refine bJ ?_;unfold eW at hm;refine ax [4] ?_;refine au [7,8,9] fun k kp hk hp=>?_;refine go ?_;obtain ⟨y1,hc1,hm⟩:=bd hm
 refine am (hr_syntax_parser_rank 0 p2  _ hc1) [0] (by first|trivial|exact aA rfl) (by first|trivial|(intro _;first|trivial|simp [an])|simp [an]) (by simp) (by simp) rfl rfl (by first|trivial|(simp [bX,eK,eB,eS,eL,ar,ah,PV.under,CV.under,af,OB.under,ag];done)) (by first|trivial|(simp [bX,eK,eB,eS,eL,ar,ah,PV.under,CV.under,af,OB.under,ag];done)) ?_ ?_
 rotate_left
 ·rintro p σ' hpp hpl
  rcases y1 with y2|y3
  ·exact False.elim hpp
  simp only [Sum.elim_inl,Sum.elim_inr] at hm hpp;subst hpp;refine hp _ _ _ ?_;obtain rfl:=sI hm;exact rfl
 rintro p σ' hq2 _
 rcases y1 with y4|y5
 ·skip;simp only [Sum.elim_inl,Sum.elim_inr] at hm hq2
  obtain ⟨rfl,rfl⟩:=hq2;refine ab ?_;refine go ?_;refine hk _ _ ?_;clear hk hp k kp;refine bU [.box [.tree 4 (y4.2.1.map aa.enc),.int .i64 p2.end_,.int .i64 y4.2.2.1,.int .i64 y4.2.2.2],.arr 6 0 47 ((lit ([(y4.1)]:List ai)).map ai.enc)] ?_;refine cR [10,11,12,13] fun k kp hk hp=>?_;refine aq 0 ?_;refine go ?_
  refine RS (oC (k:=3) (e:=3) rfl (by first|kernel_rfl|exact of_decide_eq_true (by kernel_rfl))) ?_
  simp only [bR,bT,tab,bX,reduceIte,↓reduceIte,reduceCtorEq,Int.reduceToNat,Nat.reduceDiv,Nat.reduceMod,Nat.reduceLT,Nat.reduceLeDiff,Nat.reduceAdd,Nat.reduceSub,Nat.reduceMul,Nat.reduceEqDiff,Nat.reduceBEq,Nat.reduceBNe,Nat.reduceGT];refine aq 0 ?_;refine go ?_
  refine RS (jT (M:=([]:List (Int×Int))) (k:=3) (e:=3) rfl (by first|rfl|(simp only [bR,bT,tab,bX,reduceIte,↓reduceIte,reduceCtorEq,Int.reduceToNat,Nat.reduceDiv,Nat.reduceMod,Nat.reduceLT,Nat.reduceLeDiff,Nat.reduceAdd,Nat.reduceSub,Nat.reduceMul,Nat.reduceEqDiff,Nat.reduceBEq,Nat.reduceBNe,Nat.reduceGT];done)) (by first|rfl|(simp only [bR,bT,tab,bX,reduceIte,↓reduceIte,reduceCtorEq,Int.reduceToNat,Nat.reduceDiv,Nat.reduceMod,Nat.reduceLT,Nat.reduceLeDiff,Nat.reduceAdd,Nat.reduceSub,Nat.reduceMul,Nat.reduceEqDiff,Nat.reduceBEq,Nat.reduceBNe,Nat.reduceGT];done)) (by first|rfl|(simp only [bR,bT,tab,bX,reduceIte,↓reduceIte,reduceCtorEq,Int.reduceToNat,Nat.reduceDiv,Nat.reduceMod,Nat.reduceLT,Nat.reduceLeDiff,Nat.reduceAdd,Nat.reduceSub,Nat.reduceMul,Nat.reduceEqDiff,Nat.reduceBEq,Nat.reduceBNe,Nat.reduceGT];done)) rfl (by first|kernel_rfl|exact of_decide_eq_true (by kernel_rfl)) (by first|assumption|omega) (by first|assumption|omega|(simp only [List.length_cons,List.length_nil];omega)|decide)) ?_
  simp only [bR,bT,tab,bX,reduceIte,↓reduceIte,reduceCtorEq,Int.reduceToNat,Nat.reduceDiv,Nat.reduceMod,Nat.reduceLT,Nat.reduceLeDiff,Nat.reduceAdd,Nat.reduceSub,Nat.reduceMul,Nat.reduceEqDiff,Nat.reduceBEq,Nat.reduceBNe,Nat.reduceGT];obtain ⟨hg3a,hm⟩:=gd hm;refine aq 0 ?_;refine go ?_
  refine RS (jT (M:=(((10,1):Int×Int) :: ([]:List (Int×Int)))) (k:=3) (e:=3) rfl (by first|rfl|(simp only [bR,bT,tab,bX,reduceIte,↓reduceIte,reduceCtorEq,Int.reduceToNat,Nat.reduceDiv,Nat.reduceMod,Nat.reduceLT,Nat.reduceLeDiff,Nat.reduceAdd,Nat.reduceSub,Nat.reduceMul,Nat.reduceEqDiff,Nat.reduceBEq,Nat.reduceBNe,Nat.reduceGT];done)) (by first|rfl|(simp only [bR,bT,tab,bX,reduceIte,↓reduceIte,reduceCtorEq,Int.reduceToNat,Nat.reduceDiv,Nat.reduceMod,Nat.reduceLT,Nat.reduceLeDiff,Nat.reduceAdd,Nat.reduceSub,Nat.reduceMul,Nat.reduceEqDiff,Nat.reduceBEq,Nat.reduceBNe,Nat.reduceGT];done)) (by first|rfl|(simp only [bR,bT,tab,bX,reduceIte,↓reduceIte,reduceCtorEq,Int.reduceToNat,Nat.reduceDiv,Nat.reduceMod,Nat.reduceLT,Nat.reduceLeDiff,Nat.reduceAdd,Nat.reduceSub,Nat.reduceMul,Nat.reduceEqDiff,Nat.reduceBEq,Nat.reduceBNe,Nat.reduceGT];done)) rfl (by first|kernel_rfl|exact of_decide_eq_true (by kernel_rfl)) (by first|assumption|omega) (by first|assumption|omega|(simp only [List.length_cons,List.length_nil];omega)|decide)) ?_
  simp only [bR,bT,tab,bX,reduceIte,↓reduceIte,reduceCtorEq,Int.reduceToNat,Nat.reduceDiv,Nat.reduceMod,Nat.reduceLT,Nat.reduceLeDiff,Nat.reduceAdd,Nat.reduceSub,Nat.reduceMul,Nat.reduceEqDiff,Nat.reduceBEq,Nat.reduceBNe,Nat.reduceGT];obtain ⟨hg4a,hm⟩:=gd hm;refine aq 0 ?_;refine go ?_
  refine RS (jT (M:=(((13,1):Int×Int) :: (((10,1):Int×Int) :: ([]:List (Int×Int))))) (k:=3) (e:=3) rfl (by first|rfl|(simp only [bR,bT,tab,bX,reduceIte,↓reduceIte,reduceCtorEq,Int.reduceToNat,Nat.reduceDiv,Nat.reduceMod,Nat.reduceLT,Nat.reduceLeDiff,Nat.reduceAdd,Nat.reduceSub,Nat.reduceMul,Nat.reduceEqDiff,Nat.reduceBEq,Nat.reduceBNe,Nat.reduceGT];done)) (by first|rfl|(simp only [bR,bT,tab,bX,reduceIte,↓reduceIte,reduceCtorEq,Int.reduceToNat,Nat.reduceDiv,Nat.reduceMod,Nat.reduceLT,Nat.reduceLeDiff,Nat.reduceAdd,Nat.reduceSub,Nat.reduceMul,Nat.reduceEqDiff,Nat.reduceBEq,Nat.reduceBNe,Nat.reduceGT];done)) (by first|rfl|(simp only [bR,bT,tab,bX,reduceIte,↓reduceIte,reduceCtorEq,Int.reduceToNat,Nat.reduceDiv,Nat.reduceMod,Nat.reduceLT,Nat.reduceLeDiff,Nat.reduceAdd,Nat.reduceSub,Nat.reduceMul,Nat.reduceEqDiff,Nat.reduceBEq,Nat.reduceBNe,Nat.reduceGT];done)) rfl (by first|kernel_rfl|exact of_decide_eq_true (by kernel_rfl)) (by first|assumption|omega) (by first|assumption|omega|(simp only [List.length_cons,List.length_nil];omega)|decide)) ?_
  simp only [bR,bT,tab,bX,reduceIte,↓reduceIte,reduceCtorEq,Int.reduceToNat,Nat.reduceDiv,Nat.reduceMod,Nat.reduceLT,Nat.reduceLeDiff,Nat.reduceAdd,Nat.reduceSub,Nat.reduceMul,Nat.reduceEqDiff,Nat.reduceBEq,Nat.reduceBNe,Nat.reduceGT];obtain ⟨hg5a,hm⟩:=gd hm;refine aq 0 ?_;refine go ?_
  refine RS (jT (M:=(((7,1):Int×Int) :: (((13,1):Int×Int) :: (((10,1):Int×Int) :: ([]:List (Int×Int)))))) (k:=3) (e:=3) rfl (by first|rfl|(simp only [bR,bT,tab,bX,reduceIte,↓reduceIte,reduceCtorEq,Int.reduceToNat,Nat.reduceDiv,Nat.reduceMod,Nat.reduceLT,Nat.reduceLeDiff,Nat.reduceAdd,Nat.reduceSub,Nat.reduceMul,Nat.reduceEqDiff,Nat.reduceBEq,Nat.reduceBNe,Nat.reduceGT];done)) (by first|rfl|(simp only [bR,bT,tab,bX,reduceIte,↓reduceIte,reduceCtorEq,Int.reduceToNat,Nat.reduceDiv,Nat.reduceMod,Nat.reduceLT,Nat.reduceLeDiff,Nat.reduceAdd,Nat.reduceSub,Nat.reduceMul,Nat.reduceEqDiff,Nat.reduceBEq,Nat.reduceBNe,Nat.reduceGT];done)) (by first|rfl|(simp only [bR,bT,tab,bX,reduceIte,↓reduceIte,reduceCtorEq,Int.reduceToNat,Nat.reduceDiv,Nat.reduceMod,Nat.reduceLT,Nat.reduceLeDiff,Nat.reduceAdd,Nat.reduceSub,Nat.reduceMul,Nat.reduceEqDiff,Nat.reduceBEq,Nat.reduceBNe,Nat.reduceGT];done)) rfl (by first|kernel_rfl|exact of_decide_eq_true (by kernel_rfl)) (by first|assumption|omega) (by first|assumption|omega|(simp only [List.length_cons,List.length_nil];omega)|decide)) ?_
  simp only [bR,bT,tab,bX,reduceIte,↓reduceIte,reduceCtorEq,Int.reduceToNat,Nat.reduceDiv,Nat.reduceMod,Nat.reduceLT,Nat.reduceLeDiff,Nat.reduceAdd,Nat.reduceSub,Nat.reduceMul,Nat.reduceEqDiff,Nat.reduceBEq,Nat.reduceBNe,Nat.reduceGT];obtain ⟨hg6a,hm⟩:=gd hm;refine aq 2 ?_;refine go ?_
  refine RS (oE (M:=(((12,3):Int×Int) :: (((7,1):Int×Int) :: (((13,1):Int×Int) :: (((10,1):Int×Int) :: ([]:List (Int×Int))))))) (k:=3) (e:=3) rfl (by first|rfl|(simp only [bR,bT,tab,bX,reduceIte,↓reduceIte,reduceCtorEq,Int.reduceToNat,Nat.reduceDiv,Nat.reduceMod,Nat.reduceLT,Nat.reduceLeDiff,Nat.reduceAdd,Nat.reduceSub,Nat.reduceMul,Nat.reduceEqDiff,Nat.reduceBEq,Nat.reduceBNe,Nat.reduceGT];done)) (by first|rfl|(simp only [bR,bT,tab,bX,reduceIte,↓reduceIte,reduceCtorEq,Int.reduceToNat,Nat.reduceDiv,Nat.reduceMod,Nat.reduceLT,Nat.reduceLeDiff,Nat.reduceAdd,Nat.reduceSub,Nat.reduceMul,Nat.reduceEqDiff,Nat.reduceBEq,Nat.reduceBNe,Nat.reduceGT];done)) rfl (by first|kernel_rfl|exact of_decide_eq_true (by kernel_rfl)) (by first|kernel_rfl|exact of_decide_eq_true (by kernel_rfl)) (by first|assumption|omega)) ?_
  simp only [bR,bT,tab,bX,reduceIte,↓reduceIte,reduceCtorEq,Int.reduceToNat,Nat.reduceDiv,Nat.reduceMod,Nat.reduceLT,Nat.reduceLeDiff,Nat.reduceAdd,Nat.reduceSub,Nat.reduceMul,Nat.reduceEqDiff,Nat.reduceBEq,Nat.reduceBNe,Nat.reduceGT];refine ab ?_;refine go ?_;refine hk _ _ ?_;clear hk hp k kp;refine bU [.box [.tree 4 (y4.2.1.map aa.enc),.int .i64 p2.end_,.int .i64 y4.2.2.1,.int .i64 y4.2.2.2],.arr 6 0 47 ((lit ([(y4.1)]:List ai)).map ai.enc),.mp Tryd.prog 3 ((((12,3):Int×Int) :: (((7,1):Int×Int) :: (((13,1):Int×Int) :: (((10,1):Int×Int) :: ([]:List (Int×Int)))))).map mII)] ?_;refine bk (S:=Int) (V:=Unit) [1,5,6,14,15,16,17,18,19,20,21,22,23,24] (fun x6 _=>[(5,.c (.osl 1 0 0 1)),(6,.c (.int .i64 x6))]) (fun x6 _=>[.box [.tree 4 (y4.2.1.map aa.enc),.int .i64 p2.end_,.int .i64 y4.2.2.1,.int .i64 y4.2.2.2],.arr 6 0 47 ((lit ([(y4.1)]:List ai)).map ai.enc),.mp Tryd.prog 3 ((((12,3):Int×Int) :: (((7,1):Int×Int) :: (((13,1):Int×Int) :: (((10,1):Int×Int) :: ([]:List (Int×Int)))))).map mII)]) (fun x6=>bz rc_syntax_parser_rank p2 y4 x6=some r) ?_ ?_
  ·skip
   by_cases h16:((lv (((12,3):Int×Int) :: (((7,1):Int×Int) :: (((13,1):Int×Int) :: (((10,1):Int×Int) :: ([]:List (Int×Int)))))) p1).getD 0)=0
   ·rw [iP h16] at hm;have h16b:=eQ h16;refine gG h16b [1,14,15,16,17,18,19,20,21,22,23] ?_;refine aj rfl rfl ?_;refine cB ?_;refine ao 2 () hm ?_;exact ls
   ·rw [iN h16] at hm;have h16b:=nB h16;refine cR [1,14,15,16,17,18,19,20,21,22,23] fun k kp hk hp=>?_;refine aq 6 ?_;refine gox h16b ?_
    by_cases h17:p1=7
    ·rw [iP h17] at hm;have h17b:=eQ h17;refine ab ?_;refine gox (a2 h16b h17b) ?_;refine ay (aB 3 rfl) ?_;refine gtx (a2 h16b h17b) ?_;obtain ⟨y50,hc18,hm⟩:=bd hm;refine RA (aD (lit ([([44]:List UInt8)]:List (List UInt8))) (ae.mk y4.2.1 p2.end_ y4.2.2.1 y4.2.2.2)  _ hc18) [0] ?_;rintro p σ' ⟨rfl,rfl⟩ _;refine ab ?_;refine gox (a2 h16b h17b) ?_;refine hk _ _ ?_;clear hk hp k kp
     by_cases h20:y50=true
     ·rw [iP h20] at hm;refine aj rfl (h20) ?_;refine cB ?_;refine ao 2 () hm ?_;exact ls
     ·rw [iN h20] at hm;refine ak rfl (fB h20) ?_;refine av ?_;refine ao ((lv (((12,3):Int×Int) :: (((7,1):Int×Int) :: (((13,1):Int×Int) :: (((10,1):Int×Int) :: ([]:List (Int×Int)))))) p1).getD 0) () hm ?_;exact ls
    ·rw [iN h17] at hm;have h17b:=nB h17;refine ab ?_;refine gox (a2 h16b h17b) ?_;refine hk _ _ ?_;clear hk hp k kp;refine ak rfl rfl ?_;refine av ?_;refine ao ((lv (((12,3):Int×Int) :: (((7,1):Int×Int) :: (((13,1):Int×Int) :: (((10,1):Int×Int) :: ([]:List (Int×Int)))))) p1).getD 0) () hm ?_;exact ls
  ·rintro x6 _ hm;replace hm:bz rc_syntax_parser_rank p2 y4 x6=some r:=hm;refine bw ?_;unfold bz at hm;refine bk (S:=((List aa)×Int×Int×(List ai))) (V:=Nat) [0,5,6,25,26,27,28,29,30,31,32,33,34,35,36] (fun (l9,x10,x11,l12) v13=>[(5,.c (.osl 1 v13 0 l12.length))]) (fun (l9,x10,x11,l12) v13=>[.box [.tree 4 (l9.map aa.enc),.int .i64 p2.end_,.int .i64 x10,.int .i64 x11],.arr 6 v13 47 (l12.map ai.enc),.mp Tryd.prog 3 ((((12,3):Int×Int) :: (((7,1):Int×Int) :: (((13,1):Int×Int) :: (((10,1):Int×Int) :: ([]:List (Int×Int)))))).map mII)]) (fun (l9,x10,x11,l12)=>dM l9 x10 x11 l12=some r) ?_ ?_
   ·skip;refine aY ?_
    obtain ⟨o1,hl1,hm1⟩:=bd hm;refine dB (S:=((List aa)×Int×Int×(List ai))) (V:=Nat) (O:=((List aa)×Int×Int×(List ai)) ⊕ (((List ai)×(List aa)×Int×Int) ⊕ (Int×Int))) [5,25,26,27,28,29,30,31,32,33,34,35,36] (fun (l30,x31,x32,l33) v34=>[(5,.c (.osl 1 v34 0 l33.length))]) (fun (l30,x31,x32,l33) v34=>[.box [.tree 4 (l30.map aa.enc),.int .i64 p2.end_,.int .i64 x31,.int .i64 x32],.arr 6 v34 47 (l33.map ai.enc),.mp Tryd.prog 3 ((((12,3):Int×Int) :: (((7,1):Int×Int) :: (((13,1):Int×Int) :: (((10,1):Int×Int) :: ([]:List (Int×Int)))))).map mII)]) _ _ 0 hl1 ?_ ?_
    ·exact ls
    ·rintro ⟨l30,x31,x32,l33⟩ v34 r1 hm hr1;replace hm:dN rc_syntax_parser_rank p2 x6 l30 x31 x32 l33=some r1:=hm;refine bw ?_;unfold dN at hm;refine aR fun k1 hk1=>?_;refine ax [25,26,27] ?_
     by_cases h7:(l33.length:Int)<x6
     ·rw [iP h7] at hm;refine aj rfl (dT h7) ?_;refine av ?_;refine aL (hk1 _ _ ?_);refine aY ?_;refine au [28,29,30,31] fun k kp hk hp=>?_;refine go ?_;refine ay (aB 3 rfl) ?_;refine gt ?_;obtain ⟨y35,hc8,hm⟩:=bd hm
      refine am (aJ (lit ([([44]:List UInt8)]:List (List UInt8))) (ae.mk l30 p2.end_ x31 x32)  _ hc8) [0] (by first|trivial|exact aA rfl) (by first|trivial|(intro _;first|trivial|simp [an])|simp [an]) (by simp) (by simp) rfl rfl (by first|trivial|(simp [bX,eK,eB,eS,eL,ar,ah,PV.under,CV.under,af,OB.under,ag];done)) (by first|trivial|(simp [bX,eK,eB,eS,eL,ar,ah,PV.under,CV.under,af,OB.under,ag];done)) ?_ ?_
      rotate_left
      ·rintro p σ' hpp hpl
       rcases y35 with y36|y37
       ·exact False.elim hpp
       simp only [Sum.elim_inl,Sum.elim_inr] at hm hpp;subst hpp;have ho10:=a8 hm hr1;subst ho10;replace hm:some (.inr (y37.1,y37.2))=some r:=hm1;refine hp _ _ _ ?_;refine aP ?_;refine cm ?_;refine aP ?_;refine be ?_;obtain rfl:=sI hm;exact rfl
      rintro p σ' hq9 _
      rcases y35 with y38|y39
      ·skip;simp only [Sum.elim_inl,Sum.elim_inr] at hm hq9
       obtain ⟨rfl,rfl⟩:=hq9;refine ab ?_;refine go ?_;refine hk _ _ ?_;clear hk hp k kp;refine bf fun k kp hk hp=>?_;refine go ?_;obtain ⟨y40,hc11,hm⟩:=bd hm
       refine am (hr_syntax_parser_rank 0 (ae.mk y38 p2.end_ x31 x32)  _ hc11) [0] (by first|trivial|exact aA rfl) (by first|trivial|(intro _;first|trivial|simp [an])|simp [an]) (by simp) (by simp) rfl rfl (by first|trivial|(simp [bX,eK,eB,eS,eL,ar,ah,PV.under,CV.under,af,OB.under,ag];done)) (by first|trivial|(simp [bX,eK,eB,eS,eL,ar,ah,PV.under,CV.under,af,OB.under,ag];done)) ?_ ?_
       rotate_left
       ·rintro p σ' hpp hpl
        rcases y40 with y41|y42
        ·exact False.elim hpp
        simp only [Sum.elim_inl,Sum.elim_inr] at hm hpp;subst hpp;have ho13:=a8 hm hr1;subst ho13;replace hm:some (.inr (y42.1,y42.2))=some r:=hm1;refine hp _ _ _ ?_;refine aP ?_;refine cm ?_;refine aP ?_;refine be ?_;obtain rfl:=sI hm;exact rfl
       rintro p σ' hq12 _
       rcases y40 with y43|y44
       ·skip;simp only [Sum.elim_inl,Sum.elim_inr] at hm hq12
        obtain ⟨rfl,rfl⟩:=hq12;obtain ⟨⟨hg14ax,hg14ay⟩,hm⟩:=gd hm;refine ab ?_;refine go ?_;refine hk _ _ ?_;clear hk hp k kp;refine ap ?_;refine aH (y43.2.1,y43.2.2.1,y43.2.2.2,(l33++(lit ([(y43.1)]:List ai)))) (v34+1) hm ?_;exact ls
       ·skip;exact False.elim hq12
      ·skip;exact False.elim hq9
     ·rw [iN h7] at hm;refine ak rfl (dF h7) ?_;refine e7 ?_;have ho15:=a8 hm hr1;subst ho15;replace hm:dM l30 x31 x32 l33=some r:=hm1;refine eC (cM (bx ?_));refine ao (l30,x31,x32,l33) v34 hm ?_;exact ls
   ·rintro ⟨l9,x10,x11,l12⟩ v13 hm;replace hm:dM l9 x10 x11 l12=some r:=hm;refine bw ?_;unfold dM at hm;refine ax [5,37] ?_;refine kj (aB 1 rfl) ?_;refine aM ?_
    cases hm
    exact kr 1
 ·skip;exact False.elim hq2
theorem jU(p1 p2 p3:Int)(p4:List UInt8)(p5:List ai)(p6:ae)(p7:List (List aw))(v1_:Nat)(r:(Int×Int×Int×(List UInt8)×(List ai)×Int))(hm:gm p1 p2 p3 p4 p5 p6 p7=some r):ck Tryd.prog 51 [.c (.optr 0 0),.a [.int .i64 p1,.int .i64 p2,.int .i64 p3,.str p4,.osl 1 v1_ 0 p7.length,.tree 6 (p5.map ai.enc)]] [.box [.tree 4 (p6.l.map aa.enc),.int .i64 p6.end_,.int .i64 p6.open_,.int .i64 p6.terms],.arr 1 v1_ 72 (p7.map (eL 2 aw.enc))] (fun p σ=>(p=.a [.int .i64 r.1,.int .i64 r.2.1,.int .i64 r.2.2.1,.str r.2.2.2.1,.osl 1 v1_ 0 p7.length,.tree 6 (r.2.2.2.2.1.map ai.enc)]∧σ=[.box [.tree 4 (p6.l.map aa.enc),.int .i64 p6.end_,.int .i64 p6.open_,.int .i64 r.2.2.2.2.2],.arr 1 v1_ 72 (p7.map (eL 2 aw.enc))])) (fun _ _=>False):=by
 refine aN 13 [.cell 4 47] Tryd.func51 rfl rfl rfl (by kernel_rfl) (by simp) ?_;refine bJ ?_;unfold gm at hm;refine ax [1] ?_;refine ax [0,5,6,7,8,9,10,11] ?_;refine ax [3,12] ?_;refine aM ?_
 cases hm
 exact kr 2
theorem jV(rc_syntax_parser_rank:Int→ae→Option ((ai×(List aa)×Int×Int) ⊕ (Int×Int)))(hr_syntax_parser_rank:∀ (p1:Int) (p2:ae) (r:(ai×(List aa)×Int×Int) ⊕ (Int×Int)),rc_syntax_parser_rank p1 p2=some r→ck Tryd.prog 44 [.c (.optr 0 0),.c (.int .i64 p1)] [.box [.tree 4 (p2.l.map aa.enc),.int .i64 p2.end_,.int .i64 p2.open_,.int .i64 p2.terms]] (fun p σ=>(Sum.elim (fun z=>(p=.a [.int .i64 ((z.1).op),.int .i64 ((z.1).k),.int .i64 ((z.1).n),.str ((z.1).name),.tree 1 (((z.1).s).map (eL 2 aw.enc)),.tree 6 (((z.1).l).map ai.enc)]∧σ=[.box [.tree 4 (z.2.1.map aa.enc),.int .i64 p2.end_,.int .i64 z.2.2.1,.int .i64 z.2.2.2]])) (fun z=>False)) r) (fun p _=>(Sum.elim (fun z=>False) (fun z=>p=.c (.ifc 48 true (nsC [(.i64,z.1),(.i64,z.2)])))) r))(p1 p2 p3 p4:Int)(p5:List UInt8)(p6:List ai)(p7:ae)(p8:List (List aw))(v4_:Nat)(r:(Int×Int×Int×(List UInt8)×(List ai)×Int×(List ai)×(List aa)×Int×Int×(List (List aw))) ⊕ (Int×Int))(hm:eH rc_syntax_parser_rank p1 p2 p3 p4 p5 p6 p7 p8=some r):ck Tryd.prog 71 [.c (.optr 0 0),.c (.optr 1 0),.c (.optr 2 0)] [.box [.optr 3 0],.box [.int .i64 p1],.box [.int .i64 p2,.int .i64 p3,.int .i64 p4,.str p5,.osl 4 v4_ 0 p8.length,.tree 6 (p6.map ai.enc)],.box [.tree 4 (p7.l.map aa.enc),.int .i64 p7.end_,.int .i64 p7.open_,.int .i64 p7.terms],.arr 1 v4_ 72 (p8.map (eL 2 aw.enc))] (fun p σ=>(Sum.elim (fun z=>∃ w4_,(p=.a [.int .i64 z.1,.int .i64 z.2.1,.int .i64 z.2.2.1,.str z.2.2.2.1,.osl 4 w4_ 0 z.2.2.2.2.2.2.2.2.2.2.length,.tree 6 (z.2.2.2.2.1.map ai.enc)]∧σ=[.box [.optr 3 0],.box [.int .i64 p1],.box [.int .i64 p2,.int .i64 z.2.2.2.2.2.1,.int .i64 p4,.str p5,.osl 4 w4_ 0 z.2.2.2.2.2.2.2.2.2.2.length,.tree 6 (z.2.2.2.2.2.2.1.map ai.enc)],.box [.tree 4 (z.2.2.2.2.2.2.2.1.map aa.enc),.int .i64 p7.end_,.int .i64 z.2.2.2.2.2.2.2.2.1,.int .i64 z.2.2.2.2.2.2.2.2.2.1],.arr 1 w4_ 72 (z.2.2.2.2.2.2.2.2.2.2.map (eL 2 aw.enc))])) (fun z=>False)) r) (fun p _=>(Sum.elim (fun z=>False) (fun z=>p=.c (.ifc 48 true (nsC [(.i64,z.1),(.i64,z.2)])))) r):=by
 refine aN 46 [.cell 3 47] Tryd.func71 rfl rfl rfl (by kernel_rfl) (by simp) ?_;refine bJ ?_;unfold eH at hm;refine ax [] ?_;refine au [4,5,6] fun k kp hk hp=>?_;refine go ?_;refine ay (aB 6 rfl) ?_;refine gt ?_;obtain ⟨y1,hc1,hm⟩:=bd hm
 refine am (aJ (lit ([([40]:List UInt8)]:List (List UInt8))) p7  _ hc1) [3] (by first|trivial|exact aA rfl) (by first|trivial|(intro _;first|trivial|simp [an])|simp [an]) (by simp) (by simp) rfl rfl (by first|trivial|(simp [bX,eK,eB,eS,eL,ar,ah,PV.under,CV.under,af,OB.under,ag];done)) (by first|trivial|(simp [bX,eK,eB,eS,eL,ar,ah,PV.under,CV.under,af,OB.under,ag];done)) ?_ ?_
 rotate_left
 ·rintro p σ' hpp hpl
  rcases y1 with y2|y3
  ·exact False.elim hpp
  simp only [Sum.elim_inl,Sum.elim_inr] at hm hpp;subst hpp;refine hp _ _ _ ?_;obtain rfl:=sI hm;exact rfl
 rintro p σ' hq2 _
 rcases y1 with y4|y5
 ·skip;simp only [Sum.elim_inl,Sum.elim_inr] at hm hq2
  obtain ⟨rfl,rfl⟩:=hq2;refine ab ?_;refine go ?_;refine hk _ _ ?_;clear hk hp k kp;refine bk (S:=(Int×(List aa))) (V:=Unit) [7,8,9,10,11,12,13,14,15,16,17,18] (fun (x6,l7) _=>[]) (fun (x6,l7) _=>[.box [.optr 3 0],.box [.int .i64 p1],.box [.int .i64 p2,.int .i64 x6,.int .i64 p4,.str p5,.osl 4 v4_ 0 p8.length,.tree 6 (p6.map ai.enc)],.box [.tree 4 (l7.map aa.enc),.int .i64 p7.end_,.int .i64 p7.open_,.int .i64 p7.terms],.arr 1 v4_ 72 (p8.map (eL 2 aw.enc)),.box [.int .i64 0,.int .i64 0,.int .i64 0,.str [],.nils,.nils],.dead]) (fun (x6,l7)=>bI rc_syntax_parser_rank p1 p2 p4 p5 p7 p8 x6 l7=some r) ?_ ?_
  ·skip
   by_cases h19:p1≤9
   ·rw [iP h19] at hm;have h19b:=dT h19;refine gG h19b [7,8,9,10,11] ?_
    by_cases h20:p1≥7
    ·rw [iP h20] at hm;refine aj rfl (dT h20) ?_;refine au [12,13,14,15] fun k kp hk hp=>?_;refine go ?_;obtain ⟨y53,hc21,hm⟩:=bd hm
     refine am (jg (ae.mk y4 p7.end_ p7.open_ p7.terms)  _ hc21) [3] (by first|trivial|exact aA rfl) (by first|trivial|(intro _;first|trivial|simp [an])|simp [an]) (by simp) (by simp) rfl rfl (by first|trivial|(simp [bX,eK,eB,eS,eL,ar,ah,PV.under,CV.under,af,OB.under,ag];done)) (by first|trivial|(simp [bX,eK,eB,eS,eL,ar,ah,PV.under,CV.under,af,OB.under,ag];done)) ?_ ?_
     rotate_left
     ·rintro p σ' hpp hpl
      rcases y53 with y54|y55
      ·exact False.elim hpp
      simp only [Sum.elim_inl,Sum.elim_inr] at hm hpp;subst hpp;refine hp _ _ _ ?_;refine be ?_;obtain rfl:=sI hm;exact rfl
     rintro p σ' hq22 _
     rcases y53 with y56|y57
     ·skip;simp only [Sum.elim_inl,Sum.elim_inr] at hm hq22
      obtain ⟨rfl,rfl⟩:=hq22;refine ab ?_;refine go ?_;refine hk _ _ ?_;clear hk hp k kp;refine bf fun k kp hk hp=>?_;refine go ?_;refine ay (aB 7 rfl) ?_;refine gt ?_;obtain ⟨y58,hc23,hm⟩:=bd hm
      refine am (aJ (lit ([([44]:List UInt8)]:List (List UInt8))) (ae.mk y56.2 p7.end_ p7.open_ p7.terms)  _ hc23) [3] (by first|trivial|exact aA rfl) (by first|trivial|(intro _;first|trivial|simp [an])|simp [an]) (by simp) (by simp) rfl rfl (by first|trivial|(simp [bX,eK,eB,eS,eL,ar,ah,PV.under,CV.under,af,OB.under,ag];done)) (by first|trivial|(simp [bX,eK,eB,eS,eL,ar,ah,PV.under,CV.under,af,OB.under,ag];done)) ?_ ?_
      rotate_left
      ·rintro p σ' hpp hpl
       rcases y58 with y59|y60
       ·exact False.elim hpp
       simp only [Sum.elim_inl,Sum.elim_inr] at hm hpp;subst hpp;refine hp _ _ _ ?_;refine be ?_;obtain rfl:=sI hm;exact rfl
      rintro p σ' hq24 _
      rcases y58 with y61|y62
      ·skip;simp only [Sum.elim_inl,Sum.elim_inr] at hm hq24
       obtain ⟨rfl,rfl⟩:=hq24;refine ab ?_;refine go ?_;refine hk _ _ ?_;clear hk hp k kp;refine ao (y56.1,y61) () hm ?_;exact ls
      ·skip;exact False.elim hq24
     ·skip;exact False.elim hq22
    ·rw [iN h20] at hm;refine ak rfl (dF h20) ?_;refine av ?_;refine ao (p3,y4) () hm ?_;exact ls
   ·rw [iN h19] at hm;have h19b:=dF h19;refine gG h19b [7,8,9,10,11] ?_;refine ak rfl rfl ?_;refine av ?_;refine ao (p3,y4) () hm ?_;exact ls
  ·rintro ⟨x6,l7⟩ _ hm;replace hm:bI rc_syntax_parser_rank p1 p2 p4 p5 p7 p8 x6 l7=some r:=hm;refine bw ?_;unfold bI at hm;refine au [19,20,21,22] fun k kp hk hp=>?_;refine go ?_;obtain ⟨y8,hc3,hm⟩:=bd hm
   refine am (kt rc_syntax_parser_rank hr_syntax_parser_rank p1 (ae.mk l7 p7.end_ p7.open_ p7.terms)  _ hc3) [3] (by first|trivial|exact aA rfl) (by first|trivial|(intro _;first|trivial|simp [an])|simp [an]) (by simp) (by simp) rfl rfl (by first|trivial|(simp [bX,eK,eB,eS,eL,ar,ah,PV.under,CV.under,af,OB.under,ag];done)) (by first|trivial|(simp [bX,eK,eB,eS,eL,ar,ah,PV.under,CV.under,af,OB.under,ag];done)) ?_ ?_
   rotate_left
   ·rintro p σ' hpp hpl
    rcases y8 with y9|y10
    ·exact False.elim hpp
    simp only [Sum.elim_inl,Sum.elim_inr] at hm hpp;subst hpp;refine hp _ _ _ ?_;obtain rfl:=sI hm;exact rfl
   rintro p σ' hq4 _
   rcases y8 with y11|y12
   ·skip;simp only [Sum.elim_inl,Sum.elim_inr] at hm hq4
    obtain ⟨rfl,rfl⟩:=hq4;refine ab ?_;refine go ?_;refine hk _ _ ?_;clear hk hp k kp;refine bk (S:=((List aa)×(List (List aw)))) (V:=Nat) [1,23,24,25,26,27,28,29,30,31,32,33,34,35,36,37,38,39] (fun (l15,l16) v17=>[]) (fun (l15,l16) v17=>[.box [.optr 3 0],.box [.int .i64 p1],.box [.int .i64 p2,.int .i64 x6,.int .i64 p4,.str p5,.osl 4 v17 0 l16.length,.tree 6 (y11.1.map ai.enc)],.box [.tree 4 (l15.map aa.enc),.int .i64 p7.end_,.int .i64 y11.2.2.1,.int .i64 y11.2.2.2],.arr 1 v17 72 (l16.map (eL 2 aw.enc)),.box [.int .i64 0,.int .i64 0,.int .i64 0,.str [],.nils,.nils],.dead]) (fun (l15,l16)=>cj p2 p4 p5 p7 x6 y11 l15 l16=some r) ?_ ?_
    ·skip;refine cR [1,23,24,25] fun k kp hk hp=>?_
     refine aq 0 ?_;refine go ?_
     refine RS (oC (k:=3) (e:=3) rfl (by first|kernel_rfl|exact of_decide_eq_true (by kernel_rfl))) ?_
     simp only [bR,bT,tab,bX,reduceIte,↓reduceIte,reduceCtorEq,Int.reduceToNat,Nat.reduceDiv,Nat.reduceMod,Nat.reduceLT,Nat.reduceLeDiff,Nat.reduceAdd,Nat.reduceSub,Nat.reduceMul,Nat.reduceEqDiff,Nat.reduceBEq,Nat.reduceBNe,Nat.reduceGT];refine aq 0 ?_;refine go ?_
     refine RS (jT (M:=([]:List (Int×Int))) (k:=3) (e:=3) rfl (by first|rfl|(simp only [bR,bT,tab,bX,reduceIte,↓reduceIte,reduceCtorEq,Int.reduceToNat,Nat.reduceDiv,Nat.reduceMod,Nat.reduceLT,Nat.reduceLeDiff,Nat.reduceAdd,Nat.reduceSub,Nat.reduceMul,Nat.reduceEqDiff,Nat.reduceBEq,Nat.reduceBNe,Nat.reduceGT];done)) (by first|rfl|(simp only [bR,bT,tab,bX,reduceIte,↓reduceIte,reduceCtorEq,Int.reduceToNat,Nat.reduceDiv,Nat.reduceMod,Nat.reduceLT,Nat.reduceLeDiff,Nat.reduceAdd,Nat.reduceSub,Nat.reduceMul,Nat.reduceEqDiff,Nat.reduceBEq,Nat.reduceBNe,Nat.reduceGT];done)) (by first|rfl|(simp only [bR,bT,tab,bX,reduceIte,↓reduceIte,reduceCtorEq,Int.reduceToNat,Nat.reduceDiv,Nat.reduceMod,Nat.reduceLT,Nat.reduceLeDiff,Nat.reduceAdd,Nat.reduceSub,Nat.reduceMul,Nat.reduceEqDiff,Nat.reduceBEq,Nat.reduceBNe,Nat.reduceGT];done)) rfl (by first|kernel_rfl|exact of_decide_eq_true (by kernel_rfl)) (by first|assumption|omega) (by first|assumption|omega|(simp only [List.length_cons,List.length_nil];omega)|decide)) ?_
     simp only [bR,bT,tab,bX,reduceIte,↓reduceIte,reduceCtorEq,Int.reduceToNat,Nat.reduceDiv,Nat.reduceMod,Nat.reduceLT,Nat.reduceLeDiff,Nat.reduceAdd,Nat.reduceSub,Nat.reduceMul,Nat.reduceEqDiff,Nat.reduceBEq,Nat.reduceBNe,Nat.reduceGT];obtain ⟨hg9a,hm⟩:=gd hm;refine aq 0 ?_;refine go ?_
     refine RS (jT (M:=(((10,1):Int×Int) :: ([]:List (Int×Int)))) (k:=3) (e:=3) rfl (by first|rfl|(simp only [bR,bT,tab,bX,reduceIte,↓reduceIte,reduceCtorEq,Int.reduceToNat,Nat.reduceDiv,Nat.reduceMod,Nat.reduceLT,Nat.reduceLeDiff,Nat.reduceAdd,Nat.reduceSub,Nat.reduceMul,Nat.reduceEqDiff,Nat.reduceBEq,Nat.reduceBNe,Nat.reduceGT];done)) (by first|rfl|(simp only [bR,bT,tab,bX,reduceIte,↓reduceIte,reduceCtorEq,Int.reduceToNat,Nat.reduceDiv,Nat.reduceMod,Nat.reduceLT,Nat.reduceLeDiff,Nat.reduceAdd,Nat.reduceSub,Nat.reduceMul,Nat.reduceEqDiff,Nat.reduceBEq,Nat.reduceBNe,Nat.reduceGT];done)) (by first|rfl|(simp only [bR,bT,tab,bX,reduceIte,↓reduceIte,reduceCtorEq,Int.reduceToNat,Nat.reduceDiv,Nat.reduceMod,Nat.reduceLT,Nat.reduceLeDiff,Nat.reduceAdd,Nat.reduceSub,Nat.reduceMul,Nat.reduceEqDiff,Nat.reduceBEq,Nat.reduceBNe,Nat.reduceGT];done)) rfl (by first|kernel_rfl|exact of_decide_eq_true (by kernel_rfl)) (by first|assumption|omega) (by first|assumption|omega|(simp only [List.length_cons,List.length_nil];omega)|decide)) ?_
     simp only [bR,bT,tab,bX,reduceIte,↓reduceIte,reduceCtorEq,Int.reduceToNat,Nat.reduceDiv,Nat.reduceMod,Nat.reduceLT,Nat.reduceLeDiff,Nat.reduceAdd,Nat.reduceSub,Nat.reduceMul,Nat.reduceEqDiff,Nat.reduceBEq,Nat.reduceBNe,Nat.reduceGT];obtain ⟨hg10a,hm⟩:=gd hm;refine aq 2 ?_;refine go ?_
     refine RS (oE (M:=(((13,2):Int×Int) :: (((10,1):Int×Int) :: ([]:List (Int×Int))))) (k:=3) (e:=3) rfl (by first|rfl|(simp only [bR,bT,tab,bX,reduceIte,↓reduceIte,reduceCtorEq,Int.reduceToNat,Nat.reduceDiv,Nat.reduceMod,Nat.reduceLT,Nat.reduceLeDiff,Nat.reduceAdd,Nat.reduceSub,Nat.reduceMul,Nat.reduceEqDiff,Nat.reduceBEq,Nat.reduceBNe,Nat.reduceGT];done)) (by first|rfl|(simp only [bR,bT,tab,bX,reduceIte,↓reduceIte,reduceCtorEq,Int.reduceToNat,Nat.reduceDiv,Nat.reduceMod,Nat.reduceLT,Nat.reduceLeDiff,Nat.reduceAdd,Nat.reduceSub,Nat.reduceMul,Nat.reduceEqDiff,Nat.reduceBEq,Nat.reduceBNe,Nat.reduceGT];done)) rfl (by first|kernel_rfl|exact of_decide_eq_true (by kernel_rfl)) (by first|kernel_rfl|exact of_decide_eq_true (by kernel_rfl)) (by first|assumption|omega)) ?_
     simp only [bR,bT,tab,bX,reduceIte,↓reduceIte,reduceCtorEq,Int.reduceToNat,Nat.reduceDiv,Nat.reduceMod,Nat.reduceLT,Nat.reduceLeDiff,Nat.reduceAdd,Nat.reduceSub,Nat.reduceMul,Nat.reduceEqDiff,Nat.reduceBEq,Nat.reduceBNe,Nat.reduceGT];refine ab ?_;refine go ?_;refine hk _ _ ?_;clear hk hp k kp;refine bU [.box [.optr 3 0],.box [.int .i64 p1],.box [.int .i64 p2,.int .i64 x6,.int .i64 p4,.str p5,.osl 4 v4_ 0 p8.length,.tree 6 (y11.1.map ai.enc)],.box [.tree 4 (y11.2.1.map aa.enc),.int .i64 p7.end_,.int .i64 y11.2.2.1,.int .i64 y11.2.2.2],.arr 1 v4_ 72 (p8.map (eL 2 aw.enc)),.box [.int .i64 0,.int .i64 0,.int .i64 0,.str [],.nils,.nils],.dead,.mp Tryd.prog 3 ((((13,2):Int×Int) :: (((10,1):Int×Int) :: ([]:List (Int×Int)))).map mII)] ?_;refine aY ?_;obtain ⟨o1,hl1,hm1⟩:=bd hm;refine dB (S:=((List aa)×(List (List aw))×Int)) (V:=Nat) (O:=((List aa)×(List (List aw))) ⊕ ((Int×Int×Int×(List UInt8)×(List ai)×Int×(List ai)×(List aa)×Int×Int×(List (List aw))) ⊕ (Int×Int))) [27,28,29,30,31,32,33,34,35,36,37,38,39] (fun (l38,l39,x41) v40=>[(27,.c (.int .i64 x41))]) (fun (l38,l39,x41) v40=>[.box [.optr 3 0],.box [.int .i64 p1],.box [.int .i64 p2,.int .i64 x6,.int .i64 p4,.str p5,.osl 4 v40 0 l39.length,.tree 6 (y11.1.map ai.enc)],.box [.tree 4 (l38.map aa.enc),.int .i64 p7.end_,.int .i64 y11.2.2.1,.int .i64 y11.2.2.2],.arr 1 v40 72 (l39.map (eL 2 aw.enc)),.box [.int .i64 0,.int .i64 0,.int .i64 0,.str [],.nils,.nils],.dead,.mp Tryd.prog 3 ((((13,2):Int×Int) :: (((10,1):Int×Int) :: ([]:List (Int×Int)))).map mII)]) _ _ v4_ hl1 ?_ ?_
     ·exact ls
     ·rintro ⟨l38,l39,x41⟩ v40 r1 hm hr1;replace hm:dy p1 p7 y11 l38 l39 x41=some r1:=hm;refine bw ?_;unfold dy at hm;refine ax [] ?_;refine aR fun k1 hk1=>?_
      by_cases h11:x41<((lv (((13,2):Int×Int) :: (((10,1):Int×Int) :: ([]:List (Int×Int)))) p1).getD 0)
      ·rw [iP h11] at hm;refine aj rfl (dT h11) ?_;refine av ?_;refine aL (hk1 _ _ ?_);refine aR fun k2 hk2=>?_;refine aY ?_;refine au [28,29,30,31] fun k kp hk hp=>?_;refine go ?_;refine ay (aB 8 rfl) ?_;refine gt ?_;obtain ⟨y42,hc12,hm⟩:=bd hm
       refine am (aJ (lit ([([44]:List UInt8)]:List (List UInt8))) (ae.mk l38 p7.end_ y11.2.2.1 y11.2.2.2)  _ hc12) [3] (by first|trivial|exact aA rfl) (by first|trivial|(intro _;first|trivial|simp [an])|simp [an]) (by simp) (by simp) rfl rfl (by first|trivial|(simp [bX,eK,eB,eS,eL,ar,ah,PV.under,CV.under,af,OB.under,ag];done)) (by first|trivial|(simp [bX,eK,eB,eS,eL,ar,ah,PV.under,CV.under,af,OB.under,ag];done)) ?_ ?_
       rotate_left
       ·rintro p σ' hpp hpl
        rcases y42 with y43|y44
        ·exact False.elim hpp
        simp only [Sum.elim_inl,Sum.elim_inr] at hm hpp;subst hpp;have ho14:=a8 hm hr1;subst ho14;replace hm:some (.inr (y44.1,y44.2))=some r:=hm1;refine hp _ _ _ ?_;refine aP ?_;refine bN ?_;refine cm ?_;refine aP ?_;refine be ?_;obtain rfl:=sI hm;exact rfl
       rintro p σ' hq13 _
       rcases y42 with y45|y46
       ·skip;simp only [Sum.elim_inl,Sum.elim_inr] at hm hq13
        obtain ⟨rfl,rfl⟩:=hq13;refine ab ?_;refine go ?_;refine hk _ _ ?_;clear hk hp k kp;obtain ⟨y47,hc15,hm⟩:=bd hm
        rcases y47 with y48|y49
        ·skip;simp only [Sum.elim_inl,Sum.elim_inr] at hm
         refine lV (by kernel_rfl) [3] [0,1,0,4,12,31,63,127] [false,false,false,false,false,true,true,true] [false,false,false,true,false,false,false,false] [[2],[32],[],[],[],[],[],[]] (by kernel_rfl) fun k hk=>?_;refine gp ?_
         refine dm (σ2:=[.box [.optr 3 0],.box [.int .i64 p1],.box [.int .i64 p2,.int .i64 x6,.int .i64 p4,.str p5,.osl 4 v40 0 l39.length,.tree 6 (y11.1.map ai.enc)],.box [.tree 4 (y48.2.map aa.enc),.int .i64 p7.end_,.int .i64 y11.2.2.1,.int .i64 y11.2.2.2],.arr 1 v40 72 (l39.map (eL 2 aw.enc)),.box [.int .i64 0,.int .i64 0,.int .i64 0,.str [],.nils,.nils],.dead,.mp Tryd.prog 3 ((((13,2):Int×Int) :: (((10,1):Int×Int) :: ([]:List (Int×Int)))).map mII),.dead]) (res:=.c (.tree 2 (y48.1.map aw.enc))) ⟨_,_,_,_,[3],fe (ae.mk y45 p7.end_ y11.2.2.1 y11.2.2.2)  _ hc15,by simp,by simp,by first|rfl|(simp [PV.ren,CV.ren,CV.ren0,cz,lit];omega),rfl,by first|trivial|(simp [bX,eK,eB,eS,eL,ar,ah,PV.under,CV.under,af,OB.under,ag];done),by first|trivial|(simp [bX,eK,eB,eS,eL,ar,ah,PV.under,CV.under,af,OB.under,ag];done),fun q τ hq _=>by obtain ⟨rfl,rfl⟩:=hq;exact ⟨rfl,rfl⟩,fun _ _ h=>False.elim h⟩ (by first|trivial|exact aA rfl) (by first|trivial|(intro _;first|trivial|simp [an])|simp [an]) ⟨rfl,by simp only [hP];and_intros<;>first|exact .inl rfl|exact .inr rfl|trivial⟩ ?_
         obtain ⟨⟨hg16ax,hg16ay⟩,hm⟩:=gd hm;refine gp ?_;refine hk _ _ ?_;clear hk k;refine ap ?_;refine aL (hk2 _ _ ?_);refine cB ?_;refine aH (y48.2,(l39++(lit ([y48.1]:List (List aw)))),(IntKind.wrap .i64 (x41+1))) (v40+1) hm ?_;exact ls
        ·skip;simp only [Sum.elim_inl,Sum.elim_inr] at hm
         refine lH 3 [] [false,false,false,false,false,true,true,true] [] _ rfl ?_;simp only [List.take_succ_cons,List.take_zero];refine ga ?_
         refine ⟨_,_,_,_,[3],fe (ae.mk y45 p7.end_ y11.2.2.1 y11.2.2.2)  _ hc15,by simp,by simp,rfl,rfl,by first|trivial|(simp [bX,eK,eB,eS,eL,ar,ah,PV.under,CV.under,af,OB.under,ag];done),by first|trivial|(simp [bX,eK,eB,eS,eL,ar,ah,PV.under,CV.under,af,OB.under,ag];done),fun q τ h=>False.elim h,?_⟩
         rintro p σ' hpp hpl;simp only [Sum.elim_inl,Sum.elim_inr] at hpp;subst hpp;have ho17:=a8 hm hr1;subst ho17;replace hm:some (.inr (y49.1,y49.2))=some r:=hm1;refine aP ?_;refine bN ?_;refine cm ?_;refine aP ?_;refine be ?_;obtain rfl:=sI hm;exact rfl
       ·skip;exact False.elim hq13
      ·rw [iN h11] at hm;refine ak rfl (dF h11) ?_;refine e7 ?_;have ho18:=a8 hm hr1;subst ho18;replace hm:cj p2 p4 p5 p7 x6 y11 l38 l39=some r:=hm1;refine eC (cM (bx ?_));refine ao (l38,l39) v40 hm ?_;exact ls
    ·rintro ⟨l15,l16⟩ v17 hm;replace hm:cj p2 p4 p5 p7 x6 y11 l15 l16=some r:=hm;refine bw ?_;unfold cj at hm;refine au [40,41,42] fun k kp hk hp=>?_;refine go ?_;refine ay (aB 7 rfl) ?_;refine gt ?_;obtain ⟨y18,hc5,hm⟩:=bd hm
     refine am (aJ (lit ([([41]:List UInt8)]:List (List UInt8))) (ae.mk l15 p7.end_ y11.2.2.1 y11.2.2.2)  _ hc5) [3] (by first|trivial|exact aA rfl) (by first|trivial|(intro _;first|trivial|simp [an])|simp [an]) (by simp) (by simp) rfl rfl (by first|trivial|(simp [bX,eK,eB,eS,eL,ar,ah,PV.under,CV.under,af,OB.under,ag];done)) (by first|trivial|(simp [bX,eK,eB,eS,eL,ar,ah,PV.under,CV.under,af,OB.under,ag];done)) ?_ ?_
     rotate_left
     ·rintro p σ' hpp hpl
      rcases y18 with y19|y20
      ·exact False.elim hpp
      simp only [Sum.elim_inl,Sum.elim_inr] at hm hpp;subst hpp;refine hp _ _ _ ?_;obtain rfl:=sI hm;exact rfl
     rintro p σ' hq6 _
     rcases y18 with y21|y22
     ·skip;simp only [Sum.elim_inl,Sum.elim_inr] at hm hq6
      obtain ⟨rfl,rfl⟩:=hq6;refine ab ?_;refine go ?_;refine hk _ _ ?_;clear hk hp k kp;refine au [0,2,43,44,45] fun k kp hk hp=>?_;refine go ?_;obtain ⟨y23,hc7,hm⟩:=bd hm;refine RA (jU p2 x6 p4 p5 y11.1 (ae.mk y21 p7.end_ y11.2.2.1 y11.2.2.2) l16 v17 _ hc7) [3,4] ?_;rintro p σ' ⟨rfl,rfl⟩ _;refine ab ?_;refine go ?_;refine hk _ _ ?_;clear hk hp k kp;refine aM ?_
      cases hm
      exact kr 5
     ·skip;exact False.elim hq6
   ·skip;exact False.elim hq4
 ·skip;exact False.elim hq2
theorem jb(rc_syntax_parser_rank:Int→ae→Option ((ai×(List aa)×Int×Int) ⊕ (Int×Int)))(hr_syntax_parser_rank:∀ (p1:Int) (p2:ae) (r:(ai×(List aa)×Int×Int) ⊕ (Int×Int)),rc_syntax_parser_rank p1 p2=some r→ck Tryd.prog 44 [.c (.optr 0 0),.c (.int .i64 p1)] [.box [.tree 4 (p2.l.map aa.enc),.int .i64 p2.end_,.int .i64 p2.open_,.int .i64 p2.terms]] (fun p σ=>(Sum.elim (fun z=>(p=.a [.int .i64 ((z.1).op),.int .i64 ((z.1).k),.int .i64 ((z.1).n),.str ((z.1).name),.tree 1 (((z.1).s).map (eL 2 aw.enc)),.tree 6 (((z.1).l).map ai.enc)]∧σ=[.box [.tree 4 (z.2.1.map aa.enc),.int .i64 p2.end_,.int .i64 z.2.2.1,.int .i64 z.2.2.2]])) (fun z=>False)) r) (fun p _=>(Sum.elim (fun z=>False) (fun z=>p=.c (.ifc 48 true (nsC [(.i64,z.1),(.i64,z.2)])))) r))(p1:ae)(p2 p3 p4 p5:Int)(p6:List UInt8)(p7:List ai)(p8:List (List aw))(v4_:Nat)(r:(Int×Int×Int×(List UInt8)×(List ai)×(List aa)×Int×Int×Int×(List ai)×(List (List aw))) ⊕ (Int×Int))(hm:dz rc_syntax_parser_rank p1 p2 p3 p4 p5 p6 p7 p8=some r):ck Tryd.prog 57 [.c (.optr 0 0),.c (.fn 71 [.optr 1 0,.optr 2 0,.optr 3 0])] [.box [.tree 4 (p1.l.map aa.enc),.int .i64 p1.end_,.int .i64 p1.open_,.int .i64 p1.terms],.box [.optr 0 0],.box [.int .i64 p2],.box [.int .i64 p3,.int .i64 p4,.int .i64 p5,.str p6,.osl 4 v4_ 0 p8.length,.tree 6 (p7.map ai.enc)],.arr 1 v4_ 72 (p8.map (eL 2 aw.enc))] (fun p σ=>(Sum.elim (fun z=>∃ w4_,(p=.a [.int .i64 z.1,.int .i64 z.2.1,.int .i64 z.2.2.1,.str z.2.2.2.1,.osl 4 w4_ 0 z.2.2.2.2.2.2.2.2.2.2.length,.tree 6 (z.2.2.2.2.1.map ai.enc)]∧σ=[.box [.tree 4 (z.2.2.2.2.2.1.map aa.enc),.int .i64 p1.end_,.int .i64 z.2.2.2.2.2.2.1,.int .i64 z.2.2.2.2.2.2.2.1],.box [.optr 0 0],.box [.int .i64 p2],.box [.int .i64 p3,.int .i64 z.2.2.2.2.2.2.2.2.1,.int .i64 p5,.str p6,.osl 4 w4_ 0 z.2.2.2.2.2.2.2.2.2.2.length,.tree 6 (z.2.2.2.2.2.2.2.2.2.1.map ai.enc)],.arr 1 w4_ 72 (z.2.2.2.2.2.2.2.2.2.2.map (eL 2 aw.enc))])) (fun z=>False)) r) (fun p _=>(Sum.elim (fun z=>False) (fun z=>p=.c (.ifc 48 true (nsC [(.i64,z.1),(.i64,z.2)])))) r):=by
 refine aN 32 [.cell 4 47] Tryd.func57 rfl rfl rfl (by kernel_rfl) (by simp) ?_;refine bJ ?_;unfold dz at hm;refine ax [] ?_;refine aR fun k1 hk1=>?_;refine ax [6,7,8,9] ?_
 by_cases h1:p1.open_=60
 ·rw [iP h1] at hm;refine aj rfl (eQ h1) ?_;refine bf fun k kp hk hp=>?_;refine go ?_;obtain ⟨y1,hc2,hm⟩:=bd hm
  refine am (aI 6 p1  _ hc2) [0] (by first|trivial|exact aA rfl) (by first|trivial|(intro _;first|trivial|simp [an])|simp [an]) (by simp) (by simp) rfl rfl (by first|trivial|(simp [bX,eK,eB,eS,eL,ar,ah,PV.under,CV.under,af,OB.under,ag];done)) (by first|trivial|(simp [bX,eK,eB,eS,eL,ar,ah,PV.under,CV.under,af,OB.under,ag];done)) ?_ ?_
  rotate_left
  ·rintro p σ' hpp hpl;skip;subst hpp;refine hp _ _ _ ?_;refine bN ?_;obtain rfl:=sI hm;exact rfl
  rintro p σ' hq3 _;exact False.elim hq3
 ·rw [iN h1] at hm;refine ak rfl (nB h1) ?_;refine av ?_;refine aL (hk1 _ _ ?_);refine ax [10,13,14,15,16,17,18,19] ?_;refine au [20,21] fun k kp hk hp=>?_;refine go ?_;obtain ⟨y2,hc4,hm⟩:=bd hm;refine RA (aO (ae.mk p1.l p1.end_ (IntKind.wrap .i64 (p1.open_+1)) p1.terms)  _ hc4) [0] ?_;rintro p σ' ⟨rfl,rfl⟩ _;refine ab ?_;refine go ?_;refine hk _ _ ?_;clear hk hp k kp;refine au [1,22,23] fun k kp hk hp=>?_;refine go ?_;obtain ⟨y3,hc6,hm⟩:=bd hm
  refine am (jV rc_syntax_parser_rank hr_syntax_parser_rank p2 p3 p4 p5 p6 p7 (ae.mk y2.2 p1.end_ (IntKind.wrap .i64 (p1.open_+1)) p1.terms) p8 v4_ _ hc6) [1,2,3,0,4] (by first|trivial|exact aA rfl) (by first|trivial|(intro _;first|trivial|simp [an])|simp [an]) (by simp) (by simp) rfl rfl (by first|trivial|(simp [bX,eK,eB,eS,eL,ar,ah,PV.under,CV.under,af,OB.under,ag];done)) (by first|trivial|(simp [bX,eK,eB,eS,eL,ar,ah,PV.under,CV.under,af,OB.under,ag];done)) ?_ ?_
  rotate_left
  ·rintro p σ' hpp hpl
   rcases y3 with y4|y5
   ·exact False.elim hpp
   simp only [Sum.elim_inl,Sum.elim_inr] at hm hpp;subst hpp;refine hp _ _ _ ?_;obtain rfl:=sI hm;exact rfl
  rintro p σ' hq7 _
  rcases y3 with y6|y7
  ·skip;simp only [Sum.elim_inl,Sum.elim_inr] at hm hq7
   obtain ⟨v8,rfl,rfl⟩:=hq7;refine ab ?_;refine go ?_;refine hk _ _ ?_;clear hk hp k kp;refine ax [0,24,25,26,27,28,29,30] ?_;refine ax [5,31] ?_;refine aM ?_
   cases hm
   exact kr 5
  ·skip;exact False.elim hq7
theorem kJ(rc_syntax_parser_rank:Int→ae→Option ((ai×(List aa)×Int×Int) ⊕ (Int×Int)))(hr_syntax_parser_rank:∀ (p1:Int) (p2:ae) (r:(ai×(List aa)×Int×Int) ⊕ (Int×Int)),rc_syntax_parser_rank p1 p2=some r→ck Tryd.prog 44 [.c (.optr 0 0),.c (.int .i64 p1)] [.box [.tree 4 (p2.l.map aa.enc),.int .i64 p2.end_,.int .i64 p2.open_,.int .i64 p2.terms]] (fun p σ=>(Sum.elim (fun z=>(p=.a [.int .i64 ((z.1).op),.int .i64 ((z.1).k),.int .i64 ((z.1).n),.str ((z.1).name),.tree 1 (((z.1).s).map (eL 2 aw.enc)),.tree 6 (((z.1).l).map ai.enc)]∧σ=[.box [.tree 4 (z.2.1.map aa.enc),.int .i64 p2.end_,.int .i64 z.2.2.1,.int .i64 z.2.2.2]])) (fun z=>False)) r) (fun p _=>(Sum.elim (fun z=>False) (fun z=>p=.c (.ifc 48 true (nsC [(.i64,z.1),(.i64,z.2)])))) r))(p1:ae)(r:(ai×(List aa)×Int×Int) ⊕ (Int×Int))(hm:fd rc_syntax_parser_rank p1=some r):ck Tryd.prog 68 [.c (.optr 0 0)] [.box [.tree 4 (p1.l.map aa.enc),.int .i64 p1.end_,.int .i64 p1.open_,.int .i64 p1.terms]] (fun p σ=>(Sum.elim (fun z=>(p=.a [.int .i64 ((z.1).op),.int .i64 ((z.1).k),.int .i64 ((z.1).n),.str ((z.1).name),.tree 1 (((z.1).s).map (eL 2 aw.enc)),.tree 6 (((z.1).l).map ai.enc)]∧σ=[.box [.tree 4 (z.2.1.map aa.enc),.int .i64 p1.end_,.int .i64 z.2.2.1,.int .i64 z.2.2.2]])) (fun z=>False)) r) (fun p _=>(Sum.elim (fun z=>False) (fun z=>p=.c (.ifc 48 true (nsC [(.i64,z.1),(.i64,z.2)])))) r):=by
  refine aN 31 [.cell 2 47] Tryd.func68 rfl rfl rfl (by kernel_rfl) (by simp) ?_;refine gg (by simp only [fJ,Env.ofList,List.length_nil,List.length_cons,bE,Nat.reduceDiv,Nat.reduceMod,Nat.reduceLT,Nat.reduceLeDiff,Nat.reduceAdd,Nat.reduceSub,Nat.reduceMul,Nat.reduceEqDiff,Nat.reduceBEq,Nat.reduceBNe,Nat.reduceGT,Int.reduceToNat];rfl) rfl ?_;unfold fd at hm;refine au [0] fun k kp hk hp=>?_;simp only [bR,bT,tab,bX,reduceIte,↓reduceIte,reduceCtorEq,Int.reduceToNat,Nat.reduceDiv,Nat.reduceMod,Nat.reduceLT,Nat.reduceLeDiff,Nat.reduceAdd,Nat.reduceSub,Nat.reduceMul,Nat.reduceEqDiff,Nat.reduceBEq,Nat.reduceBNe,Nat.reduceGT]
  repeat refine ⟨by first|omega|assumption|decide|exact aU fun _=>rfl|(intro _;omega)|rfl|exact fun e=>absurd (List.map_eq_nil_iff.1 e) (by assumption)|(and_intros<;>first|omega|assumption|decide|exact aU fun _=>rfl),?_⟩
  refine hk _ _ ?_;clear hk hp k kp;refine au [6,7,8,9] fun k kp hk hp=>?_;simp only [bR,bT,tab,bX,reduceIte,↓reduceIte,reduceCtorEq,Int.reduceToNat,Nat.reduceDiv,Nat.reduceMod,Nat.reduceLT,Nat.reduceLeDiff,Nat.reduceAdd,Nat.reduceSub,Nat.reduceMul,Nat.reduceEqDiff,Nat.reduceBEq,Nat.reduceBNe,Nat.reduceGT,List.replicate,List.foldr]
  repeat refine ⟨by first|omega|assumption|decide|exact aU fun _=>rfl|(intro _;omega)|rfl|exact fun e=>absurd (List.map_eq_nil_iff.1 e) (by assumption)|(and_intros<;>first|omega|assumption|decide|exact aU fun _=>rfl),?_⟩
  obtain ⟨y1,hc1,hm⟩:=bd hm
  refine am (hZ p1  _ hc1) [0] (by first|trivial|exact aA rfl) (by first|trivial|(intro _;first|trivial|simp [an])|simp [an]) (by simp) (by simp) rfl rfl (by first|trivial|(simp [bX,eK,eB,eS,eL,ar,ah,PV.under,CV.under,af,OB.under,ag];done)) (by first|trivial|(simp [bX,eK,eB,eS,eL,ar,ah,PV.under,CV.under,af,OB.under,ag];done)) ?_ (fun _ _ h _=>h.elim)
  rintro p σ' ⟨rfl,rfl⟩ _;refine ab ?_;simp only [bR,bT,tab,bX,reduceIte,↓reduceIte,reduceCtorEq,Int.reduceToNat,Nat.reduceDiv,Nat.reduceMod,Nat.reduceLT,Nat.reduceLeDiff,Nat.reduceAdd,Nat.reduceSub,Nat.reduceMul,Nat.reduceEqDiff,Nat.reduceBEq,Nat.reduceBNe,Nat.reduceGT]
  repeat refine ⟨by first|omega|assumption|decide|exact aU fun _=>rfl|(intro _;omega)|rfl|exact fun e=>absurd (List.map_eq_nil_iff.1 e) (by assumption)|(and_intros<;>first|omega|assumption|decide|exact aU fun _=>rfl),?_⟩
  obtain ⟨y2,hc3,hm⟩:=bd hm
  refine am (fF y1 (lit ([([109,97,112]:List UInt8),([102,111,108,100]:List UInt8),([115,99,97,110]:List UInt8),([102,105,108,108]:List UInt8),([119,105,116,104]:List UInt8),([115,108,105,99,101]:List UInt8),([99,97,116]:List UInt8),([112,114,101]:List UInt8),([109,105,110]:List UInt8),([109,97,120]:List UInt8)]:List (List UInt8))) 0 _ hc3) [3] (by first|trivial|exact aA rfl) (by first|trivial|(intro _;first|trivial|simp [an])|simp [an]) (by simp) (by simp) rfl rfl (by first|trivial|(simp [bX,eK,eB,eS,eL,ar,ah,PV.under,CV.under,af,OB.under,ag];done)) (by first|trivial|(simp [bX,eK,eB,eS,eL,ar,ah,PV.under,CV.under,af,OB.under,ag];done)) ?_ (fun _ _ h _=>h.elim)
  rintro p σ' ⟨rfl,rfl⟩ _;refine ab ?_;simp only [bR,bT,tab,bX,reduceIte,↓reduceIte,reduceCtorEq,Int.reduceToNat,Nat.reduceDiv,Nat.reduceMod,Nat.reduceLT,Nat.reduceLeDiff,Nat.reduceAdd,Nat.reduceSub,Nat.reduceMul,Nat.reduceEqDiff,Nat.reduceBEq,Nat.reduceBNe,Nat.reduceGT]
  repeat refine ⟨by first|omega|assumption|decide|exact aU fun _=>rfl|(intro _;omega)|rfl|exact fun e=>absurd (List.map_eq_nil_iff.1 e) (by assumption)|(and_intros<;>first|omega|assumption|decide|exact aU fun _=>rfl),?_⟩
  refine hk _ _ ?_;clear hk hp k kp
  refine gg rfl (show _=[.box [.tree 4 (p1.l.map aa.enc),.int .i64 p1.end_,.int .i64 p1.open_,.int .i64 p1.terms],.box [.optr 0 0],.box [.int .i64 0,.int .i64 0,.int .i64 0,.str [],.nils,.nils],.arr 1 0 9 ((lit ([([109,97,112]:List UInt8),([102,111,108,100]:List UInt8),([115,99,97,110]:List UInt8),([102,105,108,108]:List UInt8),([119,105,116,104]:List UInt8),([115,108,105,99,101]:List UInt8),([99,97,116]:List UInt8),([112,114,101]:List UInt8),([109,105,110]:List UInt8),([109,97,120]:List UInt8)]:List (List UInt8))).map eS)] from by first|rfl|(simp only [List.take_of_length_le,List.length_map,List.length_append,List.length_cons,List.length_nil,List.length_replicate,List.length_set,List.map_append,List.map_cons,List.map_nil,List.map_replicate,List.map_set,Nat.le_refl,Nat.zero_add,List.nil_append,List.set_cons_zero,List.set_cons_succ,bX,eK,eB,eS,eL];done)|(simp only [List.take_of_length_le,List.length_map,List.length_append,List.length_cons,List.length_nil,List.length_replicate,List.length_set,List.map_append,List.map_cons,List.map_nil,List.map_replicate,List.map_set,Nat.le_refl,Nat.zero_add,List.nil_append,List.set_cons_zero,List.set_cons_succ,bX,eK,eB,eS,eL];rfl)|(simp;done)|(simp only [lit,List.map_append,List.map_cons,List.map_nil,List.map_set,List.map_replicate,List.nil_append,bX,eK,eB,eS,eL];done)) ?_
  refine aR fun k1 hk1=>?_;refine au [10] fun k kp hk hp=>?_;simp only [bR,bT,tab,bX,reduceIte,↓reduceIte,reduceCtorEq,Int.reduceToNat,Nat.reduceDiv,Nat.reduceMod,Nat.reduceLT,Nat.reduceLeDiff,Nat.reduceAdd,Nat.reduceSub,Nat.reduceMul,Nat.reduceEqDiff,Nat.reduceBEq,Nat.reduceBNe,Nat.reduceGT]
  repeat refine ⟨by first|omega|assumption|decide|exact aU fun _=>rfl|(intro _;omega)|rfl|exact fun e=>absurd (List.map_eq_nil_iff.1 e) (by assumption)|(and_intros<;>first|omega|assumption|decide|exact aU fun _=>rfl),?_⟩
  refine hk _ _ ?_;clear hk hp k kp
  by_cases h5:y2<0
  · rw [iP h5] at hm
    refine aj rfl (dT h5) ?_;refine bf fun k kp hk hp=>?_;simp only [bR,bT,tab,bX,reduceIte,↓reduceIte,reduceCtorEq,Int.reduceToNat,Nat.reduceDiv,Nat.reduceMod,Nat.reduceLT,Nat.reduceLeDiff,Nat.reduceAdd,Nat.reduceSub,Nat.reduceMul,Nat.reduceEqDiff,Nat.reduceBEq,Nat.reduceBNe,Nat.reduceGT]
    repeat refine ⟨by first|omega|assumption|decide|exact aU fun _=>rfl|(intro _;omega)|rfl|exact fun e=>absurd (List.map_eq_nil_iff.1 e) (by assumption)|(and_intros<;>first|omega|assumption|decide|exact aU fun _=>rfl),?_⟩
    obtain ⟨y3,hc6,hm⟩:=bd hm
    refine am (aI 4 p1  _ hc6) [0] (by first|trivial|exact aA rfl) (by first|trivial|(intro _;first|trivial|simp [an])|simp [an]) (by simp) (by simp) rfl rfl (by first|trivial|(simp [bX,eK,eB,eS,eL,ar,ah,PV.under,CV.under,af,OB.under,ag];done)) (by first|trivial|(simp [bX,eK,eB,eS,eL,ar,ah,PV.under,CV.under,af,OB.under,ag];done)) ?_ ?_
    rotate_left
    · rintro p σ' hpp hpl
      skip;subst hpp
      refine hp _ _ _ ?_;refine bN ?_;obtain rfl:=sI hm;exact rfl
    rintro p σ' hq7 _;exact False.elim hq7
  · rw [iN h5] at hm
    refine ak rfl (dF h5) ?_;refine av ?_;refine aL (hk1 _ _ ?_);obtain ⟨hg8a,hm⟩:=gd hm;refine au [11,14,15,16,17] fun k kp hk hp=>?_;simp only [bR,bT,tab,bX,reduceIte,↓reduceIte,reduceCtorEq,Int.reduceToNat,Nat.reduceDiv,Nat.reduceMod,Nat.reduceLT,Nat.reduceLeDiff,Nat.reduceAdd,Nat.reduceSub,Nat.reduceMul,Nat.reduceEqDiff,Nat.reduceBEq,Nat.reduceBNe,Nat.reduceGT,List.replicate,List.foldr,emL (eK .i64) (lit ([7,8,9,10,12,13,14,15,5,5]:List Int)) y2.toNat [[.int .i64 7],[.int .i64 8],[.int .i64 9],[.int .i64 10],[.int .i64 12],[.int .i64 13],[.int .i64 14],[.int .i64 15],[.int .i64 5],[.int .i64 5]] rfl]
    repeat refine ⟨by first|omega|assumption|decide|exact aU fun _=>rfl|(intro _;omega)|rfl|exact fun e=>absurd (List.map_eq_nil_iff.1 e) (by assumption)|(and_intros<;>first|omega|assumption|decide|exact aU fun _=>rfl),?_⟩
    refine hk _ _ ?_;clear hk hp k kp
    refine gg rfl (show _=[.box [.tree 4 (p1.l.map aa.enc),.int .i64 p1.end_,.int .i64 p1.open_,.int .i64 p1.terms],.box [.optr 0 0],.box [.int .i64 0,.int .i64 0,.int .i64 0,.str [],.nils,.nils],.arr 1 0 9 ((lit ([([109,97,112]:List UInt8),([102,111,108,100]:List UInt8),([115,99,97,110]:List UInt8),([102,105,108,108]:List UInt8),([119,105,116,104]:List UInt8),([115,108,105,99,101]:List UInt8),([99,97,116]:List UInt8),([112,114,101]:List UInt8),([109,105,110]:List UInt8),([109,97,120]:List UInt8)]:List (List UInt8))).map eS),.arr 1 0 3 ((lit ([7,8,9,10,12,13,14,15,5,5]:List Int)).map (eK .i64)),.box [.int .i64 ((lit ([7,8,9,10,12,13,14,15,5,5]:List Int)).getD y2.toNat default)]] from by first|rfl|(simp only [List.take_of_length_le,List.length_map,List.length_append,List.length_cons,List.length_nil,List.length_replicate,List.length_set,List.map_append,List.map_cons,List.map_nil,List.map_replicate,List.map_set,Nat.le_refl,Nat.zero_add,List.nil_append,List.set_cons_zero,List.set_cons_succ,bX,eK,eB,eS,eL];done)|(simp only [List.take_of_length_le,List.length_map,List.length_append,List.length_cons,List.length_nil,List.length_replicate,List.length_set,List.map_append,List.map_cons,List.map_nil,List.map_replicate,List.map_set,Nat.le_refl,Nat.zero_add,List.nil_append,List.set_cons_zero,List.set_cons_succ,bX,eK,eB,eS,eL];rfl)|(simp;done)|(simp only [lit,List.map_append,List.map_cons,List.map_nil,List.map_set,List.map_replicate,List.nil_append,bX,eK,eB,eS,eL];done)) ?_
    refine au [18,19] fun k kp hk hp=>?_;simp only [bR,bT,tab,bX,reduceIte,↓reduceIte,reduceCtorEq,Int.reduceToNat,Nat.reduceDiv,Nat.reduceMod,Nat.reduceLT,Nat.reduceLeDiff,Nat.reduceAdd,Nat.reduceSub,Nat.reduceMul,Nat.reduceEqDiff,Nat.reduceBEq,Nat.reduceBNe,Nat.reduceGT,List.replicate,List.foldr]
    repeat refine ⟨by first|omega|assumption|decide|exact aU fun _=>rfl|(intro _;omega)|rfl|exact fun e=>absurd (List.map_eq_nil_iff.1 e) (by assumption)|(and_intros<;>first|omega|assumption|decide|exact aU fun _=>rfl),?_⟩
    refine hk _ _ ?_;clear hk hp k kp;refine bk (S:=Int) (V:=Unit) [3,20,21,22,23,24,25,26,27] (fun x4 _=>[]) (fun x4 _=>[.box [.tree 4 (p1.l.map aa.enc),.int .i64 p1.end_,.int .i64 p1.open_,.int .i64 p1.terms],.box [.optr 0 0],.box [.int .i64 0,.int .i64 0,.int .i64 0,.str [],.nils,.nils],.arr 1 0 9 ((lit ([([109,97,112]:List UInt8),([102,111,108,100]:List UInt8),([115,99,97,110]:List UInt8),([102,105,108,108]:List UInt8),([119,105,116,104]:List UInt8),([115,108,105,99,101]:List UInt8),([99,97,116]:List UInt8),([112,114,101]:List UInt8),([109,105,110]:List UInt8),([109,97,120]:List UInt8)]:List (List UInt8))).map eS),.arr 1 0 3 ((lit ([7,8,9,10,12,13,14,15,5,5]:List Int)).map (eK .i64)),.box [.int .i64 ((lit ([7,8,9,10,12,13,14,15,5,5]:List Int)).getD y2.toNat default)],.box [.int .i64 ((lit ([7,8,9,10,12,13,14,15,5,5]:List Int)).getD y2.toNat default),.int .i64 x4,.int .i64 0,.str [],.nils,.nils]]) (fun x4=>bY rc_syntax_parser_rank p1 y2 x4=some r) ?_ ?_
    · skip
      refine aY ?_;refine au [21,22] fun k kp hk hp=>?_;simp only [bR,bT,tab,bX,reduceIte,↓reduceIte,reduceCtorEq,Int.reduceToNat,Nat.reduceDiv,Nat.reduceMod,Nat.reduceLT,Nat.reduceLeDiff,Nat.reduceAdd,Nat.reduceSub,Nat.reduceMul,Nat.reduceEqDiff,Nat.reduceBEq,Nat.reduceBNe,Nat.reduceGT]
      repeat refine ⟨by first|omega|assumption|decide|exact aU fun _=>rfl|(intro _;omega)|rfl|exact fun e=>absurd (List.map_eq_nil_iff.1 e) (by assumption)|(and_intros<;>first|omega|assumption|decide|exact aU fun _=>rfl),?_⟩
      refine hk _ _ ?_;clear hk hp k kp
      by_cases h11:y2=8
      · rw [iP h11] at hm
        refine aj rfl (eQ h11) ?_;refine bf fun k kp hk hp=>?_;simp only [bR,bT,tab,bX,reduceIte,↓reduceIte,reduceCtorEq,Int.reduceToNat,Nat.reduceDiv,Nat.reduceMod,Nat.reduceLT,Nat.reduceLeDiff,Nat.reduceAdd,Nat.reduceSub,Nat.reduceMul,Nat.reduceEqDiff,Nat.reduceBEq,Nat.reduceBNe,Nat.reduceGT]
        repeat refine ⟨by first|omega|assumption|decide|exact aU fun _=>rfl|(intro _;omega)|rfl|exact fun e=>absurd (List.map_eq_nil_iff.1 e) (by assumption)|(and_intros<;>first|omega|assumption|decide|exact aU fun _=>rfl),?_⟩
        refine hk _ _ ?_;clear hk hp k kp;refine ap ?_;refine ao 6 () hm ?_
        simp only [bS,bX,reduceIte,↓reduceIte,reduceCtorEq,Int.reduceToNat,Nat.reduceDiv,Nat.reduceMod,Nat.reduceLT,Nat.reduceLeDiff,Nat.reduceAdd,Nat.reduceSub,Nat.reduceMul,Nat.reduceEqDiff,Nat.reduceBEq,Nat.reduceBNe,Nat.reduceGT]<;>first|done|(and_intros<;>first|rfl|(simp;done)|omega|(simp [lit,bX,eK,eB,eS,eL];done)|(simp only [fG,List.length_cons,List.length_nil,List.length_append,List.length_set,List.length_replicate,List.length_map,List.length_take,List.length_drop];omega))
      · rw [iN h11] at hm
        refine ak rfl (nB h11) ?_;refine au [3,20,25,26] fun k kp hk hp=>?_;simp only [bR,bT,tab,bX,reduceIte,↓reduceIte,reduceCtorEq,Int.reduceToNat,Nat.reduceDiv,Nat.reduceMod,Nat.reduceLT,Nat.reduceLeDiff,Nat.reduceAdd,Nat.reduceSub,Nat.reduceMul,Nat.reduceEqDiff,Nat.reduceBEq,Nat.reduceBNe,Nat.reduceGT]
        repeat refine ⟨by first|omega|assumption|decide|exact aU fun _=>rfl|(intro _;omega)|rfl|exact fun e=>absurd (List.map_eq_nil_iff.1 e) (by assumption)|(and_intros<;>first|omega|assumption|decide|exact aU fun _=>rfl),?_⟩
        refine hk _ _ ?_;clear hk hp k kp
        by_cases h12:y2=9
        · rw [iP h12] at hm
          refine aj rfl (eQ h12) ?_;refine bf fun k kp hk hp=>?_;simp only [bR,bT,tab,bX,reduceIte,↓reduceIte,reduceCtorEq,Int.reduceToNat,Nat.reduceDiv,Nat.reduceMod,Nat.reduceLT,Nat.reduceLeDiff,Nat.reduceAdd,Nat.reduceSub,Nat.reduceMul,Nat.reduceEqDiff,Nat.reduceBEq,Nat.reduceBNe,Nat.reduceGT]
          repeat refine ⟨by first|omega|assumption|decide|exact aU fun _=>rfl|(intro _;omega)|rfl|exact fun e=>absurd (List.map_eq_nil_iff.1 e) (by assumption)|(and_intros<;>first|omega|assumption|decide|exact aU fun _=>rfl),?_⟩
          refine hk _ _ ?_;clear hk hp k kp;refine ap ?_;refine ao 7 () hm ?_
          simp only [bS,bX,reduceIte,↓reduceIte,reduceCtorEq,Int.reduceToNat,Nat.reduceDiv,Nat.reduceMod,Nat.reduceLT,Nat.reduceLeDiff,Nat.reduceAdd,Nat.reduceSub,Nat.reduceMul,Nat.reduceEqDiff,Nat.reduceBEq,Nat.reduceBNe,Nat.reduceGT]<;>first|done|(and_intros<;>first|rfl|(simp;done)|omega|(simp [lit,bX,eK,eB,eS,eL];done)|(simp only [fG,List.length_cons,List.length_nil,List.length_append,List.length_set,List.length_replicate,List.length_map,List.length_take,List.length_drop];omega))
        · rw [iN h12] at hm
          refine ak rfl (nB h12) ?_;refine av ?_;refine ap ?_;refine ao 0 () hm ?_
          simp only [bS,bX,reduceIte,↓reduceIte,reduceCtorEq,Int.reduceToNat,Nat.reduceDiv,Nat.reduceMod,Nat.reduceLT,Nat.reduceLeDiff,Nat.reduceAdd,Nat.reduceSub,Nat.reduceMul,Nat.reduceEqDiff,Nat.reduceBEq,Nat.reduceBNe,Nat.reduceGT]<;>first|done|(and_intros<;>first|rfl|(simp;done)|omega|(simp [lit,bX,eK,eB,eS,eL];done)|(simp only [fG,List.length_cons,List.length_nil,List.length_append,List.length_set,List.length_replicate,List.length_map,List.length_take,List.length_drop];omega))
    · rintro x4 _ hm
      replace hm:bY rc_syntax_parser_rank p1 y2 x4=some r:=hm
      refine gg (by simp only [bE,Nat.reduceDiv,Nat.reduceMod,Nat.reduceLT,Nat.reduceLeDiff,Nat.reduceAdd,Nat.reduceSub,Nat.reduceMul,Nat.reduceEqDiff,Nat.reduceBEq,Nat.reduceBNe,Nat.reduceGT,Int.reduceToNat];rfl) (by first|(dsimp only;rfl)|rfl) ?_
      unfold bY at hm;refine au [1,4,5,28,29,30] fun k kp hk hp=>?_;simp only [bR,bT,tab,bX,reduceIte,↓reduceIte,reduceCtorEq,Int.reduceToNat,Nat.reduceDiv,Nat.reduceMod,Nat.reduceLT,Nat.reduceLeDiff,Nat.reduceAdd,Nat.reduceSub,Nat.reduceMul,Nat.reduceEqDiff,Nat.reduceBEq,Nat.reduceBNe,Nat.reduceGT]
      repeat refine ⟨by first|omega|assumption|decide|exact aU fun _=>rfl|(intro _;omega)|rfl|exact fun e=>absurd (List.map_eq_nil_iff.1 e) (by assumption)|(and_intros<;>first|omega|assumption|decide|exact aU fun _=>rfl),?_⟩
      refine ay (i6 6 4 1 72 (by decide) rfl rfl) ?_;refine gt ?_
      refine ay (fa 6 [.int .i64 ((lit ([7,8,9,10,12,13,14,15,5,5]:List Int)).getD y2.toNat default),.int .i64 x4,.int .i64 0,.str [],.osl 7 0 0 0,.tree 6 ([].map ai.enc)] rfl (by and_intros<;>trivial)) ?_
      simp only [bR,bT,tab,bX,reduceIte,↓reduceIte,reduceCtorEq,Int.reduceToNat,Nat.reduceDiv,Nat.reduceMod,Nat.reduceLT,Nat.reduceLeDiff,Nat.reduceAdd,Nat.reduceSub,Nat.reduceMul,Nat.reduceEqDiff,Nat.reduceBEq,Nat.reduceBNe,Nat.reduceGT]
      repeat refine ⟨by first|omega|assumption|decide|exact aU fun _=>rfl|(intro _;omega)|rfl|exact fun e=>absurd (List.map_eq_nil_iff.1 e) (by assumption)|(and_intros<;>first|omega|assumption|decide|exact aU fun _=>rfl),?_⟩
      obtain ⟨y5,hc9,hm⟩:=bd hm
      refine am (jb rc_syntax_parser_rank hr_syntax_parser_rank p1 ((lit ([7,8,9,10,12,13,14,15,5,5]:List Int)).getD y2.toNat default) ((lit ([7,8,9,10,12,13,14,15,5,5]:List Int)).getD y2.toNat default) x4 0 [] [] [] 0 _ hc9) [0,1,5,6,7] (by first|trivial|exact aA rfl) (by first|trivial|(intro _;first|trivial|simp [an])|simp [an]) (by simp) (by simp) rfl rfl (by first|trivial|(simp [bX,eK,eB,eS,eL,ar,ah,PV.under,CV.under,af,OB.under,ag];done)) (by first|trivial|(simp [bX,eK,eB,eS,eL,ar,ah,PV.under,CV.under,af,OB.under,ag];done)) ?_ ?_
      rotate_left
      · rintro p σ' hpp hpl
        rcases y5 with y6|y7
        · exact False.elim hpp
        simp only [Sum.elim_inl,Sum.elim_inr] at hm hpp;subst hpp;refine hp _ _ _ ?_;obtain rfl:=sI hm;exact rfl
      rintro p σ' hq10 _
      rcases y5 with y8|y9
      · skip
        simp only [Sum.elim_inl,Sum.elim_inr] at hm hq10;obtain ⟨v10,rfl,rfl⟩:=hq10;refine ab ?_;simp only [bR,bT,tab,bX,reduceIte,↓reduceIte,reduceCtorEq,Int.reduceToNat,Nat.reduceDiv,Nat.reduceMod,Nat.reduceLT,Nat.reduceLeDiff,Nat.reduceAdd,Nat.reduceSub,Nat.reduceMul,Nat.reduceEqDiff,Nat.reduceBEq,Nat.reduceBNe,Nat.reduceGT]
        repeat refine ⟨by first|omega|assumption|decide|exact aU fun _=>rfl|(intro _;omega)|rfl|exact fun e=>absurd (List.map_eq_nil_iff.1 e) (by assumption)|(and_intros<;>first|omega|assumption|decide|exact aU fun _=>rfl),?_⟩
        refine hk _ _ ?_;clear hk hp k kp;refine eI (aB 7 rfl) ?_;simp only [bZ,bL,reduceIte,↓reduceIte,reduceCtorEq,Int.reduceToNat,Nat.reduceDiv,Nat.reduceMod,Nat.reduceLT,Nat.reduceLeDiff,Nat.reduceAdd,Nat.reduceSub,Nat.reduceMul,Nat.reduceEqDiff,Nat.reduceBEq,Nat.reduceBNe,Nat.reduceGT];refine aM ?_
        cases hm
        exact kr 1
      · skip
        exact False.elim hq10
theorem kK(rc_syntax_parser_rank:Int→ae→Option ((ai×(List aa)×Int×Int) ⊕ (Int×Int)))(hr_syntax_parser_rank:∀ (p1:Int) (p2:ae) (r:(ai×(List aa)×Int×Int) ⊕ (Int×Int)),rc_syntax_parser_rank p1 p2=some r→ck Tryd.prog 44 [.c (.optr 0 0),.c (.int .i64 p1)] [.box [.tree 4 (p2.l.map aa.enc),.int .i64 p2.end_,.int .i64 p2.open_,.int .i64 p2.terms]] (fun p σ=>(Sum.elim (fun z=>(p=.a [.int .i64 ((z.1).op),.int .i64 ((z.1).k),.int .i64 ((z.1).n),.str ((z.1).name),.tree 1 (((z.1).s).map (eL 2 aw.enc)),.tree 6 (((z.1).l).map ai.enc)]∧σ=[.box [.tree 4 (z.2.1.map aa.enc),.int .i64 p2.end_,.int .i64 z.2.2.1,.int .i64 z.2.2.2]])) (fun z=>False)) r) (fun p _=>(Sum.elim (fun z=>False) (fun z=>p=.c (.ifc 48 true (nsC [(.i64,z.1),(.i64,z.2)])))) r))(p1:ae)(r:(ai×(List aa)×Int×Int) ⊕ (Int×Int))(hm:ew rc_syntax_parser_rank p1=some r):ck Tryd.prog 59 [.c (.optr 0 0)] [.box [.tree 4 (p1.l.map aa.enc),.int .i64 p1.end_,.int .i64 p1.open_,.int .i64 p1.terms]] (fun p σ=>(Sum.elim (fun z=>(p=.a [.int .i64 ((z.1).op),.int .i64 ((z.1).k),.int .i64 ((z.1).n),.str ((z.1).name),.tree 1 (((z.1).s).map (eL 2 aw.enc)),.tree 6 (((z.1).l).map ai.enc)]∧σ=[.box [.tree 4 (z.2.1.map aa.enc),.int .i64 p1.end_,.int .i64 z.2.2.1,.int .i64 z.2.2.2]])) (fun z=>False)) r) (fun p _=>(Sum.elim (fun z=>False) (fun z=>p=.c (.ifc 48 true (nsC [(.i64,z.1),(.i64,z.2)])))) r):=by
 refine aN 78 [.cell 2 47] Tryd.func59 rfl rfl rfl (by kernel_rfl) (by simp) ?_;refine bJ ?_;unfold ew at hm;refine ax [0] ?_;refine bk (S:=Unit) (V:=Unit) [3,4,5,6,7,8,9,10,11,12,13,14,15,16,17,18,19,20,21,22,23,24,25,26,27,28,29,30,31,32,33,34,35,36,37,38,39,40,41,42,43,44,45,46,47,48,49,50,51,52,53,54,55,56,57,58,59,60,61,62,63,64,65,66,67,68,69,70,71,72,73,74,75] (fun _ _=>[]) (fun _ _=>[.box [.tree 4 (p1.l.map aa.enc),.int .i64 p1.end_,.int .i64 p1.open_,.int .i64 p1.terms],.box [.optr 0 0],.box [.int .i64 0,.int .i64 0,.int .i64 0,.str [],.nils,.nils]]) (fun _=>bq rc_syntax_parser_rank p1=some r) ?_ ?_
 ·skip;refine aY ?_
  refine cR [5,6,7,8,9,10,11,12,13,14,15,16,17,18,19,20] fun k kp hk hp=>?_;refine aq 7 ?_;refine go ?_
  by_cases h3:(p1.l.length:Int)>0
  ·rw [iP h3] at hm;have h3b:=dT h3;obtain ⟨hg4a,hm⟩:=gd hm;refine ab ?_;refine gox (a2 (em aa.enc p1.l 0) h3b) ?_;refine hk _ _ ?_;clear hk hp k kp
   by_cases h5:((p1.l.getD 0 default).kind)=3
   ·rw [iP h5] at hm;refine aj rfl (eQ h5) ?_;refine km [1,4,21,22,23,24,25,26] (by kernel_rfl) [0] [0,0,2,6,14,31,63] [false,false,false,false,false,true,true] [false,false,true,false,false,false,false] [[1],[],[],[],[],[],[]] (by kernel_rfl) fun k hk=>?_;refine gp ?_;obtain ⟨y6,hc6,hm⟩:=bd hm
    refine dm (σ2:=[.box [.tree 4 (y6.2.map aa.enc),.int .i64 p1.end_,.int .i64 p1.open_,.int .i64 p1.terms],.box [.optr 0 0],.box [.int .i64 0,.int .i64 0,.int .i64 0,.str [],.nils,.nils]]) (res:=.a [.int .i64 ((y6.1).kind),.int .i64 ((y6.1).at_),.str ((y6.1).text),.int .i64 ((y6.1).n)]) ⟨_,_,_,_,[0],aO p1  _ hc6,by simp,by simp,by first|rfl|(simp [PV.ren,CV.ren,CV.ren0,cz,lit];omega),rfl,by first|trivial|(simp [bX,eK,eB,eS,eL,ar,ah,PV.under,CV.under,af,OB.under,ag];done),by first|trivial|(simp [bX,eK,eB,eS,eL,ar,ah,PV.under,CV.under,af,OB.under,ag];done),fun q τ hq _=>by obtain ⟨rfl,rfl⟩:=hq;exact ⟨rfl,rfl⟩,fun _ _ h=>h.elim⟩ (by first|trivial|exact aA rfl) (by first|trivial|(intro _;first|trivial|simp [an])|simp [an]) ⟨rfl,by simp only [hP];and_intros<;>first|exact .inl rfl|exact .inr rfl|trivial⟩ ?_
    refine gp ?_;obtain ⟨y7,hc7,hm⟩:=bd hm;refine cap (σ2:=[.box [.tree 4 (y6.2.map aa.enc),.int .i64 p1.end_,.int .i64 p1.open_,.int .i64 y7.2],.box [.optr 0 0],.box [.int .i64 0,.int .i64 0,.int .i64 0,.str [],.nils,.nils]]) (res:=.a [.int .i64 ((y7.1).op),.int .i64 ((y7.1).k),.int .i64 ((y7.1).n),.str ((y7.1).name),.tree 1 (((y7.1).s).map (eL 2 aw.enc)),.tree 6 (((y7.1).l).map ai.enc)]) (ct [0] (f9 1 0 ((y6.1).n) [] (ae.mk y6.2 p1.end_ p1.open_ p1.terms)  _ hc7)) ?_;refine gp ?_;refine hk _ _ ?_;clear hk k;refine aM ?_;refine aT (bn ?_)
    cases hm
    exact kr 1
   ·rw [iN h5] at hm;refine ak rfl (nB h5) ?_;refine cR [4,28,29,30,31,32,33,34,35,36,37,38,39,40,41,42,43] fun k kp hk hp=>?_;refine aq 7 ?_;refine go ?_
    by_cases h8:(p1.l.length:Int)>0
    ·rw [iP h8] at hm;have h8b:=dT h8;refine ab ?_;refine gox (a2 (em aa.enc p1.l 0) h8b) ?_;refine hk _ _ ?_;clear hk hp k kp
     by_cases h9:((p1.l.getD 0 default).kind)=2
     ·rw [iP h9] at hm;refine aj rfl (eQ h9) ?_;obtain ⟨y8,hc10,hm⟩:=bd hm
      rcases y8 with y9|y10
      ·skip;simp only [Sum.elim_inl,Sum.elim_inr] at hm
       refine km [1,27,44,45,46,47,48] (by kernel_rfl) [0] [0,0,2,6,15,31] [false,false,false,false,true,true] [false,false,true,false,false,false] [[1],[],[],[],[],[]] (by kernel_rfl) fun k hk=>?_;refine gp ?_
       refine dm (σ2:=[.box [.tree 4 (y9.2.map aa.enc),.int .i64 p1.end_,.int .i64 p1.open_,.int .i64 p1.terms],.box [.optr 0 0],.box [.int .i64 0,.int .i64 0,.int .i64 0,.str [],.nils,.nils]]) (res:=.c (.str y9.1)) ⟨_,_,_,_,[0],bt p1  _ hc10,by simp,by simp,by first|rfl|(simp [PV.ren,CV.ren,CV.ren0,cz,lit];omega),rfl,by first|trivial|(simp [bX,eK,eB,eS,eL,ar,ah,PV.under,CV.under,af,OB.under,ag];done),by first|trivial|(simp [bX,eK,eB,eS,eL,ar,ah,PV.under,CV.under,af,OB.under,ag];done),fun q τ hq _=>by obtain ⟨rfl,rfl⟩:=hq;exact ⟨rfl,rfl⟩,fun _ _ h=>False.elim h⟩ (by first|trivial|exact aA rfl) (by first|trivial|(intro _;first|trivial|simp [an])|simp [an]) ⟨rfl,by simp only [hP];and_intros<;>first|exact .inl rfl|exact .inr rfl|trivial⟩ ?_
       refine gp ?_;obtain ⟨y11,hc11,hm⟩:=bd hm;refine cap (σ2:=[.box [.tree 4 (y9.2.map aa.enc),.int .i64 p1.end_,.int .i64 p1.open_,.int .i64 y11.2],.box [.optr 0 0],.box [.int .i64 0,.int .i64 0,.int .i64 0,.str [],.nils,.nils]]) (res:=.a [.int .i64 ((y11.1).op),.int .i64 ((y11.1).k),.int .i64 ((y11.1).n),.str ((y11.1).name),.tree 1 (((y11.1).s).map (eL 2 aw.enc)),.tree 6 (((y11.1).l).map ai.enc)]) (ct [0] (f9 3 0 0 y9.1 (ae.mk y9.2 p1.end_ p1.open_ p1.terms)  _ hc11)) ?_;refine gp ?_;refine hk _ _ ?_;clear hk k;refine aM ?_;refine aT (bn ?_)
       cases hm
       exact kr 1
      ·skip;simp only [Sum.elim_inl,Sum.elim_inr] at hm
       refine iU ?_;refine lH 2 [] [false,false,false,false,true,true] [] _ rfl ?_;simp only [List.take_succ_cons,List.take_zero];refine ga ?_
       refine ⟨_,_,_,_,[0],bt p1  _ hc10,by simp,by simp,rfl,rfl,by first|trivial|(simp [bX,eK,eB,eS,eL,ar,ah,PV.under,CV.under,af,OB.under,ag];done),by first|trivial|(simp [bX,eK,eB,eS,eL,ar,ah,PV.under,CV.under,af,OB.under,ag];done),fun q τ h=>False.elim h,?_⟩
       rintro p σ' hpp hpl;simp only [Sum.elim_inl,Sum.elim_inr] at hpp;subst hpp;refine bN ?_;refine aP ?_;refine be ?_;obtain rfl:=sI hm;exact rfl
     ·rw [iN h9] at hm;refine ak rfl (nB h9) ?_;refine au [27,50,51,52] fun k kp hk hp=>?_;refine go ?_;refine ay (aB 3 rfl) ?_;refine gt ?_;obtain ⟨y12,hc12,hm⟩:=bd hm;refine RA (aD (lit ([([116,114,117,101]:List UInt8),([102,97,108,115,101]:List UInt8)]:List (List UInt8))) p1  _ hc12) [0] ?_;rintro p σ' ⟨rfl,rfl⟩ _;refine ab ?_;refine go ?_;refine hk _ _ ?_;clear hk hp k kp
      by_cases h14:y12=true
      ·rw [iP h14] at hm;refine aj rfl (h14) ?_;refine ax [49,53] ?_;refine bk (S:=((List aa)×Int)) (V:=Unit) [54,55,56,57,58] (fun (l13,x14) _=>[]) (fun (l13,x14) _=>[.box [.tree 4 (l13.map aa.enc),.int .i64 p1.end_,.int .i64 p1.open_,.int .i64 p1.terms],.box [.optr 0 0],.box [.int .i64 0,.int .i64 0,.int .i64 0,.str [],.nils,.nils],.dead,.box [.int .i64 2,.int .i64 0,.int .i64 x14,.str [],.nils,.nils]]) (fun (l13,x14)=>ed p1 l13 x14=some r) ?_ ?_
       ·skip;refine au [54,55,56] fun k kp hk hp=>?_
        refine go ?_;obtain ⟨y16,hc17,hm⟩:=bd hm;refine RA (aO p1  _ hc17) [0] ?_;rintro p σ' ⟨rfl,rfl⟩ _;refine ab ?_;refine go ?_;refine hk _ _ ?_;clear hk hp k kp
        by_cases h19:((y16.1).text)=([116,114,117,101]:List UInt8)
        ·rw [iP h19] at hm;refine aj rfl (eQ h19) ?_;refine cB ?_;refine ao (y16.2,1) () hm ?_;exact ls
        ·rw [iN h19] at hm;refine ak rfl (nB h19) ?_;refine av ?_;refine ao (y16.2,0) () hm ?_;exact ls
       ·rintro ⟨l13,x14⟩ _ hm;replace hm:ed p1 l13 x14=some r:=hm;refine bw ?_;unfold ed at hm;refine au [1,3,59,60,61] fun k kp hk hp=>?_;refine go ?_
        refine ay (fL 60 (.a [.int .i64 2,.int .i64 0,.int .i64 x14,.str [],.tree 1 ([].map (eL 2 aw.enc)),.tree 6 ([].map ai.enc)]) rfl (by and_intros<;>trivial)) ?_
        refine go ?_;obtain ⟨y15,hc15,hm⟩:=bd hm;refine RA (eO (ai.mk 2 0 x14 [] [] []) (ae.mk l13 p1.end_ p1.open_ p1.terms)  _ hc15) [0] ?_;rintro p σ' ⟨rfl,rfl⟩ _;refine ab ?_;refine go ?_;refine hk _ _ ?_;clear hk hp k kp;refine aM ?_;refine aT (bn ?_)
        cases hm
        exact kr 1
      ·rw [iN h14] at hm;refine ak rfl (fB h14) ?_;refine au [49,63,64,65] fun k kp hk hp=>?_;refine go ?_;refine ay (aB 4 rfl) ?_;refine gt ?_;obtain ⟨y17,hc20,hm⟩:=bd hm;refine RA (aD (lit ([([40]:List UInt8)]:List (List UInt8))) p1  _ hc20) [0] ?_;rintro p σ' ⟨rfl,rfl⟩ _;refine ab ?_;refine go ?_;refine hk _ _ ?_;clear hk hp k kp
       by_cases h22:y17=true
       ·rw [iP h22] at hm;refine aj rfl (h22) ?_;refine au [1,62,66,67,68] fun k kp hk hp=>?_;refine go ?_;obtain ⟨y18,hc23,hm⟩:=bd hm
        refine am (dZ rc_syntax_parser_rank hr_syntax_parser_rank p1  _ hc23) [0,1] (by first|trivial|exact aA rfl) (by first|trivial|(intro _;first|trivial|simp [an])|simp [an]) (by simp) (by simp) rfl rfl (by first|trivial|(simp [bX,eK,eB,eS,eL,ar,ah,PV.under,CV.under,af,OB.under,ag];done)) (by first|trivial|(simp [bX,eK,eB,eS,eL,ar,ah,PV.under,CV.under,af,OB.under,ag];done)) ?_ ?_
        rotate_left
        ·rintro p σ' hpp hpl
         rcases y18 with y19|y20
         ·exact False.elim hpp
         simp only [Sum.elim_inl,Sum.elim_inr] at hm hpp;subst hpp;refine hp _ _ _ ?_;refine aP ?_;refine be ?_;obtain rfl:=sI hm;exact rfl
        rintro p σ' hq24 _
        rcases y18 with y21|y22
        ·skip;simp only [Sum.elim_inl,Sum.elim_inr] at hm hq24
         obtain ⟨rfl,rfl⟩:=hq24;refine ab ?_;refine go ?_;refine hk _ _ ?_;clear hk hp k kp;refine aM ?_;refine aT (bn ?_)
         cases hm
         exact kr 1
        ·skip;exact False.elim hq24
       ·rw [iN h22] at hm;refine ak rfl (fB h22) ?_;refine au [62,70,71,72] fun k kp hk hp=>?_;refine go ?_;refine ay (aB 5 rfl) ?_;refine gt ?_;obtain ⟨y23,hc25,hm⟩:=bd hm;refine RA (aD (lit ([([105,102]:List UInt8)]:List (List UInt8))) p1  _ hc25) [0] ?_;rintro p σ' ⟨rfl,rfl⟩ _;refine ab ?_;refine go ?_;refine hk _ _ ?_;clear hk hp k kp
        by_cases h27:y23=true
        ·rw [iP h27] at hm;refine aj rfl (h27) ?_;refine au [1,69,73,74,75] fun k kp hk hp=>?_;refine go ?_;obtain ⟨y24,hc28,hm⟩:=bd hm
         refine am (d6 rc_syntax_parser_rank hr_syntax_parser_rank p1  _ hc28) [0,1] (by first|trivial|exact aA rfl) (by first|trivial|(intro _;first|trivial|simp [an])|simp [an]) (by simp) (by simp) rfl rfl (by first|trivial|(simp [bX,eK,eB,eS,eL,ar,ah,PV.under,CV.under,af,OB.under,ag];done)) (by first|trivial|(simp [bX,eK,eB,eS,eL,ar,ah,PV.under,CV.under,af,OB.under,ag];done)) ?_ ?_
         rotate_left
         ·rintro p σ' hpp hpl
          rcases y24 with y25|y26
          ·exact False.elim hpp
          simp only [Sum.elim_inl,Sum.elim_inr] at hm hpp;subst hpp;refine hp _ _ _ ?_;refine aP ?_;refine be ?_;obtain rfl:=sI hm;exact rfl
         rintro p σ' hq29 _
         rcases y24 with y27|y28
         ·skip;simp only [Sum.elim_inl,Sum.elim_inr] at hm hq29
          obtain ⟨rfl,rfl⟩:=hq29;refine ab ?_;refine go ?_;refine hk _ _ ?_;clear hk hp k kp;refine aM ?_;refine aT (bn ?_)
          cases hm
          exact kr 1
         ·skip;exact False.elim hq29
        ·rw [iN h27] at hm;refine ak rfl (fB h27) ?_;refine av ?_;refine ap ?_;refine ao () () hm ?_;exact ls
    ·rw [iN h8] at hm;have h8b:=dF h8;refine ab ?_;refine gox h8b ?_;refine hk _ _ ?_;clear hk hp k kp;refine ak rfl rfl ?_;refine au [27,50,51,52] fun k kp hk hp=>?_;refine go ?_;refine ay (aB 3 rfl) ?_;refine gt ?_;obtain ⟨y29,hc30,hm⟩:=bd hm;refine RA (aD (lit ([([116,114,117,101]:List UInt8),([102,97,108,115,101]:List UInt8)]:List (List UInt8))) p1  _ hc30) [0] ?_;rintro p σ' ⟨rfl,rfl⟩ _;refine ab ?_;refine go ?_;refine hk _ _ ?_;clear hk hp k kp
     by_cases h32:y29=true
     ·rw [iP h32] at hm;refine aj rfl (h32) ?_;refine ax [49,53] ?_;refine bk (S:=((List aa)×Int)) (V:=Unit) [54,55,56,57,58] (fun (l30,x31) _=>[]) (fun (l30,x31) _=>[.box [.tree 4 (l30.map aa.enc),.int .i64 p1.end_,.int .i64 p1.open_,.int .i64 p1.terms],.box [.optr 0 0],.box [.int .i64 0,.int .i64 0,.int .i64 0,.str [],.nils,.nils],.dead,.box [.int .i64 2,.int .i64 0,.int .i64 x31,.str [],.nils,.nils]]) (fun (l30,x31)=>ee p1 l30 x31=some r) ?_ ?_
      ·skip;refine au [54,55,56] fun k kp hk hp=>?_
       refine go ?_;obtain ⟨y33,hc35,hm⟩:=bd hm;refine RA (aO p1  _ hc35) [0] ?_;rintro p σ' ⟨rfl,rfl⟩ _;refine ab ?_;refine go ?_;refine hk _ _ ?_;clear hk hp k kp
       by_cases h37:((y33.1).text)=([116,114,117,101]:List UInt8)
       ·rw [iP h37] at hm;refine aj rfl (eQ h37) ?_;refine cB ?_;refine ao (y33.2,1) () hm ?_;exact ls
       ·rw [iN h37] at hm;refine ak rfl (nB h37) ?_;refine av ?_;refine ao (y33.2,0) () hm ?_;exact ls
      ·rintro ⟨l30,x31⟩ _ hm;replace hm:ee p1 l30 x31=some r:=hm;refine bw ?_;unfold ee at hm;refine au [1,3,59,60,61] fun k kp hk hp=>?_;refine go ?_
       refine ay (fL 60 (.a [.int .i64 2,.int .i64 0,.int .i64 x31,.str [],.tree 1 ([].map (eL 2 aw.enc)),.tree 6 ([].map ai.enc)]) rfl (by and_intros<;>trivial)) ?_
       refine go ?_;obtain ⟨y32,hc33,hm⟩:=bd hm;refine RA (eO (ai.mk 2 0 x31 [] [] []) (ae.mk l30 p1.end_ p1.open_ p1.terms)  _ hc33) [0] ?_;rintro p σ' ⟨rfl,rfl⟩ _;refine ab ?_;refine go ?_;refine hk _ _ ?_;clear hk hp k kp;refine aM ?_;refine aT (bn ?_)
       cases hm
       exact kr 1
     ·rw [iN h32] at hm;refine ak rfl (fB h32) ?_;refine au [49,63,64,65] fun k kp hk hp=>?_;refine go ?_;refine ay (aB 4 rfl) ?_;refine gt ?_;obtain ⟨y34,hc38,hm⟩:=bd hm;refine RA (aD (lit ([([40]:List UInt8)]:List (List UInt8))) p1  _ hc38) [0] ?_;rintro p σ' ⟨rfl,rfl⟩ _;refine ab ?_;refine go ?_;refine hk _ _ ?_;clear hk hp k kp
      by_cases h40:y34=true
      ·rw [iP h40] at hm;refine aj rfl (h40) ?_;refine au [1,62,66,67,68] fun k kp hk hp=>?_;refine go ?_;obtain ⟨y35,hc41,hm⟩:=bd hm
       refine am (dZ rc_syntax_parser_rank hr_syntax_parser_rank p1  _ hc41) [0,1] (by first|trivial|exact aA rfl) (by first|trivial|(intro _;first|trivial|simp [an])|simp [an]) (by simp) (by simp) rfl rfl (by first|trivial|(simp [bX,eK,eB,eS,eL,ar,ah,PV.under,CV.under,af,OB.under,ag];done)) (by first|trivial|(simp [bX,eK,eB,eS,eL,ar,ah,PV.under,CV.under,af,OB.under,ag];done)) ?_ ?_
       rotate_left
       ·rintro p σ' hpp hpl
        rcases y35 with y36|y37
        ·exact False.elim hpp
        simp only [Sum.elim_inl,Sum.elim_inr] at hm hpp;subst hpp;refine hp _ _ _ ?_;refine aP ?_;refine be ?_;obtain rfl:=sI hm;exact rfl
       rintro p σ' hq42 _
       rcases y35 with y38|y39
       ·skip;simp only [Sum.elim_inl,Sum.elim_inr] at hm hq42
        obtain ⟨rfl,rfl⟩:=hq42;refine ab ?_;refine go ?_;refine hk _ _ ?_;clear hk hp k kp;refine aM ?_;refine aT (bn ?_)
        cases hm
        exact kr 1
       ·skip;exact False.elim hq42
      ·rw [iN h40] at hm;refine ak rfl (fB h40) ?_;refine au [62,70,71,72] fun k kp hk hp=>?_;refine go ?_;refine ay (aB 5 rfl) ?_;refine gt ?_;obtain ⟨y40,hc43,hm⟩:=bd hm;refine RA (aD (lit ([([105,102]:List UInt8)]:List (List UInt8))) p1  _ hc43) [0] ?_;rintro p σ' ⟨rfl,rfl⟩ _;refine ab ?_;refine go ?_;refine hk _ _ ?_;clear hk hp k kp
       by_cases h45:y40=true
       ·rw [iP h45] at hm;refine aj rfl (h45) ?_;refine au [1,69,73,74,75] fun k kp hk hp=>?_;refine go ?_;obtain ⟨y41,hc46,hm⟩:=bd hm
        refine am (d6 rc_syntax_parser_rank hr_syntax_parser_rank p1  _ hc46) [0,1] (by first|trivial|exact aA rfl) (by first|trivial|(intro _;first|trivial|simp [an])|simp [an]) (by simp) (by simp) rfl rfl (by first|trivial|(simp [bX,eK,eB,eS,eL,ar,ah,PV.under,CV.under,af,OB.under,ag];done)) (by first|trivial|(simp [bX,eK,eB,eS,eL,ar,ah,PV.under,CV.under,af,OB.under,ag];done)) ?_ ?_
        rotate_left
        ·rintro p σ' hpp hpl
         rcases y41 with y42|y43
         ·exact False.elim hpp
         simp only [Sum.elim_inl,Sum.elim_inr] at hm hpp;subst hpp;refine hp _ _ _ ?_;refine aP ?_;refine be ?_;obtain rfl:=sI hm;exact rfl
        rintro p σ' hq47 _
        rcases y41 with y44|y45
        ·skip;simp only [Sum.elim_inl,Sum.elim_inr] at hm hq47
         obtain ⟨rfl,rfl⟩:=hq47;refine ab ?_;refine go ?_;refine hk _ _ ?_;clear hk hp k kp;refine aM ?_;refine aT (bn ?_)
         cases hm
         exact kr 1
        ·skip;exact False.elim hq47
       ·rw [iN h45] at hm;refine ak rfl (fB h45) ?_;refine av ?_;refine ap ?_;refine ao () () hm ?_;exact ls
  ·rw [iN h3] at hm;have h3b:=dF h3;refine ab ?_;refine gox h3b ?_;refine hk _ _ ?_;clear hk hp k kp;refine ak rfl rfl ?_;refine cR [4,28,29,30,31,32,33,34,35,36,37,38,39,40,41,42,43] fun k kp hk hp=>?_;refine aq 7 ?_;refine go ?_
   by_cases h48:(p1.l.length:Int)>0
   ·rw [iP h48] at hm;have h48b:=dT h48;obtain ⟨hg49a,hm⟩:=gd hm;refine ab ?_;refine gox (a2 (em aa.enc p1.l 0) h48b) ?_;refine hk _ _ ?_;clear hk hp k kp
    by_cases h50:((p1.l.getD 0 default).kind)=2
    ·rw [iP h50] at hm;refine aj rfl (eQ h50) ?_;obtain ⟨y46,hc51,hm⟩:=bd hm
     rcases y46 with y47|y48
     ·skip;simp only [Sum.elim_inl,Sum.elim_inr] at hm
      refine km [1,27,44,45,46,47,48] (by kernel_rfl) [0] [0,0,2,6,15,31] [false,false,false,false,true,true] [false,false,true,false,false,false] [[1],[],[],[],[],[]] (by kernel_rfl) fun k hk=>?_;refine gp ?_
      refine dm (σ2:=[.box [.tree 4 (y47.2.map aa.enc),.int .i64 p1.end_,.int .i64 p1.open_,.int .i64 p1.terms],.box [.optr 0 0],.box [.int .i64 0,.int .i64 0,.int .i64 0,.str [],.nils,.nils]]) (res:=.c (.str y47.1)) ⟨_,_,_,_,[0],bt p1  _ hc51,by simp,by simp,by first|rfl|(simp [PV.ren,CV.ren,CV.ren0,cz,lit];omega),rfl,by first|trivial|(simp [bX,eK,eB,eS,eL,ar,ah,PV.under,CV.under,af,OB.under,ag];done),by first|trivial|(simp [bX,eK,eB,eS,eL,ar,ah,PV.under,CV.under,af,OB.under,ag];done),fun q τ hq _=>by obtain ⟨rfl,rfl⟩:=hq;exact ⟨rfl,rfl⟩,fun _ _ h=>False.elim h⟩ (by first|trivial|exact aA rfl) (by first|trivial|(intro _;first|trivial|simp [an])|simp [an]) ⟨rfl,by simp only [hP];and_intros<;>first|exact .inl rfl|exact .inr rfl|trivial⟩ ?_
      refine gp ?_;obtain ⟨y49,hc52,hm⟩:=bd hm;refine cap (σ2:=[.box [.tree 4 (y47.2.map aa.enc),.int .i64 p1.end_,.int .i64 p1.open_,.int .i64 y49.2],.box [.optr 0 0],.box [.int .i64 0,.int .i64 0,.int .i64 0,.str [],.nils,.nils]]) (res:=.a [.int .i64 ((y49.1).op),.int .i64 ((y49.1).k),.int .i64 ((y49.1).n),.str ((y49.1).name),.tree 1 (((y49.1).s).map (eL 2 aw.enc)),.tree 6 (((y49.1).l).map ai.enc)]) (ct [0] (f9 3 0 0 y47.1 (ae.mk y47.2 p1.end_ p1.open_ p1.terms)  _ hc52)) ?_;refine gp ?_;refine hk _ _ ?_;clear hk k;refine aM ?_;refine aT (bn ?_)
      cases hm
      exact kr 1
     ·skip;simp only [Sum.elim_inl,Sum.elim_inr] at hm
      refine iU ?_;refine lH 2 [] [false,false,false,false,true,true] [] _ rfl ?_;simp only [List.take_succ_cons,List.take_zero];refine ga ?_
      refine ⟨_,_,_,_,[0],bt p1  _ hc51,by simp,by simp,rfl,rfl,by first|trivial|(simp [bX,eK,eB,eS,eL,ar,ah,PV.under,CV.under,af,OB.under,ag];done),by first|trivial|(simp [bX,eK,eB,eS,eL,ar,ah,PV.under,CV.under,af,OB.under,ag];done),fun q τ h=>False.elim h,?_⟩
      rintro p σ' hpp hpl;simp only [Sum.elim_inl,Sum.elim_inr] at hpp;subst hpp;refine bN ?_;refine aP ?_;refine be ?_;obtain rfl:=sI hm;exact rfl
    ·rw [iN h50] at hm;refine ak rfl (nB h50) ?_;refine au [27,50,51,52] fun k kp hk hp=>?_;refine go ?_;refine ay (aB 3 rfl) ?_;refine gt ?_;obtain ⟨y50,hc53,hm⟩:=bd hm;refine RA (aD (lit ([([116,114,117,101]:List UInt8),([102,97,108,115,101]:List UInt8)]:List (List UInt8))) p1  _ hc53) [0] ?_;rintro p σ' ⟨rfl,rfl⟩ _;refine ab ?_;refine go ?_;refine hk _ _ ?_;clear hk hp k kp
     by_cases h55:y50=true
     ·rw [iP h55] at hm;refine aj rfl (h55) ?_;refine ax [49,53] ?_;refine bk (S:=((List aa)×Int)) (V:=Unit) [54,55,56,57,58] (fun (l51,x52) _=>[]) (fun (l51,x52) _=>[.box [.tree 4 (l51.map aa.enc),.int .i64 p1.end_,.int .i64 p1.open_,.int .i64 p1.terms],.box [.optr 0 0],.box [.int .i64 0,.int .i64 0,.int .i64 0,.str [],.nils,.nils],.dead,.box [.int .i64 2,.int .i64 0,.int .i64 x52,.str [],.nils,.nils]]) (fun (l51,x52)=>ef p1 l51 x52=some r) ?_ ?_
      ·skip;refine au [54,55,56] fun k kp hk hp=>?_
       refine go ?_;obtain ⟨y54,hc58,hm⟩:=bd hm;refine RA (aO p1  _ hc58) [0] ?_;rintro p σ' ⟨rfl,rfl⟩ _;refine ab ?_;refine go ?_;refine hk _ _ ?_;clear hk hp k kp
       by_cases h60:((y54.1).text)=([116,114,117,101]:List UInt8)
       ·rw [iP h60] at hm;refine aj rfl (eQ h60) ?_;refine cB ?_;refine ao (y54.2,1) () hm ?_;exact ls
       ·rw [iN h60] at hm;refine ak rfl (nB h60) ?_;refine av ?_;refine ao (y54.2,0) () hm ?_;exact ls
      ·rintro ⟨l51,x52⟩ _ hm;replace hm:ef p1 l51 x52=some r:=hm;refine bw ?_;unfold ef at hm;refine au [1,3,59,60,61] fun k kp hk hp=>?_;refine go ?_
       refine ay (fL 60 (.a [.int .i64 2,.int .i64 0,.int .i64 x52,.str [],.tree 1 ([].map (eL 2 aw.enc)),.tree 6 ([].map ai.enc)]) rfl (by and_intros<;>trivial)) ?_
       refine go ?_;obtain ⟨y53,hc56,hm⟩:=bd hm;refine RA (eO (ai.mk 2 0 x52 [] [] []) (ae.mk l51 p1.end_ p1.open_ p1.terms)  _ hc56) [0] ?_;rintro p σ' ⟨rfl,rfl⟩ _;refine ab ?_;refine go ?_;refine hk _ _ ?_;clear hk hp k kp;refine aM ?_;refine aT (bn ?_)
       cases hm
       exact kr 1
     ·rw [iN h55] at hm;refine ak rfl (fB h55) ?_;refine au [49,63,64,65] fun k kp hk hp=>?_;refine go ?_;refine ay (aB 4 rfl) ?_;refine gt ?_;obtain ⟨y55,hc61,hm⟩:=bd hm;refine RA (aD (lit ([([40]:List UInt8)]:List (List UInt8))) p1  _ hc61) [0] ?_;rintro p σ' ⟨rfl,rfl⟩ _;refine ab ?_;refine go ?_;refine hk _ _ ?_;clear hk hp k kp
      by_cases h63:y55=true
      ·rw [iP h63] at hm;refine aj rfl (h63) ?_;refine au [1,62,66,67,68] fun k kp hk hp=>?_;refine go ?_;obtain ⟨y56,hc64,hm⟩:=bd hm
       refine am (dZ rc_syntax_parser_rank hr_syntax_parser_rank p1  _ hc64) [0,1] (by first|trivial|exact aA rfl) (by first|trivial|(intro _;first|trivial|simp [an])|simp [an]) (by simp) (by simp) rfl rfl (by first|trivial|(simp [bX,eK,eB,eS,eL,ar,ah,PV.under,CV.under,af,OB.under,ag];done)) (by first|trivial|(simp [bX,eK,eB,eS,eL,ar,ah,PV.under,CV.under,af,OB.under,ag];done)) ?_ ?_
       rotate_left
       ·rintro p σ' hpp hpl
        rcases y56 with y57|y58
        ·exact False.elim hpp
        simp only [Sum.elim_inl,Sum.elim_inr] at hm hpp;subst hpp;refine hp _ _ _ ?_;refine aP ?_;refine be ?_;obtain rfl:=sI hm;exact rfl
       rintro p σ' hq65 _
       rcases y56 with y59|y60
       ·skip;simp only [Sum.elim_inl,Sum.elim_inr] at hm hq65
        obtain ⟨rfl,rfl⟩:=hq65;refine ab ?_;refine go ?_;refine hk _ _ ?_;clear hk hp k kp;refine aM ?_;refine aT (bn ?_)
        cases hm
        exact kr 1
       ·skip;exact False.elim hq65
      ·rw [iN h63] at hm;refine ak rfl (fB h63) ?_;refine au [62,70,71,72] fun k kp hk hp=>?_;refine go ?_;refine ay (aB 5 rfl) ?_;refine gt ?_;obtain ⟨y61,hc66,hm⟩:=bd hm;refine RA (aD (lit ([([105,102]:List UInt8)]:List (List UInt8))) p1  _ hc66) [0] ?_;rintro p σ' ⟨rfl,rfl⟩ _;refine ab ?_;refine go ?_;refine hk _ _ ?_;clear hk hp k kp
       by_cases h68:y61=true
       ·rw [iP h68] at hm;refine aj rfl (h68) ?_;refine au [1,69,73,74,75] fun k kp hk hp=>?_;refine go ?_;obtain ⟨y62,hc69,hm⟩:=bd hm
        refine am (d6 rc_syntax_parser_rank hr_syntax_parser_rank p1  _ hc69) [0,1] (by first|trivial|exact aA rfl) (by first|trivial|(intro _;first|trivial|simp [an])|simp [an]) (by simp) (by simp) rfl rfl (by first|trivial|(simp [bX,eK,eB,eS,eL,ar,ah,PV.under,CV.under,af,OB.under,ag];done)) (by first|trivial|(simp [bX,eK,eB,eS,eL,ar,ah,PV.under,CV.under,af,OB.under,ag];done)) ?_ ?_
        rotate_left
        ·rintro p σ' hpp hpl
         rcases y62 with y63|y64
         ·exact False.elim hpp
         simp only [Sum.elim_inl,Sum.elim_inr] at hm hpp;subst hpp;refine hp _ _ _ ?_;refine aP ?_;refine be ?_;obtain rfl:=sI hm;exact rfl
        rintro p σ' hq70 _
        rcases y62 with y65|y66
        ·skip;simp only [Sum.elim_inl,Sum.elim_inr] at hm hq70
         obtain ⟨rfl,rfl⟩:=hq70;refine ab ?_;refine go ?_;refine hk _ _ ?_;clear hk hp k kp;refine aM ?_;refine aT (bn ?_)
         cases hm
         exact kr 1
        ·skip;exact False.elim hq70
       ·rw [iN h68] at hm;refine ak rfl (fB h68) ?_;refine av ?_;refine ap ?_;refine ao () () hm ?_;exact ls
   ·rw [iN h48] at hm;have h48b:=dF h48;refine ab ?_;refine gox h48b ?_;refine hk _ _ ?_;clear hk hp k kp;refine ak rfl rfl ?_;refine au [27,50,51,52] fun k kp hk hp=>?_;refine go ?_;refine ay (aB 3 rfl) ?_;refine gt ?_;obtain ⟨y67,hc71,hm⟩:=bd hm;refine RA (aD (lit ([([116,114,117,101]:List UInt8),([102,97,108,115,101]:List UInt8)]:List (List UInt8))) p1  _ hc71) [0] ?_;rintro p σ' ⟨rfl,rfl⟩ _;refine ab ?_;refine go ?_;refine hk _ _ ?_;clear hk hp k kp
    by_cases h73:y67=true
    ·rw [iP h73] at hm;refine aj rfl (h73) ?_;refine ax [49,53] ?_;refine bk (S:=((List aa)×Int)) (V:=Unit) [54,55,56,57,58] (fun (l68,x69) _=>[]) (fun (l68,x69) _=>[.box [.tree 4 (l68.map aa.enc),.int .i64 p1.end_,.int .i64 p1.open_,.int .i64 p1.terms],.box [.optr 0 0],.box [.int .i64 0,.int .i64 0,.int .i64 0,.str [],.nils,.nils],.dead,.box [.int .i64 2,.int .i64 0,.int .i64 x69,.str [],.nils,.nils]]) (fun (l68,x69)=>eg p1 l68 x69=some r) ?_ ?_
     ·skip;refine au [54,55,56] fun k kp hk hp=>?_
      refine go ?_;obtain ⟨y71,hc76,hm⟩:=bd hm;refine RA (aO p1  _ hc76) [0] ?_;rintro p σ' ⟨rfl,rfl⟩ _;refine ab ?_;refine go ?_;refine hk _ _ ?_;clear hk hp k kp
      by_cases h78:((y71.1).text)=([116,114,117,101]:List UInt8)
      ·rw [iP h78] at hm;refine aj rfl (eQ h78) ?_;refine cB ?_;refine ao (y71.2,1) () hm ?_;exact ls
      ·rw [iN h78] at hm;refine ak rfl (nB h78) ?_;refine av ?_;refine ao (y71.2,0) () hm ?_;exact ls
     ·rintro ⟨l68,x69⟩ _ hm;replace hm:eg p1 l68 x69=some r:=hm;refine bw ?_;unfold eg at hm;refine au [1,3,59,60,61] fun k kp hk hp=>?_;refine go ?_
      refine ay (fL 60 (.a [.int .i64 2,.int .i64 0,.int .i64 x69,.str [],.tree 1 ([].map (eL 2 aw.enc)),.tree 6 ([].map ai.enc)]) rfl (by and_intros<;>trivial)) ?_
      refine go ?_;obtain ⟨y70,hc74,hm⟩:=bd hm;refine RA (eO (ai.mk 2 0 x69 [] [] []) (ae.mk l68 p1.end_ p1.open_ p1.terms)  _ hc74) [0] ?_;rintro p σ' ⟨rfl,rfl⟩ _;refine ab ?_;refine go ?_;refine hk _ _ ?_;clear hk hp k kp;refine aM ?_;refine aT (bn ?_)
      cases hm
      exact kr 1
    ·rw [iN h73] at hm;refine ak rfl (fB h73) ?_;refine au [49,63,64,65] fun k kp hk hp=>?_;refine go ?_;refine ay (aB 4 rfl) ?_;refine gt ?_;obtain ⟨y72,hc79,hm⟩:=bd hm;refine RA (aD (lit ([([40]:List UInt8)]:List (List UInt8))) p1  _ hc79) [0] ?_;rintro p σ' ⟨rfl,rfl⟩ _;refine ab ?_;refine go ?_;refine hk _ _ ?_;clear hk hp k kp
     by_cases h81:y72=true
     ·rw [iP h81] at hm;refine aj rfl (h81) ?_;refine au [1,62,66,67,68] fun k kp hk hp=>?_;refine go ?_;obtain ⟨y73,hc82,hm⟩:=bd hm
      refine am (dZ rc_syntax_parser_rank hr_syntax_parser_rank p1  _ hc82) [0,1] (by first|trivial|exact aA rfl) (by first|trivial|(intro _;first|trivial|simp [an])|simp [an]) (by simp) (by simp) rfl rfl (by first|trivial|(simp [bX,eK,eB,eS,eL,ar,ah,PV.under,CV.under,af,OB.under,ag];done)) (by first|trivial|(simp [bX,eK,eB,eS,eL,ar,ah,PV.under,CV.under,af,OB.under,ag];done)) ?_ ?_
      rotate_left
      ·rintro p σ' hpp hpl
       rcases y73 with y74|y75
       ·exact False.elim hpp
       simp only [Sum.elim_inl,Sum.elim_inr] at hm hpp;subst hpp;refine hp _ _ _ ?_;refine aP ?_;refine be ?_;obtain rfl:=sI hm;exact rfl
      rintro p σ' hq83 _
      rcases y73 with y76|y77
      ·skip;simp only [Sum.elim_inl,Sum.elim_inr] at hm hq83
       obtain ⟨rfl,rfl⟩:=hq83;refine ab ?_;refine go ?_;refine hk _ _ ?_;clear hk hp k kp;refine aM ?_;refine aT (bn ?_)
       cases hm
       exact kr 1
      ·skip;exact False.elim hq83
     ·rw [iN h81] at hm;refine ak rfl (fB h81) ?_;refine au [62,70,71,72] fun k kp hk hp=>?_;refine go ?_;refine ay (aB 5 rfl) ?_;refine gt ?_;obtain ⟨y78,hc84,hm⟩:=bd hm;refine RA (aD (lit ([([105,102]:List UInt8)]:List (List UInt8))) p1  _ hc84) [0] ?_;rintro p σ' ⟨rfl,rfl⟩ _;refine ab ?_;refine go ?_;refine hk _ _ ?_;clear hk hp k kp
      by_cases h86:y78=true
      ·rw [iP h86] at hm;refine aj rfl (h86) ?_;refine au [1,69,73,74,75] fun k kp hk hp=>?_;refine go ?_;obtain ⟨y79,hc87,hm⟩:=bd hm
       refine am (d6 rc_syntax_parser_rank hr_syntax_parser_rank p1  _ hc87) [0,1] (by first|trivial|exact aA rfl) (by first|trivial|(intro _;first|trivial|simp [an])|simp [an]) (by simp) (by simp) rfl rfl (by first|trivial|(simp [bX,eK,eB,eS,eL,ar,ah,PV.under,CV.under,af,OB.under,ag];done)) (by first|trivial|(simp [bX,eK,eB,eS,eL,ar,ah,PV.under,CV.under,af,OB.under,ag];done)) ?_ ?_
       rotate_left
       ·rintro p σ' hpp hpl
        rcases y79 with y80|y81
        ·exact False.elim hpp
        simp only [Sum.elim_inl,Sum.elim_inr] at hm hpp;subst hpp;refine hp _ _ _ ?_;refine aP ?_;refine be ?_;obtain rfl:=sI hm;exact rfl
       rintro p σ' hq88 _
       rcases y79 with y82|y83
       ·skip;simp only [Sum.elim_inl,Sum.elim_inr] at hm hq88
        obtain ⟨rfl,rfl⟩:=hq88;refine ab ?_;refine go ?_;refine hk _ _ ?_;clear hk hp k kp;refine aM ?_;refine aT (bn ?_)
        cases hm
        exact kr 1
       ·skip;exact False.elim hq88
      ·rw [iN h86] at hm;refine ak rfl (fB h86) ?_;refine av ?_;refine ap ?_;refine ao () () hm ?_;exact ls
 ·rintro _ _ hm;replace hm:bq rc_syntax_parser_rank p1=some r:=hm;refine bw ?_;unfold bq at hm;refine au [1,76,77] fun k kp hk hp=>?_;refine go ?_;obtain ⟨y1,hc1,hm⟩:=bd hm
  refine am (kJ rc_syntax_parser_rank hr_syntax_parser_rank p1  _ hc1) [0] (by first|trivial|exact aA rfl) (by first|trivial|(intro _;first|trivial|simp [an])|simp [an]) (by simp) (by simp) rfl rfl (by first|trivial|(simp [bX,eK,eB,eS,eL,ar,ah,PV.under,CV.under,af,OB.under,ag];done)) (by first|trivial|(simp [bX,eK,eB,eS,eL,ar,ah,PV.under,CV.under,af,OB.under,ag];done)) ?_ ?_
  rotate_left
  ·rintro p σ' hpp hpl
   rcases y1 with y2|y3
   ·exact False.elim hpp
   simp only [Sum.elim_inl,Sum.elim_inr] at hm hpp;subst hpp;refine hp _ _ _ ?_;obtain rfl:=sI hm;exact rfl
  rintro p σ' hq2 _
  rcases y1 with y4|y5
  ·skip;simp only [Sum.elim_inl,Sum.elim_inr] at hm hq2
   obtain ⟨rfl,rfl⟩:=hq2;refine ab ?_;refine go ?_;refine hk _ _ ?_;clear hk hp k kp;refine aM ?_
   cases hm
   exact kr 1
  ·skip;exact False.elim hq2
theorem jA(rc_syntax_parser_rank:Int→ae→Option ((ai×(List aa)×Int×Int) ⊕ (Int×Int)))(hr_syntax_parser_rank:∀ (p1:Int) (p2:ae) (r:(ai×(List aa)×Int×Int) ⊕ (Int×Int)),rc_syntax_parser_rank p1 p2=some r→ck Tryd.prog 44 [.c (.optr 0 0),.c (.int .i64 p1)] [.box [.tree 4 (p2.l.map aa.enc),.int .i64 p2.end_,.int .i64 p2.open_,.int .i64 p2.terms]] (fun p σ=>(Sum.elim (fun z=>(p=.a [.int .i64 ((z.1).op),.int .i64 ((z.1).k),.int .i64 ((z.1).n),.str ((z.1).name),.tree 1 (((z.1).s).map (eL 2 aw.enc)),.tree 6 (((z.1).l).map ai.enc)]∧σ=[.box [.tree 4 (z.2.1.map aa.enc),.int .i64 p2.end_,.int .i64 z.2.2.1,.int .i64 z.2.2.2]])) (fun z=>False)) r) (fun p _=>(Sum.elim (fun z=>False) (fun z=>p=.c (.ifc 48 true (nsC [(.i64,z.1),(.i64,z.2)])))) r))(p1:ai)(p2:ae)(r:(ai×(List aa)×Int×Int) ⊕ (Int×Int))(hm:eh rc_syntax_parser_rank p1 p2=some r):ck Tryd.prog 60 [.c (.optr 0 0),.c (.optr 1 0)] [.box [.optr 2 0],.box [.int .i64 p1.op,.int .i64 p1.k,.int .i64 p1.n,.str p1.name,.tree 1 (p1.s.map (eL 2 aw.enc)),.tree 6 (p1.l.map ai.enc)],.box [.tree 4 (p2.l.map aa.enc),.int .i64 p2.end_,.int .i64 p2.open_,.int .i64 p2.terms]] (fun p σ=>(Sum.elim (fun z=>(p=.a [.int .i64 ((z.1).op),.int .i64 ((z.1).k),.int .i64 ((z.1).n),.str ((z.1).name),.tree 1 (((z.1).s).map (eL 2 aw.enc)),.tree 6 (((z.1).l).map ai.enc)]∧σ=[.box [.optr 2 0],.box [.int .i64 p1.op,.int .i64 p1.k,.int .i64 p1.n,.str p1.name,.tree 1 (p1.s.map (eL 2 aw.enc)),.tree 6 (p1.l.map ai.enc)],.box [.tree 4 (z.2.1.map aa.enc),.int .i64 p2.end_,.int .i64 z.2.2.1,.int .i64 z.2.2.2]])) (fun z=>False)) r) (fun p _=>(Sum.elim (fun z=>False) (fun z=>p=.c (.ifc 48 true (nsC [(.i64,z.1),(.i64,z.2)])))) r):=by
 refine aN 22 [.cell 2 47] Tryd.func60 rfl rfl rfl (by kernel_rfl) (by simp) ?_;refine bJ ?_;unfold eh at hm;refine ax [] ?_;refine au [5,6] fun k kp hk hp=>?_;refine go ?_;obtain ⟨y1,hc1,hm⟩:=bd hm
 refine am (hr_syntax_parser_rank 0 p2  _ hc1) [2] (by first|trivial|exact aA rfl) (by first|trivial|(intro _;first|trivial|simp [an])|simp [an]) (by simp) (by simp) rfl rfl (by first|trivial|(simp [bX,eK,eB,eS,eL,ar,ah,PV.under,CV.under,af,OB.under,ag];done)) (by first|trivial|(simp [bX,eK,eB,eS,eL,ar,ah,PV.under,CV.under,af,OB.under,ag];done)) ?_ ?_
 rotate_left
 ·rintro p σ' hpp hpl
  rcases y1 with y2|y3
  ·exact False.elim hpp
  simp only [Sum.elim_inl,Sum.elim_inr] at hm hpp;subst hpp;refine hp _ _ _ ?_;obtain rfl:=sI hm;exact rfl
 rintro p σ' hq2 _
 rcases y1 with y4|y5
 ·skip;simp only [Sum.elim_inl,Sum.elim_inr] at hm hq2
  obtain ⟨rfl,rfl⟩:=hq2;refine ab ?_;refine go ?_;refine hk _ _ ?_;clear hk hp k kp;refine au [7,8,9] fun k kp hk hp=>?_;refine go ?_;refine ay (aB 5 rfl) ?_;refine gt ?_;obtain ⟨y6,hc3,hm⟩:=bd hm
  refine am (aJ (lit ([([58]:List UInt8)]:List (List UInt8))) (ae.mk y4.2.1 p2.end_ y4.2.2.1 y4.2.2.2)  _ hc3) [2] (by first|trivial|exact aA rfl) (by first|trivial|(intro _;first|trivial|simp [an])|simp [an]) (by simp) (by simp) rfl rfl (by first|trivial|(simp [bX,eK,eB,eS,eL,ar,ah,PV.under,CV.under,af,OB.under,ag];done)) (by first|trivial|(simp [bX,eK,eB,eS,eL,ar,ah,PV.under,CV.under,af,OB.under,ag];done)) ?_ ?_
  rotate_left
  ·rintro p σ' hpp hpl
   rcases y6 with y7|y8
   ·exact False.elim hpp
   simp only [Sum.elim_inl,Sum.elim_inr] at hm hpp;subst hpp;refine hp _ _ _ ?_;obtain rfl:=sI hm;exact rfl
  rintro p σ' hq4 _
  rcases y6 with y9|y10
  ·skip;simp only [Sum.elim_inl,Sum.elim_inr] at hm hq4
   obtain ⟨rfl,rfl⟩:=hq4;refine ab ?_;refine go ?_;refine hk _ _ ?_;clear hk hp k kp;obtain ⟨y11,hc5,hm⟩:=bd hm
   rcases y11 with y12|y13
   ·skip;simp only [Sum.elim_inl,Sum.elim_inr] at hm
    refine sD [1,3,10,11,12,13,14,15,16,17] [4] [2] [0,0,0,0,8,30,62,127,0,511] [false,false,false,false,false,false,false,false,false,true] [false,false,false,false,true,false,false,true,false,false] [[0],[1],[3],[],[],[],[],[],[],[]] (by kernel_rfl) (by kernel_rfl) (by decide) fun k kp hk=>?_;simp only [fg,ko,nI,mo];refine gp ?_
    refine dm (σ2:=[.box [.optr 2 0],.box [.int .i64 p1.op,.int .i64 p1.k,.int .i64 p1.n,.str p1.name,.tree 1 (p1.s.map (eL 2 aw.enc)),.tree 6 (p1.l.map ai.enc)],.box [.tree 4 (y12.2.1.map aa.enc),.int .i64 p2.end_,.int .i64 y12.2.2.1,.int .i64 y12.2.2.2],.box [.int .i64 0,.int .i64 0,.int .i64 0,.str [],.nils,.nils],.box [.int .i64 ((y4.1).op),.int .i64 ((y4.1).k),.int .i64 ((y4.1).n),.str ((y4.1).name),.tree 1 (((y4.1).s).map (eL 2 aw.enc)),.tree 6 (((y4.1).l).map ai.enc)],.dead]) (res:=.a [.int .i64 ((y12.1).op),.int .i64 ((y12.1).k),.int .i64 ((y12.1).n),.str ((y12.1).name),.tree 1 (((y12.1).s).map (eL 2 aw.enc)),.tree 6 (((y12.1).l).map ai.enc)]) ⟨_,_,_,_,[2],hr_syntax_parser_rank 0 (ae.mk y9 p2.end_ y4.2.2.1 y4.2.2.2)  _ hc5,by simp,by simp,by first|rfl|(simp [PV.ren,CV.ren,CV.ren0,cz,lit];omega),rfl,by first|trivial|(simp [bX,eK,eB,eS,eL,ar,ah,PV.under,CV.under,af,OB.under,ag];done),by first|trivial|(simp [bX,eK,eB,eS,eL,ar,ah,PV.under,CV.under,af,OB.under,ag];done),fun q τ hq _=>by obtain ⟨rfl,rfl⟩:=hq;exact ⟨rfl,rfl⟩,fun _ _ h=>False.elim h⟩ (by first|trivial|exact aA rfl) (by first|trivial|(intro _;first|trivial|simp [an])|simp [an]) ⟨rfl,by simp only [hP];and_intros<;>first|exact .inl rfl|exact .inr rfl|trivial⟩ ?_
    refine gp ?_;obtain ⟨y14,hc6,hm⟩:=bd hm
    refine dm (σ2:=[.box [.optr 2 0],.box [.int .i64 p1.op,.int .i64 p1.k,.int .i64 p1.n,.str p1.name,.tree 1 (p1.s.map (eL 2 aw.enc)),.tree 6 (p1.l.map ai.enc)],.box [.tree 4 (y12.2.1.map aa.enc),.int .i64 p2.end_,.int .i64 y12.2.2.1,.int .i64 y14.2.2.2.2.2],.box [.int .i64 0,.int .i64 0,.int .i64 0,.str [],.nils,.nils],.box [.int .i64 ((y4.1).op),.int .i64 ((y4.1).k),.int .i64 ((y4.1).n),.str ((y4.1).name),.tree 1 (((y4.1).s).map (eL 2 aw.enc)),.tree 6 (((y4.1).l).map ai.enc)],.dead,.arr 6 0 47 ((lit ([p1,(y4.1),(y12.1)]:List ai)).map ai.enc)]) (res:=.a [.int .i64 y14.1,.int .i64 y14.2.1,.int .i64 y14.2.2.1,.str y14.2.2.2.1,.tree 1 (y14.2.2.2.2.1.map (eL 2 aw.enc)),.osl 6 0 0 ((lit ([p1,(y4.1),(y12.1)]:List ai)).length)]) ⟨_,_,_,_,[2,6],eN 11 0 0 [] (ae.mk y12.2.1 p2.end_ y12.2.2.1 y12.2.2.2) (lit ([p1,(y4.1),(y12.1)]:List ai)) 0 _ hc6,by simp,by simp,by first|rfl|(simp [PV.ren,CV.ren,CV.ren0,cz,lit];omega),(by first|rfl|(simp only [lit,List.map_cons,List.map_nil,bX,eK,eB,eS,eL];rfl)),by first|trivial|(simp [bX,eK,eB,eS,eL,ar,ah,PV.under,CV.under,af,OB.under,ag];done),by first|trivial|(simp [bX,eK,eB,eS,eL,ar,ah,PV.under,CV.under,af,OB.under,ag];done),fun q τ hq _=>by obtain ⟨rfl,rfl⟩:=hq;exact ⟨rfl,rfl⟩,fun _ _ h=>h.elim⟩ (by first|trivial|exact aA rfl) (by first|trivial|(intro _;first|trivial|simp [an])|simp [an]) ⟨rfl,by simp only [hP];and_intros<;>first|exact .inl rfl|exact .inr rfl|trivial|exact .inr (by simp only [lit,List.map_cons,List.map_nil,bX,eK,eB,eS,eL])⟩ ?_
    refine gp ?_;refine go ?_;refine hk _ _ ?_;clear hk k kp;refine bU [.box [.optr 2 0],.box [.int .i64 p1.op,.int .i64 p1.k,.int .i64 p1.n,.str p1.name,.tree 1 (p1.s.map (eL 2 aw.enc)),.tree 6 (p1.l.map ai.enc)],.box [.tree 4 (y12.2.1.map aa.enc),.int .i64 p2.end_,.int .i64 y12.2.2.1,.int .i64 y14.2.2.2.2.2],.box [.int .i64 0,.int .i64 0,.int .i64 0,.str [],.nils,.nils],.box [.int .i64 ((y4.1).op),.int .i64 ((y4.1).k),.int .i64 ((y4.1).n),.str ((y4.1).name),.tree 1 (((y4.1).s).map (eL 2 aw.enc)),.tree 6 (((y4.1).l).map ai.enc)],.dead,.arr 6 0 47 ((lit ([p1,(y4.1),(y12.1)]:List ai)).map ai.enc),.box [.int .i64 y14.1,.int .i64 y14.2.1,.int .i64 y14.2.2.1,.str y14.2.2.2.1,.tree 1 (y14.2.2.2.2.1.map (eL 2 aw.enc)),.osl 6 0 0 ((lit ([p1,(y4.1),(y12.1)]:List ai)).length)]] ?_;refine au [0,18,19,20] fun k kp hk hp=>?_;refine go ?_;refine ay (aB 8 rfl) ?_;refine gt ?_;obtain ⟨y15,hc7,hm⟩:=bd hm
    refine am (aJ (lit ([([93]:List UInt8)]:List (List UInt8))) (ae.mk y12.2.1 p2.end_ y12.2.2.1 y14.2.2.2.2.2)  _ hc7) [2] (by first|trivial|exact aA rfl) (by first|trivial|(intro _;first|trivial|simp [an])|simp [an]) (by simp) (by simp) rfl rfl (by first|trivial|(simp [bX,eK,eB,eS,eL,ar,ah,PV.under,CV.under,af,OB.under,ag];done)) (by first|trivial|(simp [bX,eK,eB,eS,eL,ar,ah,PV.under,CV.under,af,OB.under,ag];done)) ?_ ?_
    rotate_left
    ·rintro p σ' hpp hpl
     rcases y15 with y16|y17
     ·exact False.elim hpp
     simp only [Sum.elim_inl,Sum.elim_inr] at hm hpp;subst hpp;refine hp _ _ _ ?_;obtain rfl:=sI hm;exact rfl
    rintro p σ' hq8 _
    rcases y15 with y18|y19
    ·skip;simp only [Sum.elim_inl,Sum.elim_inr] at hm hq8
     obtain ⟨rfl,rfl⟩:=hq8;refine ab ?_;refine go ?_;refine hk _ _ ?_;clear hk hp k kp;refine ax [4,21] ?_;refine kj (aB 6 rfl) ?_;refine aM ?_
     cases hm
     exact kr 3
    ·skip;exact False.elim hq8
   ·skip;simp only [Sum.elim_inl,Sum.elim_inr] at hm
    refine iU ?_;refine lH 4 [] [false,false,false,false,false,false,false,false,false,true] [false,false,false,false,false,false,false,false,true,false] _ rfl ?_;simp only [List.take_succ_cons,List.take_zero];refine ga ?_
    refine ⟨_,_,_,_,[2],hr_syntax_parser_rank 0 (ae.mk y9 p2.end_ y4.2.2.1 y4.2.2.2)  _ hc5,by simp,by simp,rfl,rfl,by first|trivial|(simp [bX,eK,eB,eS,eL,ar,ah,PV.under,CV.under,af,OB.under,ag];done),by first|trivial|(simp [bX,eK,eB,eS,eL,ar,ah,PV.under,CV.under,af,OB.under,ag];done),fun q τ h=>False.elim h,?_⟩
    rintro p σ' hpp hpl;simp only [Sum.elim_inl,Sum.elim_inr] at hpp;subst hpp;refine bN ?_;obtain rfl:=sI hm;exact rfl
  ·skip;exact False.elim hq4
 ·skip;exact False.elim hq2
theorem jc(rc_syntax_parser_rank:Int→ae→Option ((ai×(List aa)×Int×Int) ⊕ (Int×Int)))(hr_syntax_parser_rank:∀ (p1:Int) (p2:ae) (r:(ai×(List aa)×Int×Int) ⊕ (Int×Int)),rc_syntax_parser_rank p1 p2=some r→ck Tryd.prog 44 [.c (.optr 0 0),.c (.int .i64 p1)] [.box [.tree 4 (p2.l.map aa.enc),.int .i64 p2.end_,.int .i64 p2.open_,.int .i64 p2.terms]] (fun p σ=>(Sum.elim (fun z=>(p=.a [.int .i64 ((z.1).op),.int .i64 ((z.1).k),.int .i64 ((z.1).n),.str ((z.1).name),.tree 1 (((z.1).s).map (eL 2 aw.enc)),.tree 6 (((z.1).l).map ai.enc)]∧σ=[.box [.tree 4 (z.2.1.map aa.enc),.int .i64 p2.end_,.int .i64 z.2.2.1,.int .i64 z.2.2.2]])) (fun z=>False)) r) (fun p _=>(Sum.elim (fun z=>False) (fun z=>p=.c (.ifc 48 true (nsC [(.i64,z.1),(.i64,z.2)])))) r))(p1:ae)(p2:ai)(r:(ai×(List aa)×Int×Int) ⊕ (Int×Int))(hm:eM rc_syntax_parser_rank p1 p2=some r):ck Tryd.prog 57 [.c (.optr 0 0),.c (.fn 60 [.optr 1 0,.optr 2 0])] [.box [.tree 4 (p1.l.map aa.enc),.int .i64 p1.end_,.int .i64 p1.open_,.int .i64 p1.terms],.box [.optr 0 0],.box [.int .i64 p2.op,.int .i64 p2.k,.int .i64 p2.n,.str p2.name,.tree 1 (p2.s.map (eL 2 aw.enc)),.tree 6 (p2.l.map ai.enc)]] (fun p σ=>(Sum.elim (fun z=>(p=.a [.int .i64 ((z.1).op),.int .i64 ((z.1).k),.int .i64 ((z.1).n),.str ((z.1).name),.tree 1 (((z.1).s).map (eL 2 aw.enc)),.tree 6 (((z.1).l).map ai.enc)]∧σ=[.box [.tree 4 (z.2.1.map aa.enc),.int .i64 p1.end_,.int .i64 z.2.2.1,.int .i64 z.2.2.2],.box [.optr 0 0],.box [.int .i64 p2.op,.int .i64 p2.k,.int .i64 p2.n,.str p2.name,.tree 1 (p2.s.map (eL 2 aw.enc)),.tree 6 (p2.l.map ai.enc)]])) (fun z=>False)) r) (fun p _=>(Sum.elim (fun z=>False) (fun z=>p=.c (.ifc 48 true (nsC [(.i64,z.1),(.i64,z.2)])))) r):=by
 refine aN 32 [.cell 4 47] Tryd.func57 rfl rfl rfl (by kernel_rfl) (by simp) ?_;refine bJ ?_;unfold eM at hm;refine ax [] ?_;refine aR fun k1 hk1=>?_;refine ax [6,7,8,9] ?_
 by_cases h1:p1.open_=60
 ·rw [iP h1] at hm;refine aj rfl (eQ h1) ?_;refine bf fun k kp hk hp=>?_;refine go ?_;obtain ⟨y1,hc2,hm⟩:=bd hm
  refine am (aI 6 p1  _ hc2) [0] (by first|trivial|exact aA rfl) (by first|trivial|(intro _;first|trivial|simp [an])|simp [an]) (by simp) (by simp) rfl rfl (by first|trivial|(simp [bX,eK,eB,eS,eL,ar,ah,PV.under,CV.under,af,OB.under,ag];done)) (by first|trivial|(simp [bX,eK,eB,eS,eL,ar,ah,PV.under,CV.under,af,OB.under,ag];done)) ?_ ?_
  rotate_left
  ·rintro p σ' hpp hpl;skip;subst hpp;refine hp _ _ _ ?_;refine bN ?_;obtain rfl:=sI hm;exact rfl
  rintro p σ' hq3 _;exact False.elim hq3
 ·rw [iN h1] at hm;refine ak rfl (nB h1) ?_;refine av ?_;refine aL (hk1 _ _ ?_);refine ax [10,13,14,15,16,17,18,19] ?_;refine au [20,21] fun k kp hk hp=>?_;refine go ?_;obtain ⟨y2,hc4,hm⟩:=bd hm;refine RA (aO (ae.mk p1.l p1.end_ (IntKind.wrap .i64 (p1.open_+1)) p1.terms)  _ hc4) [0] ?_;rintro p σ' ⟨rfl,rfl⟩ _;refine ab ?_;refine go ?_;refine hk _ _ ?_;clear hk hp k kp;refine au [1,22,23] fun k kp hk hp=>?_;refine go ?_;obtain ⟨y3,hc6,hm⟩:=bd hm
  refine am (jA rc_syntax_parser_rank hr_syntax_parser_rank p2 (ae.mk y2.2 p1.end_ (IntKind.wrap .i64 (p1.open_+1)) p1.terms)  _ hc6) [1,2,0] (by first|trivial|exact aA rfl) (by first|trivial|(intro _;first|trivial|simp [an])|simp [an]) (by simp) (by simp) rfl rfl (by first|trivial|(simp [bX,eK,eB,eS,eL,ar,ah,PV.under,CV.under,af,OB.under,ag];done)) (by first|trivial|(simp [bX,eK,eB,eS,eL,ar,ah,PV.under,CV.under,af,OB.under,ag];done)) ?_ ?_
  rotate_left
  ·rintro p σ' hpp hpl
   rcases y3 with y4|y5
   ·exact False.elim hpp
   simp only [Sum.elim_inl,Sum.elim_inr] at hm hpp;subst hpp;refine hp _ _ _ ?_;obtain rfl:=sI hm;exact rfl
  rintro p σ' hq7 _
  rcases y3 with y6|y7
  ·skip;simp only [Sum.elim_inl,Sum.elim_inr] at hm hq7
   obtain ⟨rfl,rfl⟩:=hq7;refine ab ?_;refine go ?_;refine hk _ _ ?_;clear hk hp k kp;refine ax [0,24,25,26,27,28,29,30] ?_;refine ax [5,31] ?_;refine aM ?_
   cases hm
   exact kr 3
  ·skip;exact False.elim hq7
theorem jd(rc_syntax_parser_ahead:ae→Option ((ai×(List aa)×Int×Int) ⊕ (Int×Int)))(hr_syntax_parser_ahead:∀ (p1:ae) (r:(ai×(List aa)×Int×Int) ⊕ (Int×Int)),rc_syntax_parser_ahead p1=some r→ck Tryd.prog 49 [.c (.optr 0 0)] [.box [.tree 4 (p1.l.map aa.enc),.int .i64 p1.end_,.int .i64 p1.open_,.int .i64 p1.terms]] (fun p σ=>(Sum.elim (fun z=>(p=.a [.int .i64 ((z.1).op),.int .i64 ((z.1).k),.int .i64 ((z.1).n),.str ((z.1).name),.tree 1 (((z.1).s).map (eL 2 aw.enc)),.tree 6 (((z.1).l).map ai.enc)]∧σ=[.box [.tree 4 (z.2.1.map aa.enc),.int .i64 p1.end_,.int .i64 z.2.2.1,.int .i64 z.2.2.2]])) (fun z=>False)) r) (fun p _=>(Sum.elim (fun z=>False) (fun z=>p=.c (.ifc 48 true (nsC [(.i64,z.1),(.i64,z.2)])))) r))(p1:Int)(p2:ae)(r:(ai×(List aa)×Int×Int) ⊕ (Int×Int))(hm:dA rc_syntax_parser_ahead p1 p2=some r):ck Tryd.prog 58 [.c (.optr 0 0),.c (.optr 1 0)] [.box [.optr 2 0],.box [.int .i64 p1],.box [.tree 4 (p2.l.map aa.enc),.int .i64 p2.end_,.int .i64 p2.open_,.int .i64 p2.terms]] (fun p σ=>(Sum.elim (fun z=>(p=.a [.int .i64 ((z.1).op),.int .i64 ((z.1).k),.int .i64 ((z.1).n),.str ((z.1).name),.tree 1 (((z.1).s).map (eL 2 aw.enc)),.tree 6 (((z.1).l).map ai.enc)]∧σ=[.box [.optr 2 0],.box [.int .i64 p1],.box [.tree 4 (z.2.1.map aa.enc),.int .i64 p2.end_,.int .i64 z.2.2.1,.int .i64 z.2.2.2]])) (fun z=>False)) r) (fun p _=>(Sum.elim (fun z=>False) (fun z=>p=.c (.ifc 48 true (nsC [(.i64,z.1),(.i64,z.2)])))) r):=by
 refine aN 10 [.cell 2 47] Tryd.func58 rfl rfl rfl (by kernel_rfl) (by simp) ?_;refine bJ ?_;unfold dA at hm;refine ax [] ?_;obtain ⟨y1,hc1,hm⟩:=bd hm
 rcases y1 with y2|y3
 ·skip;simp only [Sum.elim_inl,Sum.elim_inr] at hm
  refine km [0,1,3,4,5,6,7,8,9] (by kernel_rfl) [2] [0,0,0,4,12,30,63,127] [false,false,false,false,false,false,true,true] [false,false,false,true,false,false,false,false] [[0],[1],[],[],[],[],[],[]] (by kernel_rfl) fun k hk=>?_;refine gp ?_
  refine dm (σ2:=[.box [.optr 2 0],.box [.int .i64 p1],.box [.tree 4 (y2.2.1.map aa.enc),.int .i64 p2.end_,.int .i64 y2.2.2.1,.int .i64 y2.2.2.2],.box [.int .i64 0,.int .i64 0,.int .i64 0,.str [],.nils,.nils]]) (res:=.a [.int .i64 ((y2.1).op),.int .i64 ((y2.1).k),.int .i64 ((y2.1).n),.str ((y2.1).name),.tree 1 (((y2.1).s).map (eL 2 aw.enc)),.tree 6 (((y2.1).l).map ai.enc)]) ⟨_,_,_,_,[2],hr_syntax_parser_ahead p2  _ hc1,by simp,by simp,by first|rfl|(simp [PV.ren,CV.ren,CV.ren0,cz,lit];omega),rfl,by first|trivial|(simp [bX,eK,eB,eS,eL,ar,ah,PV.under,CV.under,af,OB.under,ag];done),by first|trivial|(simp [bX,eK,eB,eS,eL,ar,ah,PV.under,CV.under,af,OB.under,ag];done),fun q τ hq _=>by obtain ⟨rfl,rfl⟩:=hq;exact ⟨rfl,rfl⟩,fun _ _ h=>False.elim h⟩ (by first|trivial|exact aA rfl) (by first|trivial|(intro _;first|trivial|simp [an])|simp [an]) ⟨rfl,by simp only [hP];and_intros<;>first|exact .inl rfl|exact .inr rfl|trivial⟩ ?_
  refine gp ?_;obtain ⟨y4,hc2,hm⟩:=bd hm
  refine jr (σ2:=[.box [.optr 2 0],.box [.int .i64 p1],.box [.tree 4 (y2.2.1.map aa.enc),.int .i64 p2.end_,.int .i64 y2.2.2.1,.int .i64 y4.2.2.2.2.2],.box [.int .i64 0,.int .i64 0,.int .i64 0,.str [],.nils,.nils],.arr 6 0 47 ((lit ([(y2.1)]:List ai)).map ai.enc)]) (res:=.a [.int .i64 y4.1,.int .i64 y4.2.1,.int .i64 y4.2.2.1,.str y4.2.2.2.1,.tree 1 (y4.2.2.2.2.1.map (eL 2 aw.enc)),.osl 4 0 0 ((lit ([(y2.1)]:List ai)).length)]) ⟨_,_,_,_,[2,4],eN 4 p1 0 [] (ae.mk y2.2.1 p2.end_ y2.2.2.1 y2.2.2.2) (lit ([(y2.1)]:List ai)) 0 _ hc2,by simp,by simp,rfl,(by first|rfl|(simp only [lit,List.map_cons,List.map_nil,bX,eK,eB,eS,eL];rfl)),by first|trivial|(simp [bX,eK,eB,eS,eL,ar,ah,PV.under,CV.under,af,OB.under,ag];done),by first|trivial|(simp [bX,eK,eB,eS,eL,ar,ah,PV.under,CV.under,af,OB.under,ag];done),fun q τ hq _=>by obtain ⟨rfl,rfl⟩:=hq;exact ⟨rfl,rfl⟩,fun _ _ h=>h.elim⟩ (by first|trivial|exact aA rfl) (by first|trivial|(intro _;first|trivial|simp [an])|simp [an]) (by first|exact .inl rfl|exact .inr (by simp only [lR];and_intros<;>first|rfl|trivial|(simp only [lit,List.map_cons,List.map_nil,bX,eK,eB,eS,eL]))) ?_
  refine gp ?_;refine hk _ _ ?_;clear hk k;refine bU [.box [.optr 2 0],.box [.int .i64 p1],.box [.tree 4 (y2.2.1.map aa.enc),.int .i64 p2.end_,.int .i64 y2.2.2.1,.int .i64 y4.2.2.2.2.2],.box [.int .i64 y4.1,.int .i64 y4.2.1,.int .i64 y4.2.2.1,.str y4.2.2.2.1,.tree 1 (y4.2.2.2.2.1.map (eL 2 aw.enc)),.osl 4 0 0 ((lit ([(y2.1)]:List ai)).length)],.arr 6 0 47 ((lit ([(y2.1)]:List ai)).map ai.enc)] ?_;refine kj (aB 4 rfl) ?_;refine aM ?_
  cases hm
  exact kr 3
 ·skip;simp only [Sum.elim_inl,Sum.elim_inr] at hm
  refine iU ?_;refine lH 3 [] [false,false,false,false,false,false,true,true] [] _ rfl ?_;simp only [List.take_succ_cons,List.take_zero];refine ga ?_
  refine ⟨_,_,_,_,[2],hr_syntax_parser_ahead p2  _ hc1,by simp,by simp,rfl,rfl,by first|trivial|(simp [bX,eK,eB,eS,eL,ar,ah,PV.under,CV.under,af,OB.under,ag];done),by first|trivial|(simp [bX,eK,eB,eS,eL,ar,ah,PV.under,CV.under,af,OB.under,ag];done),fun q τ h=>False.elim h,?_⟩
  rintro p σ' hpp hpl;simp only [Sum.elim_inl,Sum.elim_inr] at hpp;subst hpp;refine bN ?_;obtain rfl:=sI hm;exact rfl
end Pam
