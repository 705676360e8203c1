/- the walk of ref_Cells, printed by a program of ours -/
import Derived.Test.YthafkijdkbmdgaaDBase2
import Derived.Test.YthafkijdkbmdgaaDBase3
import Derived.Test.YthafkijdkbmdgaaDaFun1
import Derived.Test.YthafkijdkbmdgaaDTypes1
set_option linter.all false
set_option maxRecDepth 100000
set_option maxHeartbeats 8000000
namespace Pam
open Go Go.Proofs
theorem iW (p1:Int) (r:Int) (hm:ie p1 = some r):cd Try.prog 19 [.c (.int .i64 p1)] (.c (.int .i64 r)):=by
 refine aM 6 [.tmp 2] Try.func19 rfl rfl rfl (by kernel_rfl) (by simp) ?_;refine bP ?_;unfold ie at hm;refine am [2] ?_;refine ap fun k1 hk1=>?_;refine am [3] ?_
 by_cases h1:p1 < 1
 ·rw [iP h1] at hm;refine ag rfl (dT h1) ?_;refine am [0,4] ?_;refine aj ?_;refine ah ?_
  cases hm
  exact kr 0
 ·rw [iN h1] at hm;refine ai rfl (dF h1) ?_;refine aq ?_;refine ak (hk1 _ _ ?_);refine am [0,4,5] ?_;refine aj ?_
  cases hm
  exact kr 0
theorem pB (p1:ae) (p2:Int) (r:Bool) (hm:gT p1 p2 = some r):cd Try.prog 7 [.a [.tree 2 (p1.vars.map ao.enc),.tree 1 (p1.in_.map (eK .i64)),.tree 1 (p1.out_.map (eK .i64)),.tree 6 (p1.rules.map af.enc)],.c (.int .i64 p2)] (.c (.bool r)):=by
 refine aM 103 [.tmp 4] Try.func7 rfl rfl rfl (by kernel_rfl) (by simp) ?_;refine bP ?_;unfold gT at hm;refine am [0,4] ?_;refine ap fun k1 hk1=>?_;refine bx [9,10,11,12,13,14,15,16,17,18,19,20,21,22,23,24,25,26,27,28,29,30,31,32,33] fun k kp hk hp=>?_;refine an 6 ?_;refine go ?_
 by_cases h1:(p1.vars.length:Int) > p2
 ·rw [iP h1] at hm;have h1b:=dT h1;refine aa ?_;refine gox h1b ?_;refine hk _ _ ?_;clear hk hp k kp;refine ag rfl rfl ?_;refine am [1,2,34] ?_;refine aj ?_;refine ah ?_
  cases hm
  exact kr 0
 ·rw [iN h1] at hm;have h1b:=dF h1;refine an 7 ?_;refine gox h1b ?_
  by_cases h2:(p1.rules.length:Int) > p2
  ·rw [iP h2] at hm;have h2b:=dT h2;refine aa ?_;refine gox (a2 h1b h2b) ?_;refine hk _ _ ?_;clear hk hp k kp;refine ag rfl rfl ?_;refine am [1,2,34] ?_;refine aj ?_;refine ah ?_
   cases hm
   exact kr 0
  ·rw [iN h2] at hm;have h2b:=dF h2;refine an 7 ?_;refine gox (a2 h1b h2b) ?_
   by_cases h3:(p1.in_.length:Int) > p2
   ·rw [iP h3] at hm;have h3b:=dT h3;refine aa ?_;refine gox (a2 h1b (a2 h2b h3b)) ?_;refine hk _ _ ?_;clear hk hp k kp;refine ag rfl rfl ?_;refine am [1,2,34] ?_;refine aj ?_;refine ah ?_
    cases hm
    exact kr 0
   ·rw [iN h3] at hm;have h3b:=dF h3;refine aa ?_;refine gox (a2 h1b (a2 h2b h3b)) ?_;refine hk _ _ ?_;clear hk hp k kp
    by_cases h4:(p1.out_.length:Int) > p2
    ·rw [iP h4] at hm;refine ag rfl (dT h4) ?_;refine am [1,2,34] ?_;refine aj ?_;refine ah ?_
     cases hm
     exact kr 0
    ·rw [iN h4] at hm;refine ai rfl (dF h4) ?_;refine aq ?_;refine ak (hk1 _ _ ?_);refine am [34] ?_;refine aK (S:=Int) (V:=Unit) [4,5,6,35,36,37,38,39,40,41,42,43,44,45,46,47,48,49,50,51,52,53,54,55,56,57] (fun x1 _=>[(5,.c (.int .i64 x1))]) (fun x1 _=>[.box [.tree 2 (p1.vars.map ao.enc),.tree 1 (p1.in_.map (eK .i64)),.tree 1 (p1.out_.map (eK .i64)),.tree 6 (p1.rules.map af.enc)]]) (fun x1=>dm p1 p2 x1 = some r) ?_ ?_
     ·skip;refine am [] ?_
      refine az ?_;obtain ⟨o2,hl2,hm2⟩:=bd hm;refine be (S:=(Int×Int)) (V:=Unit) (O:=Int ⊕ Bool) [4,5,6,35,36,37,38,39,40,41,42,43,44,45,46,47,48,49,50,51,52,53,54,55,56,57] (fun (x15,x16) _=>[(5,.c (.int .i64 x15)),(6,.c (.int .i64 x16))]) (fun (x15,x16) _=>[.box [.tree 2 (p1.vars.map ao.enc),.tree 1 (p1.in_.map (eK .i64)),.tree 1 (p1.out_.map (eK .i64)),.tree 6 (p1.rules.map af.enc)]]) _ _ () hl2 ?_ ?_
      ·exact ls
      ·rintro ⟨x15,x16⟩ _ r2 hm hr2;replace hm:cD p1 x15 x16 = some r2:=hm;refine aJ ?_;unfold cD at hm;refine ap fun k4 hk4=>?_;refine am [35,36,37,38] ?_
       by_cases h15:x16 < (p1.vars.length:Int)
       ·rw [iP h15] at hm;refine ag rfl (dT h15) ?_;refine aq ?_;refine ak (hk4 _ _ ?_);refine ap fun k5 hk5=>?_;refine az ?_;refine ap fun k6 hk6=>?_;obtain ⟨hg16a,hm⟩:=gd hm;refine bj (em ao.enc p1.vars x16.toNat) [39,42,43,44,45,46,47] ?_
        by_cases h17:((p1.vars.getD x16.toNat default).n) > 1000
        ·rw [iP h17] at hm;refine ag rfl (dT h17) ?_;refine am [1,2,5,6,48] ?_;have ho18:=aA hm hr2;subst ho18;replace hm:some true = some r:=hm2;refine aj ?_;refine ah (ab (ah (aG (ab (av ?_)))))
         cases hm
         exact kr 0
        ·rw [iN h17] at hm;refine ai rfl (dF h17) ?_;refine aq ?_;refine ak (hk6 _ _ ?_);refine e8 fun k kp hk hp=>?_;refine gox (em ao.enc p1.vars x16.toNat) ?_;obtain ⟨y17,hc19,hm⟩:=bd hm;refine RP (fun _=>iW ((p1.vars.getD x16.toNat default).n) _ hc19) ?_;refine aa ?_;refine go ?_;refine hk _ _ ?_;clear hk hp k kp;refine au ?_;refine ak (hk5 _ _ ?_);refine bn ?_;refine aC ((IntKind.wrap .i64 (x15 + y17)),(IntKind.wrap .i64 (x16 + 1))) () hm ?_;exact ls
       ·rw [iN h15] at hm;refine ai rfl (dF h15) ?_;refine bq ?_;have ho20:=aA hm hr2;subst ho20;replace hm:dm p1 p2 x15 = some r:=hm2;refine bb (aQ (aF ?_));refine ax x15 () hm ?_;exact ls
     ·rintro x1 _ hm;replace hm:dm p1 p2 x1 = some r:=hm;refine aJ ?_;unfold dm at hm;refine aK (S:=Int) (V:=Unit) [2,4,5,7,8,58,59,60,61,62,63,64,65,66,67,68,69,70,71,72,73,74,75,76,77,78,79,80,81,82,83,84,85,86,87,88,89,90,91,92,93,94,95,96,97,98] (fun x2 _=>[(5,.c (.int .i64 x2))]) (fun x2 _=>[.box [.tree 2 (p1.vars.map ao.enc),.tree 1 (p1.in_.map (eK .i64)),.tree 1 (p1.out_.map (eK .i64)),.tree 6 (p1.rules.map af.enc)]]) (fun x2=>dQ p2 x2 = some r) ?_ ?_
      ·skip;refine am [] ?_
       refine az ?_;obtain ⟨o1,hl1,hm1⟩:=bd hm;refine be (S:=(Int×Int)) (V:=Unit) (O:=Int ⊕ Bool) [4,5,7,8,58,59,60,61,62,63,64,65,66,67,68,69,70,71,72,73,74,75,76,77,78,79,80,81,82,83,84,85,86,87,88,89,90,91,92,93,94,95,96,97,98] (fun (x7,x8) _=>[(5,.c (.int .i64 x7)),(7,.c (.int .i64 x8))]) (fun (x7,x8) _=>[.box [.tree 2 (p1.vars.map ao.enc),.tree 1 (p1.in_.map (eK .i64)),.tree 1 (p1.out_.map (eK .i64)),.tree 6 (p1.rules.map af.enc)]]) _ _ () hl1 ?_ ?_
       ·exact ls
       ·rintro ⟨x7,x8⟩ _ r1 hm hr1;replace hm:cC p1 x7 x8 = some r1:=hm;refine aJ ?_;unfold cC at hm;refine ap fun k2 hk2=>?_;refine am [58,59,60,61] ?_
        by_cases h5:x8 < (p1.rules.length:Int)
        ·rw [iP h5] at hm;refine ag rfl (dT h5) ?_;refine aq ?_;refine ak (hk2 _ _ ?_);refine ap fun k3 hk3=>?_;refine az ?_;obtain ⟨hg6a,hm⟩:=gd hm;refine bj (em af.enc p1.rules x8.toNat) [62,65,66,67,68,69] ?_;refine aK (S:=Unit) (V:=Unit) [4,70,71,72,73,74,75,76,77,78,79,80,81,82,83,84,85,86,87,88,89] (fun _ _=>[]) (fun _ _=>[.box [.tree 2 (p1.vars.map ao.enc),.tree 1 (p1.in_.map (eK .i64)),.tree 1 (p1.out_.map (eK .i64)),.tree 6 (p1.rules.map af.enc)],.box [.int .i64 ((p1.rules.getD x8.toNat default).op),.int .i64 ((p1.rules.getD x8.toNat default).k),.int .i64 ((p1.rules.getD x8.toNat default).out_),.int .i64 ((p1.rules.getD x8.toNat default).n),.tree 1 (((p1.rules.getD x8.toNat default).a).map (eK .i64)),.tree 4 (((p1.rules.getD x8.toNat default).e).map ay.enc)]]) (fun _=>dR p1 x7 x8 = some r1) ?_ ?_
         ·skip;refine bx [70,71,72,73,74,75,76,77,78,79,80,81,82,83,84,85,86,87,88] fun k kp hk hp=>?_
          refine an 5 ?_;refine go ?_
          by_cases h7:(((p1.rules.getD x8.toNat default).a).length:Int) > 100
          ·rw [iP h7] at hm;have h7b:=dT h7;refine aa ?_;refine gox h7b ?_;refine hk _ _ ?_;clear hk hp k kp;refine ag rfl rfl ?_;refine am [1,2,5,7,8,89] ?_;have ho8:=aA hm hr1;subst ho8;replace hm:some true = some r:=hm1;refine aj ?_;refine av (ab (ah (aG (ab (av ?_)))))
           cases hm
           exact kr 0
          ·rw [iN h7] at hm;have h7b:=dF h7;refine an 6 ?_;refine gox h7b ?_
           by_cases h9:(((p1.rules.getD x8.toNat default).e).length:Int) > 1000
           ·rw [iP h9] at hm;have h9b:=dT h9;refine aa ?_;refine gox (a2 h7b h9b) ?_;refine hk _ _ ?_;clear hk hp k kp;refine ag rfl rfl ?_;refine am [1,2,5,7,8,89] ?_;have ho10:=aA hm hr1;subst ho10;replace hm:some true = some r:=hm1;refine aj ?_;refine av (ab (ah (aG (ab (av ?_)))))
            cases hm
            exact kr 0
           ·rw [iN h9] at hm;have h9b:=dF h9;refine an 4 ?_;refine gox (a2 h7b h9b) ?_
            by_cases h11:((p1.rules.getD x8.toNat default).op) = 15
            ·rw [iP h11] at hm;have h11b:=eQ h11;refine aa ?_;refine gox (a2 h7b (a2 h9b h11b)) ?_;refine hk _ _ ?_;clear hk hp k kp
             by_cases h12:((p1.rules.getD x8.toNat default).n) > 1000
             ·rw [iP h12] at hm;refine ag rfl (dT h12) ?_;refine am [1,2,5,7,8,89] ?_;have ho13:=aA hm hr1;subst ho13;replace hm:some true = some r:=hm1;refine aj ?_;refine av (ab (ah (aG (ab (av ?_)))))
              cases hm
              exact kr 0
             ·rw [iN h12] at hm;refine ai rfl (dF h12) ?_;refine aq ?_;refine ax () () hm ?_;exact ls
            ·rw [iN h11] at hm;have h11b:=nB h11;refine aa ?_;refine gox (a2 h7b (a2 h9b h11b)) ?_;refine hk _ _ ?_;clear hk hp k kp;refine ai rfl rfl ?_;refine aq ?_;refine ax () () hm ?_;exact ls
         ·rintro _ _ hm;replace hm:dR p1 x7 x8 = some r1:=hm;refine aJ ?_;unfold dR at hm;refine bn ?_;refine au ?_;refine ak (hk3 _ _ ?_);refine bn ?_;refine aC ((IntKind.wrap .i64 (x7 + (IntKind.wrap .i64 ((((p1.rules.getD x8.toNat default).a).length:Int) + (((p1.rules.getD x8.toNat default).e).length:Int))))),(IntKind.wrap .i64 (x8 + 1))) () hm ?_;exact ls
        ·rw [iN h5] at hm;refine ai rfl (dF h5) ?_;refine bq ?_;have ho14:=aA hm hr1;subst ho14;replace hm:dQ p2 x7 = some r:=hm1;refine bb (aQ (aF ?_));refine ax x7 () hm ?_;exact ls
      ·rintro x2 _ hm;replace hm:dQ p2 x2 = some r:=hm;refine aJ ?_;unfold dQ at hm;refine am [1,5,99,100,101,102] ?_;refine aj ?_
       cases hm
       exact kr 0
theorem qC (p1:List (List Int)) (r:Bool) (hm:i7 p1 = some r):cd Try.prog 8 [.c (.tree 1 (p1.map (eL 1 (eK .i64))))] (.c (.bool r)):=by
 refine aM 19 [.tmp 2] Try.func8 rfl rfl rfl (by kernel_rfl) (by simp) ?_;refine bP ?_;unfold i7 at hm;refine am [2] ?_;refine ap fun k1 hk1=>?_;refine am [4,5] ?_
 by_cases h1:(p1.length:Int) > 60
 ·rw [iP h1] at hm;refine ag rfl (dT h1) ?_;refine am [0,6] ?_;refine aj ?_;refine ah ?_
  cases hm
  exact kr 0
 ·rw [iN h1] at hm;refine ai rfl (dF h1) ?_;refine aq ?_;refine ak (hk1 _ _ ?_);refine aK (S:=Unit) (V:=Unit) [0,2,3,6,7,8,9,10,11,12,13,14,15,16,17,18] (fun _ _=>[]) (fun _ _=>[]) (fun _=>gm = some r) ?_ ?_
  ·skip;refine am [6] ?_
   refine az ?_;obtain ⟨o1,hl1,hm1⟩:=bd hm;refine be (S:=Int) (V:=Unit) (O:=Unit ⊕ Bool) [2,3,7,8,9,10,11,12,13,14,15,16,17,18] (fun x3 _=>[(3,.c (.int .i64 x3))]) (fun x3 _=>[]) _ _ () hl1 ?_ ?_
   ·exact ls
   ·rintro x3 _ r1 hm hr1;replace hm:gn p1 x3 = some r1:=hm;refine aJ ?_;unfold gn at hm;refine ap fun k2 hk2=>?_;refine am [7,8,9] ?_
    by_cases h2:x3 < (p1.length:Int)
    ·rw [iP h2] at hm;refine ag rfl (dT h2) ?_;refine aq ?_;refine ak (hk2 _ _ ?_);refine ap fun k3 hk3=>?_;refine az ?_;obtain ⟨hg3a,hm⟩:=gd hm;refine bj (em (eL 1 (eK .i64)) p1 x3.toNat) [10,13,14,15,16,17] ?_
     by_cases h4:((p1.getD x3.toNat default).length:Int) > 10000
     ·rw [iP h4] at hm;refine ag rfl (dT h4) ?_;refine am [0,3,18] ?_;have ho5:=aA hm hr1;subst ho5;replace hm:some true = some r:=hm1;refine aj ?_;refine ab (ah (aG (ab (av ?_))))
      cases hm
      exact kr 0
     ·rw [iN h4] at hm;refine ai rfl (dF h4) ?_;refine aq ?_;refine au ?_;refine ak (hk3 _ _ ?_);refine bn ?_;refine aC (IntKind.wrap .i64 (x3 + 1)) () hm ?_;exact ls
    ·rw [iN h2] at hm;refine ai rfl (dF h2) ?_;refine bq ?_;have ho6:=aA hm hr1;subst ho6;replace hm:gm = some r:=hm1;refine bb (aQ (aF ?_));refine ax () () hm ?_;exact ls
  ·rintro _ _ hm;replace hm:gm = some r:=hm;refine aJ ?_;unfold gm at hm;refine am [] ?_;refine aj ?_
   cases hm
   exact kr 0
theorem dv (p1:List Int) (r:(List Int)) (hm:bH p1 = some r):eD Try.prog 27 [.c (.tree 1 (p1.map (eK .i64)))] [] (fun p σ=>(p = .c (.osl 0 1 0 r.length)∧σ = [.arr 1 1 3 (r.map (eK .i64))])) (fun _ _=>False):=by
 refine aM 8 [.tmp 2] Try.func27 rfl rfl rfl (by kernel_rfl) (by simp) ?_;refine bP ?_;unfold bH at hm;refine am [2] ?_;refine ap fun k1 hk1=>?_
 by_cases h1:p1 = []
 ·rw [iP h1] at hm;refine qy 0 (s:=1) (by rw [h1];rfl) ?_ ?_
  ·refine nD ?_;refine am [3] ?_;refine ag rfl rfl ?_;refine am [0,4] ?_;refine cG (fc 2 1 3 (by decide) rfl (Nat.le_of_ble_eq_true rfl)) ?_;refine nE ?_;refine cG (li 1 3 (by decide)) ?_;simp only [bZ,bL,reduceIte,↓reduceIte,reduceCtorEq,Int.reduceToNat,Nat.reduceDiv,Nat.reduceMod,Nat.reduceLT,Nat.reduceLeDiff,Nat.reduceAdd,Nat.reduceSub,Nat.reduceMul,Nat.reduceEqDiff,Nat.reduceBEq,Nat.reduceBNe,Nat.reduceGT,List.length_cons,List.length_nil,List.length_append,List.cons_append,List.nil_append];refine eP (ku 1 0 (by decide) rfl rfl) ?_;refine eP (lD 0 1 (by decide) (Nat.le_of_ble_eq_true rfl) (Nat.le_of_ble_eq_true rfl) rfl rfl) ?_;refine aj ?_;refine ah ?_
   cases hm
   exact kr 1
  ·refine nD ?_;refine am [3] ?_;refine ai rfl rfl ?_;refine aq ?_;refine ak (hk1 _ _ ?_);refine am [0,4,5,6,7] ?_;refine f9 [.arr 1 1 3 ([].map (eK .i64))] ?_;refine aj ?_
   cases hm
   exact kr 1
 ·rw [iN h1] at hm;refine am [3] ?_;refine ai rfl rfl ?_;refine aq ?_;refine ak (hk1 _ _ ?_);obtain ⟨⟨hg2ax,hg2ay⟩,hm⟩:=gd hm;refine am [0,4,5,6,7] ?_;refine f9 [.arr 1 1 3 (p1.map (eK .i64))] ?_;refine aj ?_
  cases hm
  exact kr 1
theorem jD (p1:List ay) (r:(List ay)) (hm:cN p1 = some r):eD Try.prog 62 [.c (.tree 4 (p1.map ay.enc))] [] (fun p σ=>(p = .c (.osl 0 1 0 r.length)∧σ = [.arr 4 1 100 (r.map ay.enc)])) (fun _ _=>False):=by
 refine aM 8 [.tmp 2] Try.func62 rfl rfl rfl (by kernel_rfl) (by simp) ?_;refine bP ?_;unfold cN at hm;refine am [2] ?_;refine ap fun k1 hk1=>?_
 by_cases h1:p1 = []
 ·rw [iP h1] at hm;refine qy 0 (s:=4) (by rw [h1];rfl) ?_ ?_
  ·refine nD ?_;refine am [3] ?_;refine ag rfl rfl ?_;refine am [0,4] ?_;refine cG (fc 2 4 100 (by decide) rfl (Nat.le_of_ble_eq_true rfl)) ?_;refine nE ?_;refine cG (li 4 100 (by decide)) ?_;simp only [bZ,bL,reduceIte,↓reduceIte,reduceCtorEq,Int.reduceToNat,Nat.reduceDiv,Nat.reduceMod,Nat.reduceLT,Nat.reduceLeDiff,Nat.reduceAdd,Nat.reduceSub,Nat.reduceMul,Nat.reduceEqDiff,Nat.reduceBEq,Nat.reduceBNe,Nat.reduceGT,List.length_cons,List.length_nil,List.length_append,List.cons_append,List.nil_append];refine eP (ku 1 0 (by decide) rfl rfl) ?_;refine eP (lD 0 1 (by decide) (Nat.le_of_ble_eq_true rfl) (Nat.le_of_ble_eq_true rfl) rfl rfl) ?_;refine aj ?_;refine ah ?_
   cases hm
   exact kr 1
  ·refine nD ?_;refine am [3] ?_;refine ai rfl rfl ?_;refine aq ?_;refine ak (hk1 _ _ ?_);refine am [0,4,5,6,7] ?_;refine f9 [.arr 4 1 100 ([].map ay.enc)] ?_;refine aj ?_
   cases hm
   exact kr 1
 ·rw [iN h1] at hm;refine am [3] ?_;refine ai rfl rfl ?_;refine aq ?_;refine ak (hk1 _ _ ?_);obtain ⟨⟨hg2ax,hg2ay⟩,hm⟩:=gd hm;refine am [0,4,5,6,7] ?_;refine f9 [.arr 4 1 100 (p1.map ay.enc)] ?_;refine aj ?_
  cases hm
  exact kr 1
theorem uB (p1:af) (r:af) (hm:mG p1 = some r):cd Try.prog 28 [.a [.int .i64 p1.op,.int .i64 p1.k,.int .i64 p1.out_,.int .i64 p1.n,.tree 1 (p1.a.map (eK .i64)),.tree 4 (p1.e.map ay.enc)]] (.a [.int .i64 ((r).op),.int .i64 ((r).k),.int .i64 ((r).out_),.int .i64 ((r).n),.tree 1 (((r).a).map (eK .i64)),.tree 4 (((r).e).map ay.enc)]):=by
 refine aM 12 [.cell 2 53] Try.func28 rfl rfl rfl (by kernel_rfl) (by simp) ?_;refine bP ?_;unfold mG at hm;refine am [0] ?_;refine kP [3,4,5,6,7,8,9,10] (by kernel_rfl) [0,1,3,0,8,31,31,127,255,511] [false,false,false,false,false,false,false,true,true,true] (by kernel_rfl) fun k hk=>?_;refine ga ?_;obtain ⟨y1,hc1,hm⟩:=bd hm;refine ca (σ2:=[.box [.int .i64 p1.op,.int .i64 p1.k,.int .i64 p1.out_,.int .i64 p1.n,.tree 1 (p1.a.map (eK .i64)),.tree 4 (p1.e.map ay.enc)],.box [.int .i64 0,.int .i64 0,.int .i64 0,.int .i64 0,.nils,.nils],.arr 1 1 3 (y1.map (eK .i64))]) (res:=.c (.osl 2 1 0 y1.length)) (ct [] (dv p1.a  _ hc1)) ?_;refine ga ?_;obtain ⟨y2,hc2,hm⟩:=bd hm;refine ca (σ2:=[.box [.int .i64 p1.op,.int .i64 p1.k,.int .i64 p1.out_,.int .i64 p1.n,.tree 1 (p1.a.map (eK .i64)),.tree 4 (p1.e.map ay.enc)],.box [.int .i64 0,.int .i64 0,.int .i64 0,.int .i64 0,.nils,.nils],.arr 1 1 3 (y1.map (eK .i64)),.arr 4 1 100 (y2.map ay.enc)]) (res:=.c (.osl 3 1 0 y2.length)) (ct [] (jD p1.e  _ hc2)) ?_;refine ga ?_;refine hk _ _ ?_;clear hk k;refine am [1,11] ?_;refine eP (bJ 2 rfl) ?_;refine eP (bJ 3 rfl) ?_;refine aj ?_
 cases hm
 exact kr 0
theorem j4 (p1:List ao) (r:(List ao)) (hm:dh p1 = some r):eD Try.prog 26 [.c (.tree 2 (p1.map ao.enc))] [] (fun p σ=>(p = .c (.osl 0 1 0 r.length)∧σ = [.arr 2 1 50 (r.map ao.enc)])) (fun _ _=>False):=by
 refine aM 8 [.tmp 2] Try.func26 rfl rfl rfl (by kernel_rfl) (by simp) ?_;refine bP ?_;unfold dh at hm;refine am [2] ?_;refine ap fun k1 hk1=>?_
 by_cases h1:p1 = []
 ·rw [iP h1] at hm;refine qy 0 (s:=2) (by rw [h1];rfl) ?_ ?_
  ·refine nD ?_;refine am [3] ?_;refine ag rfl rfl ?_;refine am [0,4] ?_;refine cG (fc 2 2 50 (by decide) rfl (Nat.le_of_ble_eq_true rfl)) ?_;refine nE ?_;refine cG (li 2 50 (by decide)) ?_;simp only [bZ,bL,reduceIte,↓reduceIte,reduceCtorEq,Int.reduceToNat,Nat.reduceDiv,Nat.reduceMod,Nat.reduceLT,Nat.reduceLeDiff,Nat.reduceAdd,Nat.reduceSub,Nat.reduceMul,Nat.reduceEqDiff,Nat.reduceBEq,Nat.reduceBNe,Nat.reduceGT,List.length_cons,List.length_nil,List.length_append,List.cons_append,List.nil_append];refine eP (ku 1 0 (by decide) rfl rfl) ?_;refine eP (lD 0 1 (by decide) (Nat.le_of_ble_eq_true rfl) (Nat.le_of_ble_eq_true rfl) rfl rfl) ?_;refine aj ?_;refine ah ?_
   cases hm
   exact kr 1
  ·refine nD ?_;refine am [3] ?_;refine ai rfl rfl ?_;refine aq ?_;refine ak (hk1 _ _ ?_);refine am [0,4,5,6,7] ?_;refine f9 [.arr 2 1 50 ([].map ao.enc)] ?_;refine aj ?_
   cases hm
   exact kr 1
 ·rw [iN h1] at hm;refine am [3] ?_;refine ai rfl rfl ?_;refine aq ?_;refine ak (hk1 _ _ ?_);obtain ⟨⟨hg2ax,hg2ay⟩,hm⟩:=gd hm;refine am [0,4,5,6,7] ?_;refine f9 [.arr 2 1 50 (p1.map ao.enc)] ?_;refine aj ?_
  cases hm
  exact kr 1
theorem nd (p1:List Int) (v0_:Nat) (r:List Int) (hm:eE p1 = some r):eD Try.prog 80 [.c (.osl 0 v0_ 0 p1.length)] [.arr 1 v0_ 3 (p1.map (eK .i64))] (fun p σ=>(p = .t []∧σ = [.arr 1 v0_ 3 (r.map (eK .i64))])) (fun _ _=>False):=by
 unfold eE at hm
 split at hm
 ·rename_i h
  simp only [sJ] at hm;subst hm;exact yq yv rfl ⟨_,Try.func80,rfl,by kernel_rfl⟩ 3 v0_ p1 h
 ·cases hm
theorem lU (p0:Nat) (p1:List Int) (v0_:Nat) (r:List Int) (hm:dx p0 p1 = some r):eD Try.prog 81 [.c (.osl 0 v0_ 0 p0)] [.arr 1 v0_ 3 (p1.map (eK .i64))] (fun p σ=>(p = .c (.osl 0 v0_ 0 r.length)∧σ = [.arr 1 v0_ 3 (r.map (eK .i64))])) (fun _ _=>False):=by
 unfold dx at hm
 split at hm
 ·rename_i h
  simp only [sJ] at hm;subst hm;obtain ⟨rfl,h⟩:=h;exact uA uC rfl ⟨_,Try.func81,rfl,by kernel_rfl⟩ 3 v0_ p1 h
 ·cases hm
theorem n7 (p1:af) (r:(List Int)) (hm:lG p1 = some r):cd Try.prog 61 [.a [.int .i64 p1.op,.int .i64 p1.k,.int .i64 p1.out_,.int .i64 p1.n,.tree 1 (p1.a.map (eK .i64)),.tree 4 (p1.e.map ay.enc)]] (.c (.tree 1 (r.map (eK .i64)))):=by
 refine aM 32 [.tmp 2] Try.func61 rfl rfl rfl (by kernel_rfl) (by simp) ?_;refine bP ?_;unfold lG at hm;refine am [0,2] ?_;refine aI [6,7,8] fun k kp hk hp=>?_;refine go ?_;obtain ⟨y1,hc1,hm⟩:=bd hm;refine RA (dv p1.a  _ hc1) [] ?_;rintro p σ' ⟨rfl,rfl⟩ _;refine aa ?_;refine go ?_;refine hk _ _ ?_;clear hk hp k kp;refine aK (S:=(List Int)) (V:=Nat) [1,3,5,9,10,11,12,13,14,15,16,17,18,19,20,21,22,23,24,25,26,27] (fun l4 v5=>[(3,.c (.osl 1 v5 0 l4.length))]) (fun l4 v5=>[.box [.int .i64 p1.op,.int .i64 p1.k,.int .i64 p1.out_,.int .i64 p1.n,.tree 1 (p1.a.map (eK .i64)),.tree 4 (p1.e.map ay.enc)],.arr 1 v5 3 (l4.map (eK .i64))]) (fun l4=>jq l4 = some r) ?_ ?_
 ·skip;refine am [1,9] ?_
  refine az ?_;obtain ⟨o1,hl1,hm1⟩:=bd hm;refine be (S:=((List Int)×Int)) (V:=Nat) (O:=(List Int)) [3,5,12,13,14,15,16,17,18,19,20,21,22,23,24,25,26,27] (fun (l20,x22) v21=>[(3,.c (.osl 1 v21 0 l20.length)),(12,.c (.int .i64 x22))]) (fun (l20,x22) v21=>[.box [.int .i64 p1.op,.int .i64 p1.k,.int .i64 p1.out_,.int .i64 p1.n,.tree 1 (p1.a.map (eK .i64)),.tree 4 (p1.e.map ay.enc)],.arr 1 v21 3 (l20.map (eK .i64))]) _ _ 1 hl1 ?_ ?_
  ·exact ls
  ·rintro ⟨l20,x22⟩ v21 r1 hm hr1;replace hm:fE p1 l20 x22 = some r1:=hm;refine aJ ?_;unfold fE at hm;refine am [] ?_;refine ap fun k1 hk1=>?_
   by_cases h7:x22 < (p1.e.length:Int)
   ·rw [iP h7] at hm;refine ag rfl (dT h7) ?_;refine aq ?_;refine ak (hk1 _ _ ?_);refine ap fun k2 hk2=>?_;refine az ?_;obtain ⟨hg8a,hm⟩:=gd hm;refine bj (em ay.enc p1.e x22.toNat) [13,14,15] ?_;refine am [16] ?_;refine az ?_;refine aK (S:=Bool) (V:=Nat) [3,17,18,19,20,21] (fun b25 v24=>[(3,.c (.osl 1 v24 0 l20.length)),(18,.c (.bool b25))]) (fun b25 v24=>[.box [.int .i64 p1.op,.int .i64 p1.k,.int .i64 p1.out_,.int .i64 p1.n,.tree 1 (p1.a.map (eK .i64)),.tree 4 (p1.e.map ay.enc)],.arr 1 v24 3 (l20.map (eK .i64)),.box [.int .i64 ((p1.e.getD x22.toNat default).op),.int .i64 ((p1.e.getD x22.toNat default).k),.int .i64 ((p1.e.getD x22.toNat default).v),.int .i64 ((p1.e.getD x22.toNat default).n)]]) (fun b25=>gH p1 l20 x22 b25 = some r1) ?_ ?_
    ·skip;refine am [19] ?_
     by_cases h11:((p1.e.getD x22.toNat default).op) = 2
     ·rw [iP h11] at hm;refine ag rfl (eQ h11) ?_;refine aq ?_;refine ax (((p1.e.getD x22.toNat default).op) == 2) v21 hm ?_;exact ls
     ·rw [iN h11] at hm;refine ai rfl (nB h11) ?_;refine am [20] ?_
      by_cases h12:((p1.e.getD x22.toNat default).op) = 3
      ·rw [iP h12] at hm;refine ag rfl (eQ h12) ?_;refine aq ?_;refine ax (((p1.e.getD x22.toNat default).op) == 3) v21 hm ?_;exact ls
      ·rw [iN h12] at hm;refine ai rfl (nB h12) ?_;refine bn ?_;refine ax (((p1.e.getD x22.toNat default).op) == 8) v21 hm ?_;exact ls
    ·rintro b25 v24 hm;replace hm:gH p1 l20 x22 b25 = some r1:=hm;refine aJ ?_;unfold gH at hm
     by_cases h9:b25 = true
     ·rw [iP h9] at hm;refine ag rfl (h9) ?_;obtain ⟨⟨hg10ax,hg10ay⟩,hm⟩:=gd hm;refine bn ?_;refine au (au ?_);refine ak (hk2 _ _ ?_);refine bn ?_;refine aC ((l20 ++ (lit ([(p1.e.getD x22.toNat default).v]:List Int))),(IntKind.wrap .i64 (x22 + 1))) (v24 + 1) hm ?_;exact ls
     ·rw [iN h9] at hm;refine ai rfl (fB h9) ?_;refine aq ?_;refine au (au ?_);refine ak (hk2 _ _ ?_);refine bn ?_;refine aC (l20,(IntKind.wrap .i64 (x22 + 1))) v24 hm ?_;exact ls
   ·rw [iN h7] at hm;refine ai rfl (dF h7) ?_;refine bq ?_;have ho13:=aA hm hr1;subst ho13;replace hm:jq l20 = some r:=hm1;refine bb (aQ (aF ?_));refine ax l20 v21 hm ?_;exact ls
 ·rintro l4 v5 hm;replace hm:jq l4 = some r:=hm;refine aJ ?_;unfold jq at hm;refine aI [28,29] fun k kp hk hp=>?_;refine go ?_;obtain ⟨y6,hc3,hm⟩:=bd hm;refine RA (nd l4 v5 _ hc3) [1] ?_;rintro p σ' ⟨rfl,rfl⟩ _;refine aa ?_;refine go ?_;refine hk _ _ ?_;clear hk hp k kp;refine aI [3,30,31] fun k kp hk hp=>?_;refine go ?_;obtain ⟨y7,hc5,hm⟩:=bd hm;refine RA (lU l4.length y6 v5 _ hc5) [1] ?_;rintro p σ' ⟨rfl,rfl⟩ _;refine aa ?_;refine go ?_;refine hk _ _ ?_;clear hk hp k kp;refine eP (bJ 1 rfl) ?_;refine aj ?_
  cases hm
  exact kr 0
theorem ji (p1:Int) (p2:aB) (r:Bool) (hm:fF p1 p2 = some r):eD Try.prog 89 [.c (.optr 0 0),.c (.int .i64 p1)] [.box [.tree 2 (p2.system.vars.map ao.enc),.tree 1 (p2.system.in_.map (eK .i64)),.tree 1 (p2.system.out_.map (eK .i64)),.tree 6 (p2.system.rules.map af.enc),.int .i64 p2.code]] (fun p σ=>(p = .c (.bool r)∧σ = [.box [.tree 2 (p2.system.vars.map ao.enc),.tree 1 (p2.system.in_.map (eK .i64)),.tree 1 (p2.system.out_.map (eK .i64)),.tree 6 (p2.system.rules.map af.enc),.int .i64 p2.code]])) (fun _ _=>False):=by
 refine aM 17 [.tmp 4] Try.func89 rfl rfl rfl (by kernel_rfl) (by simp) ?_;refine bP ?_;unfold fF at hm;refine am [4] ?_
 by_cases h1:p1 ≥ 0
 ·rw [iP h1] at hm;have h1b:=dT h1;refine bj h1b [0,1,5,6,7,8,9,10,11,12,13,14,15,16] ?_;refine aj ?_
  cases hm
  exact kr 1
 ·rw [iN h1] at hm;have h1b:=dF h1;refine bj h1b [0,1,5,6,7,8,9,10,11,12,13,14,15,16] ?_;refine aj ?_
  cases hm
  exact kr 1
theorem mQ (p1:List Int) (p2:Int) (r:Int) (hm:ed p1 p2 = some r):cd Try.prog 102 [.c (.tree 1 (p1.map (eK .i64))),.c (.int .i64 p2)] (.c (.int .i64 r)):=by
 refine aM 19 [.tmp 4] Try.func102 rfl rfl rfl (by kernel_rfl) (by simp) ?_;refine bP ?_;unfold ed at hm;refine am [4] ?_;refine aK (S:=Unit) (V:=Unit) [0,1,4,5,6,7,8,9,10,11,12,13,14,15,16,17,18] (fun _ _=>[]) (fun _ _=>[]) (fun _=>dr = some r) ?_ ?_
 ·skip;refine am [6] ?_
  refine az ?_;obtain ⟨o1,hl1,hm1⟩:=bd hm;refine be (S:=Int) (V:=Unit) (O:=Unit ⊕ Int) [4,5,8,9,10,11,12,13,14,15,16,17,18] (fun x3 _=>[(8,.c (.int .i64 x3))]) (fun x3 _=>[]) _ _ () hl1 ?_ ?_
  ·exact ls
  ·rintro x3 _ r1 hm hr1;replace hm:dt p1 p2 x3 = some r1:=hm;refine aJ ?_;unfold dt at hm;refine am [] ?_;refine ap fun k1 hk1=>?_
   by_cases h1:x3 < (p1.length:Int)
   ·rw [iP h1] at hm;refine ag rfl (dT h1) ?_;refine aq ?_;refine ak (hk1 _ _ ?_);refine ap fun k2 hk2=>?_;refine az ?_;refine am [9,10] ?_;obtain ⟨hg2a,hm⟩:=gd hm;refine bj (em (eK .i64) p1 x3.toNat) [11,12,13,14,15] ?_
    by_cases h3:p2 = (p1.getD x3.toNat default)
    ·rw [iP h3] at hm;refine ag rfl (eQ h3) ?_;refine am [0,1,5,7,8,16,17] ?_;have ho4:=aA hm hr1;subst ho4;replace hm:some x3 = some r:=hm1;refine aj ?_;refine ab (ah (aG (ab (av ?_))))
     cases hm
     exact kr 0
    ·rw [iN h3] at hm;refine ai rfl (nB h3) ?_;refine aq ?_;refine au ?_;refine ak (hk2 _ _ ?_);refine bn ?_;refine aC (IntKind.wrap .i64 (x3 + 1)) () hm ?_;exact ls
   ·rw [iN h1] at hm;refine ai rfl (dF h1) ?_;refine bq ?_;have ho5:=aA hm hr1;subst ho5;replace hm:dr = some r:=hm1;refine bb (aQ (aF ?_));refine ax () () hm ?_;exact ls
 ·rintro _ _ hm;replace hm:dr = some r:=hm;refine aJ ?_;unfold dr at hm;refine am [] ?_;refine aj ?_
  cases hm
  exact kr 0
theorem lL (p1:List Int) (p2:Int) (r:Bool) (hm:du p1 p2 = some r):cd Try.prog 90 [.c (.tree 1 (p1.map (eK .i64))),.c (.int .i64 p2)] (.c (.bool r)):=by
 refine aM 9 [.tmp 4] Try.func90 rfl rfl rfl (by kernel_rfl) (by simp) ?_;refine bP ?_;unfold du at hm;refine am [4] ?_;refine aI [0,1,5,6,7,8] fun k kp hk hp=>?_;refine go ?_;obtain ⟨y1,hc1,hm⟩:=bd hm;refine RP (fun _=>mQ p1 p2 _ hc1) ?_;refine aa ?_;refine go ?_;refine hk _ _ ?_;clear hk hp k kp;refine aj ?_
 cases hm
 exact kr 0
theorem qb (p1:aB) (r:aw) (hm:iv p1 = some r):eD Try.prog 72 [.c (.optr 0 0)] [.box [.tree 2 (p1.system.vars.map ao.enc),.tree 1 (p1.system.in_.map (eK .i64)),.tree 1 (p1.system.out_.map (eK .i64)),.tree 6 (p1.system.rules.map af.enc),.int .i64 p1.code]] (fun p σ=>(p = .a [.int .i64 ((r).code),.int .i64 ((r).at_)]∧σ = [.box [.tree 2 (p1.system.vars.map ao.enc),.tree 1 (p1.system.in_.map (eK .i64)),.tree 1 (p1.system.out_.map (eK .i64)),.tree 6 (p1.system.rules.map af.enc),.int .i64 p1.code]])) (fun _ _=>False):=by
 refine aM 122 [.cell 2 35] Try.func72 rfl rfl rfl (by kernel_rfl) (by simp) ?_;refine bP ?_;unfold iv at hm;refine am [] ?_;refine ap fun k1 hk1=>?_;refine bx [9,10,11,12,13,14,15,16,17,18,19,20,21,22,23,24,25,26,27,28,29,30,31,32,33,34,35,36,37,38,39,40,41] fun k kp hk hp=>?_;refine an 8 ?_;refine go ?_
 by_cases h1:(p1.system.vars.length:Int) > 400
 ·rw [iP h1] at hm;have h1b:=dT h1;refine aa ?_;refine gox h1b ?_;refine hk _ _ ?_;clear hk hp k kp;refine ag rfl rfl ?_;refine am [0,42,43] ?_;refine aj ?_;refine ah ?_
  cases hm
  exact kr 1
 ·rw [iN h1] at hm;have h1b:=dF h1;refine an 9 ?_;refine gox h1b ?_
  by_cases h2:(p1.system.rules.length:Int) > 400
  ·rw [iP h2] at hm;have h2b:=dT h2;refine aa ?_;refine gox (a2 h1b h2b) ?_;refine hk _ _ ?_;clear hk hp k kp;refine ag rfl rfl ?_;refine am [0,42,43] ?_;refine aj ?_;refine ah ?_
   cases hm
   exact kr 1
  ·rw [iN h2] at hm;have h2b:=dF h2;refine an 9 ?_;refine gox (a2 h1b h2b) ?_
   by_cases h3:(p1.system.in_.length:Int) > 400
   ·rw [iP h3] at hm;have h3b:=dT h3;refine aa ?_;refine gox (a2 h1b (a2 h2b h3b)) ?_;refine hk _ _ ?_;clear hk hp k kp;refine ag rfl rfl ?_;refine am [0,42,43] ?_;refine aj ?_;refine ah ?_
    cases hm
    exact kr 1
   ·rw [iN h3] at hm;have h3b:=dF h3;refine aa ?_;refine gox (a2 h1b (a2 h2b h3b)) ?_;refine hk _ _ ?_;clear hk hp k kp
    by_cases h4:(p1.system.out_.length:Int) > 400
    ·rw [iP h4] at hm;refine ag rfl (dT h4) ?_;refine am [0,42,43] ?_;refine aj ?_;refine ah ?_
     cases hm
     exact kr 1
    ·rw [iN h4] at hm;refine ai rfl (dF h4) ?_;refine aq ?_;refine ak (hk1 _ _ ?_);refine aK (S:=Unit) (V:=Unit) [3,4,42,44,45,46,47,48,49,50,51,52,53,54,55,56,57,58,59,60,61,62,63,64,65,66,67,68,69,70,71,72,73,74,75,76,77] (fun _ _=>[]) (fun _ _=>[.box [.tree 2 (p1.system.vars.map ao.enc),.tree 1 (p1.system.in_.map (eK .i64)),.tree 1 (p1.system.out_.map (eK .i64)),.tree 6 (p1.system.rules.map af.enc),.int .i64 p1.code],.box [.int .i64 0,.int .i64 0]]) (fun _=>cX p1 = some r) ?_ ?_
     ·skip;refine am [42,44,45,46,47] ?_
      refine az ?_;obtain ⟨o3,hl3,hm3⟩:=bd hm;refine be (S:=Int) (V:=Unit) (O:=Unit ⊕ aw) [3,4,50,51,52,53,54,55,56,57,58,59,60,61,62,63,64,65,66,67,68,69,70,71,72,73,74,75,76,77] (fun x14 _=>[(50,.c (.int .i64 x14))]) (fun x14 _=>[.box [.tree 2 (p1.system.vars.map ao.enc),.tree 1 (p1.system.in_.map (eK .i64)),.tree 1 (p1.system.out_.map (eK .i64)),.tree 6 (p1.system.rules.map af.enc),.int .i64 p1.code],.box [.int .i64 0,.int .i64 0]]) _ _ () hl3 ?_ ?_
      ·exact ls
      ·rintro x14 _ r3 hm hr3;replace hm:eh p1 x14 = some r3:=hm;refine aJ ?_;unfold eh at hm;refine am [] ?_;refine ap fun k7 hk7=>?_
       by_cases h23:x14 < (p1.system.vars.length:Int)
       ·rw [iP h23] at hm;refine ag rfl (dT h23) ?_;refine aq ?_;refine ak (hk7 _ _ ?_);refine ap fun k8 hk8=>?_;refine az ?_;obtain ⟨hg24a,hm⟩:=gd hm;refine bj (em ao.enc p1.system.vars x14.toNat) [51,52,53,54] ?_;refine aK (S:=Unit) (V:=Unit) [55,56,57,58,59,60,61,62,63,64,65] (fun _ _=>[]) (fun _ _=>[.box [.tree 2 (p1.system.vars.map ao.enc),.tree 1 (p1.system.in_.map (eK .i64)),.tree 1 (p1.system.out_.map (eK .i64)),.tree 6 (p1.system.rules.map af.enc),.int .i64 p1.code],.box [.int .i64 0,.int .i64 0],.box [.int .u8 ((p1.system.vars.getD x14.toNat default).elem),.int .i64 ((p1.system.vars.getD x14.toNat default).n)]]) (fun _=>dz p1 x14 = some r3) ?_ ?_
        ·skip;refine bx [55,56,57,58,59,60,61] fun k kp hk hp=>?_
         refine an 4 ?_;refine go ?_
         by_cases h29:¬ ((p1.system.vars.getD x14.toNat default).elem) = 105
         ·rw [iP h29] at hm;have h29b:=bne_iff_ne.2 h29;refine aa ?_;refine gox h29b ?_;refine hk _ _ ?_;clear hk hp k kp
          by_cases h30:¬ ((p1.system.vars.getD x14.toNat default).elem) = 98
          ·rw [iP h30] at hm;refine ag rfl (bne_iff_ne.2 h30) ?_;refine am [0,3,4,48,49,50,62,63,64,65] ?_;have ho31:=aA hm hr3;subst ho31;replace hm:some (aw.mk 10 (IntKind.wrap .i64 ((-2) - x14))) = some r:=hm3;refine aj ?_;refine av (ab (ah (aG (ab (av ?_)))))
           cases hm
           exact kr 1
          ·rw [iN h30] at hm;refine ai rfl (bne_eq_false_iff_eq.2 (Decidable.not_not.1 h30)) ?_;refine aq ?_;refine ax () () hm ?_;exact ls
         ·rw [iN h29] at hm;have h29b:(((p1.system.vars.getD x14.toNat default).elem) != 105) = false:=bne_eq_false_iff_eq.2 (Decidable.not_not.1 h29);refine aa ?_;refine gox h29b ?_;refine hk _ _ ?_;clear hk hp k kp;refine ai rfl rfl ?_;refine aq ?_;refine ax () () hm ?_;exact ls
        ·rintro _ _ hm;replace hm:dz p1 x14 = some r3:=hm;refine aJ ?_;unfold dz at hm;refine bx [4,66,67,68,69,70,71,72] fun k kp hk hp=>?_;refine an 4 ?_;refine go ?_
         by_cases h25:((p1.system.vars.getD x14.toNat default).n) < 0
         ·rw [iP h25] at hm;have h25b:=dT h25;refine aa ?_;refine gox h25b ?_;refine hk _ _ ?_;clear hk hp k kp;refine ag rfl rfl ?_;refine am [0,3,48,49,50,73,74,75,76] ?_;have ho26:=aA hm hr3;subst ho26;replace hm:some (aw.mk 13 (IntKind.wrap .i64 ((-2) - x14))) = some r:=hm3;refine aj ?_;refine ab (ah (aG (ab (av ?_))))
          cases hm
          exact kr 1
         ·rw [iN h25] at hm;have h25b:=dF h25;refine aa ?_;refine gox h25b ?_;refine hk _ _ ?_;clear hk hp k kp
          by_cases h27:((p1.system.vars.getD x14.toNat default).n) > 300
          ·rw [iP h27] at hm;refine ag rfl (dT h27) ?_;refine am [0,3,48,49,50,73,74,75,76] ?_;have ho28:=aA hm hr3;subst ho28;replace hm:some (aw.mk 13 (IntKind.wrap .i64 ((-2) - x14))) = some r:=hm3;refine aj ?_;refine ab (ah (aG (ab (av ?_))))
           cases hm
           exact kr 1
          ·rw [iN h27] at hm;refine ai rfl (dF h27) ?_;refine aq ?_;refine au ?_;refine ak (hk8 _ _ ?_);refine bn ?_;refine aC (IntKind.wrap .i64 (x14 + 1)) () hm ?_;exact ls
       ·rw [iN h23] at hm;refine ai rfl (dF h23) ?_;refine bq ?_;have ho32:=aA hm hr3;subst ho32;replace hm:cX p1 = some r:=hm3;refine bb (aQ (aF ?_));refine ax () () hm ?_;exact ls
     ·rintro _ _ hm;replace hm:cX p1 = some r:=hm;refine aJ ?_;unfold cX at hm;refine aK (S:=Unit) (V:=Unit) [5,6,78,79,80,81,82,83,84,85,86,87,88,89,90,91,92,93,94,95,96,97,98,99,100,101,102,103,104] (fun _ _=>[]) (fun _ _=>[.box [.tree 2 (p1.system.vars.map ao.enc),.tree 1 (p1.system.in_.map (eK .i64)),.tree 1 (p1.system.out_.map (eK .i64)),.tree 6 (p1.system.rules.map af.enc),.int .i64 p1.code],.box [.int .i64 0,.int .i64 0]]) (fun _=>dy p1 = some r) ?_ ?_
      ·skip;refine am [78,79,80,81] ?_
       refine az ?_;obtain ⟨o2,hl2,hm2⟩:=bd hm;refine be (S:=Int) (V:=Unit) (O:=Unit ⊕ aw) [5,6,84,85,86,87,88,89,90,91,92,93,94,95,96,97,98,99,100,101,102,103,104] (fun x8 _=>[(84,.c (.int .i64 x8))]) (fun x8 _=>[.box [.tree 2 (p1.system.vars.map ao.enc),.tree 1 (p1.system.in_.map (eK .i64)),.tree 1 (p1.system.out_.map (eK .i64)),.tree 6 (p1.system.rules.map af.enc),.int .i64 p1.code],.box [.int .i64 0,.int .i64 0]]) _ _ () hl2 ?_ ?_
       ·exact ls
       ·rintro x8 _ r2 hm hr2;replace hm:fI p1 x8 = some r2:=hm;refine aJ ?_;unfold fI at hm;refine am [] ?_;refine ap fun k4 hk4=>?_
        by_cases h12:x8 < (p1.system.in_.length:Int)
        ·rw [iP h12] at hm;refine ag rfl (dT h12) ?_;refine aq ?_;refine ak (hk4 _ _ ?_);refine ap fun k5 hk5=>?_;refine az ?_;obtain ⟨hg13a,hm⟩:=gd hm;refine bj (em (eK .i64) p1.system.in_ x8.toNat) [85,86,87,88] ?_;refine ap fun k6 hk6=>?_;refine aI [89,90,91] fun k kp hk hp=>?_;refine go ?_;obtain ⟨y9,hc14,hm⟩:=bd hm;refine RA (ji (p1.system.in_.getD x8.toNat default) p1  _ hc14) [0] ?_;rintro p σ' ⟨rfl,rfl⟩ _;refine aa ?_;refine go ?_;refine hk _ _ ?_;clear hk hp k kp
         by_cases h16:y9 = true
         ·rw [iP h16] at hm;refine ai rfl (by rw [show y9 = true from (h16)];rfl) ?_;refine aq ?_;refine ak (hk6 _ _ ?_);obtain ⟨hg17a,hm⟩:=gd hm;refine aI [5,6,92,94,95,96,97,98,99,100,101] fun k kp hk hp=>?_;refine go ?_;obtain ⟨y10,hc18,hm⟩:=bd hm;refine RP (fun _=>lL (p1.system.in_.take x8.toNat) (p1.system.in_.getD x8.toNat default) _ hc18) ?_;refine aa ?_;refine go ?_;refine hk _ _ ?_;clear hk hp k kp
          by_cases h19:y10 = true
          ·rw [iP h19] at hm;refine ag rfl (h19) ?_;refine am [0,82,83,84,102,103] ?_;have ho20:=aA hm hr2;subst ho20;replace hm:some (aw.mk 8 (-1)) = some r:=hm2;refine aj ?_;refine ab (ah (aG (ab (av ?_))))
           cases hm
           exact kr 1
          ·rw [iN h19] at hm;refine ai rfl (fB h19) ?_;refine aq ?_;refine au ?_;refine ak (hk5 _ _ ?_);refine bn ?_;refine aC (IntKind.wrap .i64 (x8 + 1)) () hm ?_;exact ls
         ·rw [iN h16] at hm;refine ag rfl (by rw [show y9 = false from (fB h16)];rfl) ?_;refine am [0,5,6,82,83,84,92,93] ?_;have ho21:=aA hm hr2;subst ho21;replace hm:some (aw.mk 16 (-1)) = some r:=hm2;refine aj ?_;refine ah (ab (ah (aG (ab (av ?_)))))
          cases hm
          exact kr 1
        ·rw [iN h12] at hm;refine ai rfl (dF h12) ?_;refine bq ?_;have ho22:=aA hm hr2;subst ho22;replace hm:dy p1 = some r:=hm2;refine bb (aQ (aF ?_));refine ax () () hm ?_;exact ls
      ·rintro _ _ hm;replace hm:dy p1 = some r:=hm;refine aJ ?_;unfold dy at hm;refine aK (S:=Unit) (V:=Unit) [0,8,105,106,107,108,109,110,111,112,113,114,115,116,117,118,119,120] (fun _ _=>[]) (fun _ _=>[.box [.tree 2 (p1.system.vars.map ao.enc),.tree 1 (p1.system.in_.map (eK .i64)),.tree 1 (p1.system.out_.map (eK .i64)),.tree 6 (p1.system.rules.map af.enc),.int .i64 p1.code],.box [.int .i64 0,.int .i64 0]]) (fun _=>fG = some r) ?_ ?_
       ·skip;refine am [105,106,107,108] ?_
        refine az ?_;obtain ⟨o1,hl1,hm1⟩:=bd hm;refine be (S:=Int) (V:=Unit) (O:=Unit ⊕ aw) [8,111,112,113,114,115,116,117,118,119,120] (fun x3 _=>[(111,.c (.int .i64 x3))]) (fun x3 _=>[.box [.tree 2 (p1.system.vars.map ao.enc),.tree 1 (p1.system.in_.map (eK .i64)),.tree 1 (p1.system.out_.map (eK .i64)),.tree 6 (p1.system.rules.map af.enc),.int .i64 p1.code],.box [.int .i64 0,.int .i64 0]]) _ _ () hl1 ?_ ?_
        ·exact ls
        ·rintro x3 _ r1 hm hr1;replace hm:fH p1 x3 = some r1:=hm;refine aJ ?_;unfold fH at hm;refine am [] ?_;refine ap fun k2 hk2=>?_
         by_cases h5:x3 < (p1.system.out_.length:Int)
         ·rw [iP h5] at hm;refine ag rfl (dT h5) ?_;refine aq ?_;refine ak (hk2 _ _ ?_);refine ap fun k3 hk3=>?_;refine az ?_;obtain ⟨hg6a,hm⟩:=gd hm;refine bj (em (eK .i64) p1.system.out_ x3.toNat) [112,113,114] ?_;refine aI [8,115,116,117] fun k kp hk hp=>?_;refine go ?_;obtain ⟨y4,hc7,hm⟩:=bd hm;refine RA (ji (p1.system.out_.getD x3.toNat default) p1  _ hc7) [0] ?_;rintro p σ' ⟨rfl,rfl⟩ _;refine aa ?_;refine go ?_;refine hk _ _ ?_;clear hk hp k kp
          by_cases h9:y4 = true
          ·rw [iP h9] at hm;refine ai rfl (by rw [show y4 = true from (h9)];rfl) ?_;refine aq ?_;refine au ?_;refine ak (hk3 _ _ ?_);refine bn ?_;refine aC (IntKind.wrap .i64 (x3 + 1)) () hm ?_;exact ls
          ·rw [iN h9] at hm;refine ag rfl (by rw [show y4 = false from (fB h9)];rfl) ?_;refine am [0,109,110,111,118,119] ?_;have ho10:=aA hm hr1;subst ho10;replace hm:some (aw.mk 16 (-1)) = some r:=hm1;refine aj ?_;refine ab (ah (aG (ab (av ?_))))
           cases hm
           exact kr 1
         ·rw [iN h5] at hm;refine ai rfl (dF h5) ?_;refine bq ?_;have ho11:=aA hm hr1;subst ho11;replace hm:fG = some r:=hm1;refine bb (aQ (aF ?_));refine ax () () hm ?_;exact ls
       ·rintro _ _ hm;replace hm:fG = some r:=hm;refine aJ ?_;unfold fG at hm;refine am [121] ?_;refine aj ?_
        cases hm
        exact kr 1
theorem da (p1:Bool) (p2:Int) (p3:aB) (r:Int) (hm:bQ p1 p2 p3 = some r):eD Try.prog 91 [.c (.optr 0 0),.c (.bool p1),.c (.int .i64 p2)] [.box [.tree 2 (p3.system.vars.map ao.enc),.tree 1 (p3.system.in_.map (eK .i64)),.tree 1 (p3.system.out_.map (eK .i64)),.tree 6 (p3.system.rules.map af.enc),.int .i64 p3.code]] (fun p σ=>(p = .t []∧σ = [.box [.tree 2 (p3.system.vars.map ao.enc),.tree 1 (p3.system.in_.map (eK .i64)),.tree 1 (p3.system.out_.map (eK .i64)),.tree 6 (p3.system.rules.map af.enc),.int .i64 r]])) (fun _ _=>False):=by
 refine aM 18 [] Try.func91 rfl rfl rfl (by kernel_rfl) (by simp) ?_;refine bP ?_;unfold bQ at hm
 by_cases h1:p1 = true
 ·rw [iP h1] at hm;have h1b:=h1;refine bj h1b [1,6,7,8,9,10,11,12] ?_
  by_cases h2:p3.code = 0
  ·rw [iP h2] at hm;refine ag rfl (eQ h2) ?_;refine bn ?_
   cases hm
   exact kn 1
  ·rw [iN h2] at hm;refine ai rfl (nB h2) ?_;refine aq ?_
   cases hm
   exact kn 1
 ·rw [iN h1] at hm;have h1b:=fB h1;refine bj h1b [1,6,7,8,9,10,11,12] ?_;refine ai rfl rfl ?_;refine aq ?_
  cases hm
  exact kn 1
theorem qc (p1:Int) (r:Int) (hm:lj p1 = some r):cd Try.prog 92 [.c (.int .i64 p1)] (.c (.int .i64 r)):=by
  refine aM 12 [.tmp 2] Try.func92 rfl rfl rfl (by kernel_rfl) (by simp) ?_;refine nC (by simp only [i6,Env.ofList,List.length_nil,List.length_cons,bE,Nat.reduceDiv,Nat.reduceMod,Nat.reduceLT,Nat.reduceLeDiff,Nat.reduceAdd,Nat.reduceSub,Nat.reduceMul,Nat.reduceEqDiff,Nat.reduceBEq,Nat.reduceBNe,Nat.reduceGT,Int.reduceToNat];rfl) rfl ?_;unfold lj at hm;refine aI [2] fun k kp hk hp=>?_;simp only [bR,bT,tab,bX,reduceIte,↓reduceIte,reduceCtorEq,Int.reduceToNat,Nat.reduceDiv,Nat.reduceMod,Nat.reduceLT,Nat.reduceLeDiff,Nat.reduceAdd,Nat.reduceSub,Nat.reduceMul,Nat.reduceEqDiff,Nat.reduceBEq,Nat.reduceBNe,Nat.reduceGT]
  repeat refine ⟨by first | omega | assumption | decide | exact cy fun _=>rfl | (intro _;omega) | rfl | exact fun e=>absurd (List.map_eq_nil_iff.1 e) (by assumption) | (and_intros <;> first | omega | assumption | decide | exact cy fun _=>rfl),?_⟩
  refine hk _ _ ?_;clear hk hp k kp;refine ap fun k1 hk1=>?_
  by_cases h1:p1 < 1
  · rw [iP h1] at hm
    have h1b:=dT h1;refine aI [3,4,5,6,7] fun k kp hk hp=>?_;simp only [bR,bT,tab,bX,reduceIte,↓reduceIte,reduceCtorEq,Int.reduceToNat,Nat.reduceDiv,Nat.reduceMod,Nat.reduceLT,Nat.reduceLeDiff,Nat.reduceAdd,Nat.reduceSub,Nat.reduceMul,Nat.reduceEqDiff,Nat.reduceBEq,Nat.reduceBNe,Nat.reduceGT,h1b]
    repeat refine ⟨by first | omega | assumption | decide | exact cy fun _=>rfl | (intro _;omega) | rfl | exact fun e=>absurd (List.map_eq_nil_iff.1 e) (by assumption) | (and_intros <;> first | omega | assumption | decide | exact cy fun _=>rfl),?_⟩
    refine hk _ _ ?_;clear hk hp k kp;refine ag rfl rfl ?_;refine aI [0,8] fun k kp hk hp=>?_;simp only [bR,bT,tab,bX,reduceIte,↓reduceIte,reduceCtorEq,Int.reduceToNat,Nat.reduceDiv,Nat.reduceMod,Nat.reduceLT,Nat.reduceLeDiff,Nat.reduceAdd,Nat.reduceSub,Nat.reduceMul,Nat.reduceEqDiff,Nat.reduceBEq,Nat.reduceBNe,Nat.reduceGT]
    repeat refine ⟨by first | omega | assumption | decide | exact cy fun _=>rfl | (intro _;omega) | rfl | exact fun e=>absurd (List.map_eq_nil_iff.1 e) (by assumption) | (and_intros <;> first | omega | assumption | decide | exact cy fun _=>rfl),?_⟩
    refine hk _ _ ?_;clear hk hp k kp;refine aj ?_;refine ah ?_
    cases hm
    exact kr 0
  · rw [iN h1] at hm
    have h1b:=dF h1;refine aI [3,4,5,6,7] fun k kp hk hp=>?_;simp only [bR,bT,tab,bX,reduceIte,↓reduceIte,reduceCtorEq,Int.reduceToNat,Nat.reduceDiv,Nat.reduceMod,Nat.reduceLT,Nat.reduceLeDiff,Nat.reduceAdd,Nat.reduceSub,Nat.reduceMul,Nat.reduceEqDiff,Nat.reduceBEq,Nat.reduceBNe,Nat.reduceGT,h1b]
    repeat refine ⟨by first | omega | assumption | decide | exact cy fun _=>rfl | (intro _;omega) | rfl | exact fun e=>absurd (List.map_eq_nil_iff.1 e) (by assumption) | (and_intros <;> first | omega | assumption | decide | exact cy fun _=>rfl),?_⟩
    refine hk _ _ ?_;clear hk hp k kp
    by_cases h2:p1 > 16
    · rw [iP h2] at hm
      refine ag rfl (dT h2) ?_;refine aI [0,8] fun k kp hk hp=>?_;simp only [bR,bT,tab,bX,reduceIte,↓reduceIte,reduceCtorEq,Int.reduceToNat,Nat.reduceDiv,Nat.reduceMod,Nat.reduceLT,Nat.reduceLeDiff,Nat.reduceAdd,Nat.reduceSub,Nat.reduceMul,Nat.reduceEqDiff,Nat.reduceBEq,Nat.reduceBNe,Nat.reduceGT]
      repeat refine ⟨by first | omega | assumption | decide | exact cy fun _=>rfl | (intro _;omega) | rfl | exact fun e=>absurd (List.map_eq_nil_iff.1 e) (by assumption) | (and_intros <;> first | omega | assumption | decide | exact cy fun _=>rfl),?_⟩
      refine hk _ _ ?_;clear hk hp k kp;refine aj ?_;refine ah ?_
      cases hm
      exact kr 0
    · rw [iN h2] at hm
      refine ai rfl (dF h2) ?_;refine aq ?_;refine ak (hk1 _ _ ?_);obtain ⟨hg3a,hm⟩:=gd hm;refine bx [0,8,9,10,11] fun k kp hk hp=>?_;refine an 2 ?_;simp only [bR,bT,tab,bX,reduceIte,↓reduceIte,reduceCtorEq,Int.reduceToNat,Nat.reduceDiv,Nat.reduceMod,Nat.reduceLT,Nat.reduceLeDiff,Nat.reduceAdd,Nat.reduceSub,Nat.reduceMul,Nat.reduceEqDiff,Nat.reduceBEq,Nat.reduceBNe,Nat.reduceGT,List.replicate,List.foldr]
      repeat refine ⟨by first | omega | assumption | decide | exact cy fun _=>rfl | (intro _;omega) | rfl | exact fun e=>absurd (List.map_eq_nil_iff.1 e) (by assumption) | (and_intros <;> first | omega | assumption | decide | exact cy fun _=>rfl),?_⟩
      refine pX (AM (lit ([0,0,1,1,2,3,2,2,1,3,3,1,2,2,0,1,1]:List Int)) 17 rfl (by first | rfl | (simp only [bR,bT,tab,bX,reduceIte,↓reduceIte,reduceCtorEq,Int.reduceToNat,Nat.reduceDiv,Nat.reduceMod,Nat.reduceLT,Nat.reduceLeDiff,Nat.reduceAdd,Nat.reduceSub,Nat.reduceMul,Nat.reduceEqDiff,Nat.reduceBEq,Nat.reduceBNe,Nat.reduceGT];done)) (by first | rfl | (simp only [bR,bT,tab,bX,reduceIte,↓reduceIte,reduceCtorEq,Int.reduceToNat,Nat.reduceDiv,Nat.reduceMod,Nat.reduceLT,Nat.reduceLeDiff,Nat.reduceAdd,Nat.reduceSub,Nat.reduceMul,Nat.reduceEqDiff,Nat.reduceBEq,Nat.reduceBNe,Nat.reduceGT];done)) (by unfold lit;rfl) (by first | kernel_rfl | exact of_decide_eq_true (by kernel_rfl)) (by first | kernel_rfl | exact of_decide_eq_true (by kernel_rfl)) (by kernel_rfl) (by omega) (by omega)) (by first | rfl | (simp only [bR,bT,tab,bX,reduceIte,↓reduceIte,reduceCtorEq,Int.reduceToNat,Nat.reduceDiv,Nat.reduceMod,Nat.reduceLT,Nat.reduceLeDiff,Nat.reduceAdd,Nat.reduceSub,Nat.reduceMul,Nat.reduceEqDiff,Nat.reduceBEq,Nat.reduceBNe,Nat.reduceGT];done)) (by first | trivial | exact kQ rfl) ?_
      simp only [bR,bT,tab,bX,reduceIte,↓reduceIte,reduceCtorEq,Int.reduceToNat,Nat.reduceDiv,Nat.reduceMod,Nat.reduceLT,Nat.reduceLeDiff,Nat.reduceAdd,Nat.reduceSub,Nat.reduceMul,Nat.reduceEqDiff,Nat.reduceBEq,Nat.reduceBNe,Nat.reduceGT];refine aa ?_;simp only [bR,bT,tab,bX,reduceIte,↓reduceIte,reduceCtorEq,Int.reduceToNat,Nat.reduceDiv,Nat.reduceMod,Nat.reduceLT,Nat.reduceLeDiff,Nat.reduceAdd,Nat.reduceSub,Nat.reduceMul,Nat.reduceEqDiff,Nat.reduceBEq,Nat.reduceBNe,Nat.reduceGT]
      repeat refine ⟨by first | omega | assumption | decide | exact cy fun _=>rfl | (intro _;omega) | rfl | exact fun e=>absurd (List.map_eq_nil_iff.1 e) (by assumption) | (and_intros <;> first | omega | assumption | decide | exact cy fun _=>rfl),?_⟩
      refine hk _ _ ?_;clear hk hp k kp;refine aj ?_
      cases hm
      exact kr 0
theorem ma (p1:Int) (r:(Int×Int×Int)) (hm:ky p1 = some r):cd Try.prog 103 [.c (.int .i64 p1)] (.t [.c (.int .u8 r.1),.c (.int .u8 r.2.1),.c (.int .i64 r.2.2)]):=by
 refine aM 32 [.tmp 2,.tmp 3,.tmp 4] Try.func103 rfl rfl rfl (by kernel_rfl) (by simp) ?_;refine bP ?_;unfold ky at hm;refine am [2,3,4] ?_;refine ap fun k1 hk1=>?_;refine az ?_
 by_cases h1:p1 ≥ 1
 ·rw [iP h1] at hm;have h1b:=dT h1;refine bj h1b [6,7,8,9,10,11] ?_
  by_cases h2:p1 ≤ 7
  ·rw [iP h2] at hm;refine ag rfl (dT h2) ?_;refine am [0,5] ?_;refine aj ?_;refine ab (ah ?_)
   cases hm
   exact kr 0
  ·rw [iN h2] at hm;refine ai rfl (dF h2) ?_
   by_cases h3:p1 = 8
   ·rw [iP h3] at hm;have h3b:=eQ h3;refine bj h3b [5,13,14,15,16,17,18] ?_;refine ag rfl rfl ?_;refine am [0,12] ?_;refine aj ?_;refine ab (ah ?_)
    cases hm
    exact kr 0
   ·rw [iN h3] at hm;have h3b:=nB h3;refine bj h3b [5,13,14,15,16,17,18] ?_
    by_cases h4:p1 = 9
    ·rw [iP h4] at hm;refine ag rfl (eQ h4) ?_;refine am [0,12] ?_;refine aj ?_;refine ab (ah ?_)
     cases hm
     exact kr 0
    ·rw [iN h4] at hm;refine ai rfl (nB h4) ?_
     by_cases h5:p1 ≥ 10
     ·rw [iP h5] at hm;have h5b:=dT h5;refine bj h5b [12,20,21,22,23,24,25] ?_
      by_cases h6:p1 ≤ 12
      ·rw [iP h6] at hm;refine ag rfl (dT h6) ?_;refine am [0,19] ?_;refine aj ?_;refine ab (ah ?_)
       cases hm
       exact kr 0
      ·rw [iN h6] at hm;refine ai rfl (dF h6) ?_;refine am [19,27,28] ?_
       by_cases h7:p1 = 13
       ·rw [iP h7] at hm;refine ag rfl (eQ h7) ?_;refine am [0,26] ?_;refine aj ?_;refine ab (ah ?_)
        cases hm
        exact kr 0
       ·rw [iN h7] at hm;refine ai rfl (nB h7) ?_;refine am [0,26,30,31] ?_
        by_cases h8:p1 = 14
        ·rw [iP h8] at hm;refine ag rfl (eQ h8) ?_;refine am [29] ?_;refine aj ?_;refine ab (ah ?_)
         cases hm
         exact kr 0
        ·rw [iN h8] at hm;refine ai rfl (nB h8) ?_;refine aq ?_;refine au ?_;refine ak (hk1 _ _ ?_);refine am [29] ?_;refine aj ?_
         cases hm
         exact kr 0
     ·rw [iN h5] at hm;have h5b:=dF h5;refine bj h5b [12,20,21,22,23,24,25] ?_;refine ai rfl rfl ?_;refine am [19,27,28] ?_
      by_cases h9:p1 = 13
      ·rw [iP h9] at hm;refine ag rfl (eQ h9) ?_;refine am [0,26] ?_;refine aj ?_;refine ab (ah ?_)
       cases hm
       exact kr 0
      ·rw [iN h9] at hm;refine ai rfl (nB h9) ?_;refine am [0,26,30,31] ?_
       by_cases h10:p1 = 14
       ·rw [iP h10] at hm;refine ag rfl (eQ h10) ?_;refine am [29] ?_;refine aj ?_;refine ab (ah ?_)
        cases hm
        exact kr 0
       ·rw [iN h10] at hm;refine ai rfl (nB h10) ?_;refine aq ?_;refine au ?_;refine ak (hk1 _ _ ?_);refine am [29] ?_;refine aj ?_
        cases hm
        exact kr 0
 ·rw [iN h1] at hm;have h1b:=dF h1;refine bj h1b [6,7,8,9,10,11] ?_;refine ai rfl rfl ?_
  by_cases h11:p1 = 8
  ·rw [iP h11] at hm;have h11b:=eQ h11;refine bj h11b [5,13,14,15,16,17,18] ?_;refine ag rfl rfl ?_;refine am [0,12] ?_;refine aj ?_;refine ab (ah ?_)
   cases hm
   exact kr 0
  ·rw [iN h11] at hm;have h11b:=nB h11;refine bj h11b [5,13,14,15,16,17,18] ?_
   by_cases h12:p1 = 9
   ·rw [iP h12] at hm;refine ag rfl (eQ h12) ?_;refine am [0,12] ?_;refine aj ?_;refine ab (ah ?_)
    cases hm
    exact kr 0
   ·rw [iN h12] at hm;refine ai rfl (nB h12) ?_
    by_cases h13:p1 ≥ 10
    ·rw [iP h13] at hm;have h13b:=dT h13;refine bj h13b [12,20,21,22,23,24,25] ?_
     by_cases h14:p1 ≤ 12
     ·rw [iP h14] at hm;refine ag rfl (dT h14) ?_;refine am [0,19] ?_;refine aj ?_;refine ab (ah ?_)
      cases hm
      exact kr 0
     ·rw [iN h14] at hm;refine ai rfl (dF h14) ?_;refine am [19,27,28] ?_
      by_cases h15:p1 = 13
      ·rw [iP h15] at hm;refine ag rfl (eQ h15) ?_;refine am [0,26] ?_;refine aj ?_;refine ab (ah ?_)
       cases hm
       exact kr 0
      ·rw [iN h15] at hm;refine ai rfl (nB h15) ?_;refine am [0,26,30,31] ?_
       by_cases h16:p1 = 14
       ·rw [iP h16] at hm;refine ag rfl (eQ h16) ?_;refine am [29] ?_;refine aj ?_;refine ab (ah ?_)
        cases hm
        exact kr 0
       ·rw [iN h16] at hm;refine ai rfl (nB h16) ?_;refine aq ?_;refine au ?_;refine ak (hk1 _ _ ?_);refine am [29] ?_;refine aj ?_
        cases hm
        exact kr 0
    ·rw [iN h13] at hm;have h13b:=dF h13;refine bj h13b [12,20,21,22,23,24,25] ?_;refine ai rfl rfl ?_;refine am [19,27,28] ?_
     by_cases h17:p1 = 13
     ·rw [iP h17] at hm;refine ag rfl (eQ h17) ?_;refine am [0,26] ?_;refine aj ?_;refine ab (ah ?_)
      cases hm
      exact kr 0
     ·rw [iN h17] at hm;refine ai rfl (nB h17) ?_;refine am [0,26,30,31] ?_
      by_cases h18:p1 = 14
      ·rw [iP h18] at hm;refine ag rfl (eQ h18) ?_;refine am [29] ?_;refine aj ?_;refine ab (ah ?_)
       cases hm
       exact kr 0
      ·rw [iN h18] at hm;refine ai rfl (nB h18) ?_;refine aq ?_;refine au ?_;refine ak (hk1 _ _ ?_);refine am [29] ?_;refine aj ?_
       cases hm
       exact kr 0
theorem qd (p1:List Int) (p2:aB) (r:Bool) (hm:iw p1 p2 = some r):eD Try.prog 104 [.c (.optr 0 0),.c (.tree 1 (p1.map (eK .i64)))] [.box [.tree 2 (p2.system.vars.map ao.enc),.tree 1 (p2.system.in_.map (eK .i64)),.tree 1 (p2.system.out_.map (eK .i64)),.tree 6 (p2.system.rules.map af.enc),.int .i64 p2.code]] (fun p σ=>(p = .c (.bool r)∧σ = [.box [.tree 2 (p2.system.vars.map ao.enc),.tree 1 (p2.system.in_.map (eK .i64)),.tree 1 (p2.system.out_.map (eK .i64)),.tree 6 (p2.system.rules.map af.enc),.int .i64 p2.code]])) (fun _ _=>False):=by
 refine aM 33 [.tmp 4] Try.func104 rfl rfl rfl (by kernel_rfl) (by simp) ?_;refine bP ?_;unfold iw at hm;refine am [4] ?_;refine aK (S:=Unit) (V:=Unit) [0,1,4,6,7,8,9,10,11,12,13,14,15,16,17,18,19,20,21,22,23,24,25,26,27,28,29,30,31,32] (fun _ _=>[]) (fun _ _=>[.box [.tree 2 (p2.system.vars.map ao.enc),.tree 1 (p2.system.in_.map (eK .i64)),.tree 1 (p2.system.out_.map (eK .i64)),.tree 6 (p2.system.rules.map af.enc),.int .i64 p2.code]]) (fun _=>fJ = some r) ?_ ?_
 ·skip;refine am [] ?_
  refine az ?_;obtain ⟨o1,hl1,hm1⟩:=bd hm;refine be (S:=Int) (V:=Unit) (O:=Unit ⊕ Bool) [4,6,9,10,11,12,13,14,15,16,17,18,19,20,21,22,23,24,25,26,27,28,29,30,31,32] (fun x3 _=>[(9,.c (.int .i64 x3))]) (fun x3 _=>[.box [.tree 2 (p2.system.vars.map ao.enc),.tree 1 (p2.system.in_.map (eK .i64)),.tree 1 (p2.system.out_.map (eK .i64)),.tree 6 (p2.system.rules.map af.enc),.int .i64 p2.code]]) _ _ () hl1 ?_ ?_
  ·exact ls
  ·rintro x3 _ r1 hm hr1;replace hm:fK p1 p2 x3 = some r1:=hm;refine aJ ?_;unfold fK at hm;refine am [] ?_;refine ap fun k1 hk1=>?_
   by_cases h1:x3 < (p1.length:Int)
   ·rw [iP h1] at hm;refine ag rfl (dT h1) ?_;refine aq ?_;refine ak (hk1 _ _ ?_);refine ap fun k2 hk2=>?_;refine az ?_;obtain ⟨hg2a,hm⟩:=gd hm;refine bj (em (eK .i64) p1 x3.toNat) [10,11,12] ?_;obtain ⟨⟨hg3a,hg3b,hg3c⟩,hm⟩:=gd hm;refine lE (a2 (em ao.enc p2.system.vars ((p1.getD x3.toNat default).toNat)) (a2 (em (eK .i64) p1 0) (em ao.enc p2.system.vars ((p1.getD 0 default).toNat)))) [6,13,14,15,16,17,18,19,20,21,22,23,24,25,26,27,28,29,30] [0,1,3,7,15,0,63,127,0,256,768,1792,3840,0,8192,24576,65280,130816,262143] [false,false,false,false,false,false,false,false,false,false,false,false,false,false,false,false,false,false,true] ?_
    by_cases h4:((p2.system.vars.getD ((p1.getD x3.toNat default).toNat) default).elem) = ((p2.system.vars.getD ((p1.getD 0 default).toNat) default).elem)∧((p2.system.vars.getD ((p1.getD x3.toNat default).toNat) default).n) = ((p2.system.vars.getD ((p1.getD 0 default).toNat) default).n)
    ·rw [iP h4] at hm;refine ai rfl (by rw [show ((((p2.system.vars.getD ((p1.getD x3.toNat default).toNat) default).elem) == ((p2.system.vars.getD ((p1.getD 0 default).toNat) default).elem)) && (((p2.system.vars.getD ((p1.getD x3.toNat default).toNat) default).n) == ((p2.system.vars.getD ((p1.getD 0 default).toNat) default).n))) = true from (by simpa [Bool.and_eq_true] using h4)];rfl) ?_;refine aq ?_;refine au ?_;refine ak (hk2 _ _ ?_);refine bn ?_;refine aC (IntKind.wrap .i64 (x3 + 1)) () hm ?_;exact ls
    ·rw [iN h4] at hm;refine ag rfl (by rw [show ((((p2.system.vars.getD ((p1.getD x3.toNat default).toNat) default).elem) == ((p2.system.vars.getD ((p1.getD 0 default).toNat) default).elem)) && (((p2.system.vars.getD ((p1.getD x3.toNat default).toNat) default).n) == ((p2.system.vars.getD ((p1.getD 0 default).toNat) default).n))) = false from (fB (fun hh=>h4 (by simpa [Bool.and_eq_true] using hh)))];rfl) ?_;refine am [0,1,7,8,9,31] ?_;have ho5:=aA hm hr1;subst ho5;replace hm:some false = some r:=hm1;refine aj ?_;refine ab (ah (aG (ab (av ?_))))
     cases hm
     exact kr 1
   ·rw [iN h1] at hm;refine ai rfl (dF h1) ?_;refine bq ?_;have ho6:=aA hm hr1;subst ho6;replace hm:fJ = some r:=hm1;refine bb (aQ (aF ?_));refine ax () () hm ?_;exact ls
 ·rintro _ _ hm;replace hm:fJ = some r:=hm;refine aJ ?_;unfold fJ at hm;refine am [] ?_;refine aj ?_
  cases hm
  exact kr 1
theorem jd (p1:Int) (r:ao) (hm:gL p1 = some r):cd Try.prog 105 [.c (.int .u8 p1)] (.a [.int .u8 ((r).elem),.int .i64 ((r).n)]):=by
 refine aM 5 [.cell 2 50] Try.func105 rfl rfl rfl (by kernel_rfl) (by simp) ?_;refine bP ?_;unfold gL at hm;refine am [] ?_;refine am [0,3,4] ?_;refine aj ?_
 cases hm
 exact kr 0
theorem kS (p1:aB) (p2:List Int) (v1_:Nat) (r:Bool) (hm:eZ p1 p2 = some r):eD Try.prog 104 [.c (.optr 0 0),.c (.osl 1 v1_ 0 p2.length)] [.box [.tree 2 (p1.system.vars.map ao.enc),.tree 1 (p1.system.in_.map (eK .i64)),.tree 1 (p1.system.out_.map (eK .i64)),.tree 6 (p1.system.rules.map af.enc),.int .i64 p1.code],.arr 1 v1_ 3 (p2.map (eK .i64))] (fun p σ=>(p = .c (.bool r)∧σ = [.box [.tree 2 (p1.system.vars.map ao.enc),.tree 1 (p1.system.in_.map (eK .i64)),.tree 1 (p1.system.out_.map (eK .i64)),.tree 6 (p1.system.rules.map af.enc),.int .i64 p1.code],.arr 1 v1_ 3 (p2.map (eK .i64))])) (fun _ _=>False):=by
 refine aM 33 [.tmp 4] Try.func104 rfl rfl rfl (by kernel_rfl) (by simp) ?_;refine bP ?_;unfold eZ at hm;refine am [4] ?_;refine aK (S:=Unit) (V:=Unit) [0,1,4,6,7,8,9,10,11,12,13,14,15,16,17,18,19,20,21,22,23,24,25,26,27,28,29,30,31,32] (fun _ _=>[]) (fun _ _=>[.box [.tree 2 (p1.system.vars.map ao.enc),.tree 1 (p1.system.in_.map (eK .i64)),.tree 1 (p1.system.out_.map (eK .i64)),.tree 6 (p1.system.rules.map af.enc),.int .i64 p1.code],.arr 1 v1_ 3 (p2.map (eK .i64))]) (fun _=>eF = some r) ?_ ?_
 ·skip;refine am [] ?_
  refine az ?_;obtain ⟨o1,hl1,hm1⟩:=bd hm;refine be (S:=Int) (V:=Unit) (O:=Unit ⊕ Bool) [1,4,6,7,9,10,11,12,13,14,15,16,17,18,19,20,21,22,23,24,25,26,27,28,29,30,31,32] (fun x3 _=>[(1,.c (.osl 1 v1_ 0 p2.length)),(7,.c (.osl 1 v1_ 0 p2.length)),(9,.c (.int .i64 x3))]) (fun x3 _=>[.box [.tree 2 (p1.system.vars.map ao.enc),.tree 1 (p1.system.in_.map (eK .i64)),.tree 1 (p1.system.out_.map (eK .i64)),.tree 6 (p1.system.rules.map af.enc),.int .i64 p1.code],.arr 1 v1_ 3 (p2.map (eK .i64))]) _ _ () hl1 ?_ ?_
  ·exact ls
  ·rintro x3 _ r1 hm hr1;replace hm:eG p1 p2 x3 = some r1:=hm;refine aJ ?_;unfold eG at hm;refine am [] ?_;refine ap fun k1 hk1=>?_
   by_cases h1:x3 < (p2.length:Int)
   ·rw [iP h1] at hm;refine ag rfl (dT h1) ?_;refine aq ?_;refine ak (hk1 _ _ ?_);refine ap fun k2 hk2=>?_;refine az ?_;obtain ⟨hg2a,hm⟩:=gd hm;refine bj (em (eK .i64) p2 x3.toNat) [10,11,12] ?_;obtain ⟨⟨hg3a,hg3b,hg3c⟩,hm⟩:=gd hm;refine lE (a2 (em ao.enc p1.system.vars ((p2.getD x3.toNat default).toNat)) (a2 (em (eK .i64) p2 0) (em ao.enc p1.system.vars ((p2.getD 0 default).toNat)))) [6,13,14,15,16,17,18,19,20,21,22,23,24,25,26,27,28,29,30] [0,1,3,7,15,0,63,127,0,256,768,1792,3840,0,8192,24576,65280,130816,262143] [false,false,false,false,false,false,false,false,false,false,false,false,false,false,false,false,false,false,true] ?_
    by_cases h4:((p1.system.vars.getD ((p2.getD x3.toNat default).toNat) default).elem) = ((p1.system.vars.getD ((p2.getD 0 default).toNat) default).elem)∧((p1.system.vars.getD ((p2.getD x3.toNat default).toNat) default).n) = ((p1.system.vars.getD ((p2.getD 0 default).toNat) default).n)
    ·rw [iP h4] at hm;refine ai rfl (by rw [show ((((p1.system.vars.getD ((p2.getD x3.toNat default).toNat) default).elem) == ((p1.system.vars.getD ((p2.getD 0 default).toNat) default).elem)) && (((p1.system.vars.getD ((p2.getD x3.toNat default).toNat) default).n) == ((p1.system.vars.getD ((p2.getD 0 default).toNat) default).n))) = true from (by simpa [Bool.and_eq_true] using h4)];rfl) ?_;refine aq ?_;refine au ?_;refine ak (hk2 _ _ ?_);refine bn ?_;refine aC (IntKind.wrap .i64 (x3 + 1)) () hm ?_;exact ls
    ·rw [iN h4] at hm;refine ag rfl (by rw [show ((((p1.system.vars.getD ((p2.getD x3.toNat default).toNat) default).elem) == ((p1.system.vars.getD ((p2.getD 0 default).toNat) default).elem)) && (((p1.system.vars.getD ((p2.getD x3.toNat default).toNat) default).n) == ((p1.system.vars.getD ((p2.getD 0 default).toNat) default).n))) = false from (fB (fun hh=>h4 (by simpa [Bool.and_eq_true] using hh)))];rfl) ?_;refine am [0,1,7,8,9,31] ?_;have ho5:=aA hm hr1;subst ho5;replace hm:some false = some r:=hm1;refine aj ?_;refine ab (ah (aG (ab (av ?_))))
     cases hm
     exact kr 2
   ·rw [iN h1] at hm;refine ai rfl (dF h1) ?_;refine bq ?_;have ho6:=aA hm hr1;subst ho6;replace hm:eF = some r:=hm1;refine bb (aQ (aF ?_));refine ax () () hm ?_;exact ls
 ·rintro _ _ hm;replace hm:eF = some r:=hm;refine aJ ?_;unfold eF at hm;refine am [] ?_;refine aj ?_
  cases hm
  exact kr 2
theorem lM (p1:Int) (r:Bool) (hm:ix p1 = some r):cd Try.prog 106 [.c (.int .i64 p1)] (.c (.bool r)):=by
 refine aM 19 [.tmp 2] Try.func106 rfl rfl rfl (by kernel_rfl) (by simp) ?_;refine bP ?_;unfold ix at hm;refine am [2] ?_;refine aI [0,6,7,8,9,10,11] fun k kp hk hp=>?_;refine go ?_;obtain ⟨y1,hc1,hm⟩:=bd hm;refine RP (fun _=>ma p1 _ hc1) ?_;refine aa ?_;refine go ?_;refine hk _ _ ?_;clear hk hp k kp
 by_cases h2:y1.2.2 = 2
 ·rw [iP h2] at hm;have h2b:=eQ h2;refine bj h2b [3,4,5,12,13,14,15,16,17,18] ?_;refine aj ?_
  cases hm
  exact kr 0
 ·rw [iN h2] at hm;have h2b:=nB h2;refine bj h2b [3,4,5,12,13,14,15,16,17,18] ?_;refine aj ?_
  cases hm
  exact kr 0
theorem qe (p1:Int) (p2:aB) (r:(ao×Bool)) (hm:iy p1 p2 = some r):eD Try.prog 107 [.c (.optr 0 0),.c (.int .i64 p1)] [.box [.tree 2 (p2.system.vars.map ao.enc),.tree 1 (p2.system.in_.map (eK .i64)),.tree 1 (p2.system.out_.map (eK .i64)),.tree 6 (p2.system.rules.map af.enc),.int .i64 p2.code]] (fun p σ=>(p = .t [.a [.int .u8 ((r.1).elem),.int .i64 ((r.1).n)],.c (.bool r.2)]∧σ = [.box [.tree 2 (p2.system.vars.map ao.enc),.tree 1 (p2.system.in_.map (eK .i64)),.tree 1 (p2.system.out_.map (eK .i64)),.tree 6 (p2.system.rules.map af.enc),.int .i64 p2.code]])) (fun _ _=>False):=by
 refine aM 26 [.cell 4 50,.tmp 5] Try.func107 rfl rfl rfl (by kernel_rfl) (by simp) ?_;refine bP ?_;unfold iy at hm;refine am [5] ?_;obtain ⟨hg1a,hm⟩:=gd hm;refine rH [0,1,6,7,8,9,10,11,12,13,14,15,16,17,18,19,20,21,22,23,24,25] (by kernel_rfl) [1] [0,1,3,7,15,0,63,127,255,511,0,1024,3072,7168,15360,0,64512,130048,261120,523264,1023,2097151] [false,false,false,false,false,false,false,false,false,false,false,false,false,false,false,false,false,false,false,false,false,true] [false,false,false,false,false,false,false,false,false,false,false,false,false,false,false,false,false,false,false,false,true,false] [[],[],[],[],[],[],[],[],[],[],[0],[16],[17],[18],[19],[1],[20,21],[22],[23],[24],[],[]] (by kernel_rfl) fun k hk=>?_;refine gpx (em ao.enc p2.system.vars p1.toNat) ?_;obtain ⟨y1,hc2,hm⟩:=bd hm;refine pap (fun _=>jd ((p2.system.vars.getD p1.toNat default).elem) _ hc2) ?_;refine gpx (em ao.enc p2.system.vars p1.toNat) ?_;refine hk _ _ ?_;clear hk k;refine aj ?_
 cases hm
 exact kr 1
theorem bY (p1:Int) (p2:List Int) (v1_:Nat) (r:Int) (hm:bz p1 p2 = some r):eD Try.prog 130 [.c (.int .i64 p1),.c (.optr 0 0)] [.box [.osl 1 v1_ 0 p2.length],.arr 1 v1_ 5 (p2.map (eK .u8))] (fun p σ=>(p = .c (.int .u8 r)∧σ = [.box [.osl 1 v1_ 0 p2.length],.arr 1 v1_ 5 (p2.map (eK .u8))])) (fun _ _=>False):=by
 refine aM 15 [.tmp 3] Try.func130 rfl rfl rfl (by kernel_rfl) (by simp) ?_;refine bP ?_;unfold bz at hm;refine am [3] ?_;refine ap fun k1 hk1=>?_;refine am [4,5,6] ?_
 by_cases h1:p1 > (p2.length:Int)
 ·rw [iP h1] at hm;refine ag rfl (dT h1) ?_;refine am [0,1,7] ?_;refine aj ?_;refine ah ?_
  cases hm
  exact kr 2
 ·rw [iN h1] at hm;refine ai rfl (dF h1) ?_;refine aq ?_;refine ak (hk1 _ _ ?_);obtain ⟨hg2a,hm⟩:=gd hm;refine bj (em (eK .u8) p2 ((IntKind.wrap .i64 ((p2.length:Int) - p1)).toNat)) [0,1,7,8,9,10,11,12,13,14] ?_;refine aj ?_
  cases hm
  exact kr 2
theorem oQ (p1:ay) (p2:Int) (p3:aB) (p4:List Int) (v1_:Nat) (r:(Int×Int×Bool)) (hm:aP p1 p2 p3 p4 = some r):eD Try.prog 128 [.c (.optr 0 0),.a [.int .i64 p1.op,.int .i64 p1.k,.int .i64 p1.v,.int .i64 p1.n],.c (.int .i64 p2),.c (.osl 1 v1_ 0 p4.length)] [.box [.tree 2 (p3.system.vars.map ao.enc),.tree 1 (p3.system.in_.map (eK .i64)),.tree 1 (p3.system.out_.map (eK .i64)),.tree 6 (p3.system.rules.map af.enc),.int .i64 p3.code],.arr 1 v1_ 5 (p4.map (eK .u8))] (fun p σ=>(p = .t [.c (.int .i64 r.1),.c (.int .u8 r.2.1),.c (.bool r.2.2)]∧σ = [.box [.tree 2 (p3.system.vars.map ao.enc),.tree 1 (p3.system.in_.map (eK .i64)),.tree 1 (p3.system.out_.map (eK .i64)),.tree 6 (p3.system.rules.map af.enc),.int .i64 p3.code],.arr 1 v1_ 5 (p4.map (eK .u8))])) (fun _ _=>False):=by
 refine aM 180 [.tmp 8,.tmp 9,.tmp 10] Try.func128 rfl rfl rfl (by kernel_rfl) (by simp) ?_;refine bP ?_;unfold aP at hm;refine am [1,3,8,9,10] ?_;refine am [7,17] ?_;refine ap fun k1 hk1=>?_;refine am [18] ?_;refine az ?_;refine am [21] ?_
 by_cases h1:p1.op = 1
 ·rw [iP h1] at hm;refine ag rfl (eQ h1) ?_;refine ap fun k2 hk2=>?_;refine am [0,2,11,19,20,22,23] ?_
  by_cases h2:p1.k = 1
  ·rw [iP h2] at hm;refine ag rfl (eQ h2) ?_;refine eg [5,24,25,26,27,28,29,30,31,32] (by kernel_rfl) [0,1,3,7,15,31,63,127,15,271,1023] [true,true,true,true,false,false,false,false,false,false,true] (by kernel_rfl) fun k hk=>?_;refine eA 4 rfl ?_;refine ga ?_
   by_cases h3:p1.n = 0
   ·rw [iP h3] at hm;have h3b:=eQ h3;refine aT ?_;refine gax h3b ?_;refine hk _ _ ?_;clear hk k;refine aj ?_;refine ah (ab (ah ?_))
    cases hm
    exact kr 2
   ·rw [iN h3] at hm;have h3b:=nB h3;refine aT ?_;refine gax h3b ?_;refine hk _ _ ?_;clear hk k;refine aj ?_;refine ah (ab (ah ?_))
    cases hm
    exact kr 2
  ·rw [iN h2] at hm;refine ai rfl (nB h2) ?_;refine aq ?_;refine ak (hk2 _ _ ?_);refine zw [5,24,33,34,35] [0,1,3,0,8,31] [false,false,false,false,false,true] ?_;refine aj ?_;refine ab (ah ?_)
   cases hm
   exact kr 2
 ·rw [iN h1] at hm;refine ai rfl (nB h1) ?_;refine am [20,37] ?_
  by_cases h4:p1.op = 2
  ·rw [iP h4] at hm;refine ag rfl (eQ h4) ?_;obtain ⟨hg5a,hm⟩:=gd hm;refine lE (em ao.enc p3.system.vars p1.v.toNat) [0,2,5,11,19,36,38,39,40,41,42,43,44,45,46,47,48,49,50,51,52,53,54,55,56,57,58] [0,1,3,7,15,0,32,127,255,511,0,1024,3072,7168,15360,0,32768,130048,261120,523264,1047552,0,2098175,8388607] [false,false,false,false,false,false,false,false,false,false,false,false,false,false,false,false,false,false,false,false,false,false,false,true] ?_;refine aj ?_;refine ab (ah ?_)
   cases hm
   exact kr 2
  ·rw [iN h4] at hm;refine ai rfl (nB h4) ?_;refine am [36,60] ?_
   by_cases h6:p1.op = 3
   ·rw [iP h6] at hm;refine ag rfl (eQ h6) ?_;obtain ⟨hg7a,hm⟩:=gd hm;refine lE (em ao.enc p3.system.vars p1.v.toNat) [0,11,19,59,61,62,63,64,65,66,67,68,69] [0,1,3,7,15,0,32,127,255,0,1023] [false,false,false,false,false,false,false,false,false,false,true] ?_;refine eg [2,5,12,70,71,72,73,74,75,76,77,78,79,80,81,82,83,84,85,86,87,88] (by kernel_rfl) [0,1,0,4,12,28,60,124,252,508,1020,2044,4092,2044,10236,2044,59388,131068,262140,2044,526335,2097151] [false,false,false,false,false,false,false,false,false,false,false,false,false,false,false,false,false,false,false,false,false,true] (by kernel_rfl) fun k hk=>?_;refine eA 6 rfl ?_;refine ga ?_
    by_cases h8:((p3.system.vars.getD p1.v.toNat default).n) > 0
    ·rw [iP h8] at hm;have h8b:=dT h8;refine eA 5 rfl ?_;refine gax h8b ?_
     by_cases h9:p1.n ≥ 0
     ·rw [iP h9] at hm;have h9b:=dT h9;refine aT ?_;refine gax (a2 h8b h9b) ?_;refine hk _ _ ?_;clear hk k;refine aj ?_;refine ab (ah ?_)
      cases hm
      exact kr 2
     ·rw [iN h9] at hm;have h9b:=dF h9;refine aT ?_;refine gax (a2 h8b h9b) ?_;refine hk _ _ ?_;clear hk k;refine aj ?_;refine ab (ah ?_)
      cases hm
      exact kr 2
    ·rw [iN h8] at hm;have h8b:=dF h8;refine aT ?_;refine gax h8b ?_;refine hk _ _ ?_;clear hk k;refine aj ?_;refine ab (ah ?_)
     cases hm
     exact kr 2
   ·rw [iN h6] at hm;refine ai rfl (nB h6) ?_;refine am [2,59,90] ?_
    by_cases h10:p1.op = 4
    ·rw [iP h10] at hm;refine ag rfl (eQ h10) ?_;refine eg [0,5,11,19,89,91,92,93,94,95,96,97,98] (by kernel_rfl) [0,1,3,7,15,31,63,127,15,271,1023] [true,true,true,true,false,false,false,false,false,false,true] (by kernel_rfl) fun k hk=>?_;refine eA 4 rfl ?_;refine ga ?_
     by_cases h11:p1.n ≥ (-1000000)
     ·rw [iP h11] at hm;have h11b:=dT h11;refine aT ?_;refine gax h11b ?_;refine hk _ _ ?_;clear hk k;refine aj ?_;refine ab (ah ?_)
      cases hm
      exact kr 2
     ·rw [iN h11] at hm;have h11b:=dF h11;refine aT ?_;refine gax h11b ?_;refine hk _ _ ?_;clear hk k;refine aj ?_;refine ab (ah ?_)
      cases hm
      exact kr 2
    ·rw [iN h10] at hm;refine ai rfl (nB h10) ?_;refine aK (S:=Bool) (V:=Unit) [89,99,100,101] (fun b1 _=>[(99,.c (.bool b1))]) (fun b1 _=>[.box [.tree 2 (p3.system.vars.map ao.enc),.tree 1 (p3.system.in_.map (eK .i64)),.tree 1 (p3.system.out_.map (eK .i64)),.tree 6 (p3.system.rules.map af.enc),.int .i64 p3.code],.arr 1 v1_ 5 (p4.map (eK .u8)),.box [.int .i64 p1.op,.int .i64 p1.k,.int .i64 p1.v,.int .i64 p1.n],.box [.osl 1 v1_ 0 p4.length]]) (fun b1=>cb p1 p3 p4 b1 = some r) ?_ ?_
     ·skip;refine am [89,100] ?_
      by_cases h40:p1.op = 5
      ·rw [iP h40] at hm;refine ag rfl (eQ h40) ?_;refine aq ?_;refine ax (p1.op == 5) () hm ?_;exact ls
      ·rw [iN h40] at hm;refine ai rfl (nB h40) ?_;refine bn ?_;refine ax (p1.op == 6) () hm ?_;exact ls
     ·rintro b1 _ hm;replace hm:cb p1 p3 p4 b1 = some r:=hm;refine aJ ?_;unfold cb at hm
      by_cases h12:b1 = true
      ·rw [iP h12] at hm;refine ag rfl (h12) ?_;refine aI [0,19,99,102,103,104,105,106,107,108] fun k kp hk hp=>?_;refine go ?_;obtain ⟨y2,hc13,hm⟩:=bd hm;refine RP (fun _=>ma p1.k _ hc13) ?_;refine aa ?_;refine go ?_;refine hk _ _ ?_;clear hk hp k kp;refine bx [5,11,13,14,15,109,110,111,112,113,114,115,116,117,118,119,120,121,122,123,124,125,126,127,128,129,130,131,132] fun k kp hk hp=>?_;refine an 9 ?_;refine go ?_
       by_cases h14:y2.2.2 = (IntKind.wrap .i64 ((IntKind.wrap .i64 (p1.op - 5)) + 1))
       ·rw [iP h14] at hm;have h14b:=eQ h14;refine aa ?_;refine gox h14b ?_;obtain ⟨y3,hc15,hm⟩:=bd hm;refine RA (bY 1 p4 v1_ _ hc15) [3,1] ?_;rintro p σ' ⟨rfl,rfl⟩ _;refine an 4 ?_;refine gox h14b ?_
        by_cases h17:y3 = y2.1
        ·rw [iP h17] at hm;have h17b:=eQ h17
         by_cases h18:y2.2.2 = 1
         ·rw [iP h18] at hm;have h18b:=eQ h18;refine aa ?_;refine gox (a2 h14b (a2 h17b h18b)) ?_;refine hk _ _ ?_;clear hk hp k kp;refine aj ?_;refine ab (ah ?_)
          cases hm
          exact kr 2
         ·rw [iN h18] at hm;have h18b:=nB h18;refine aa ?_;refine gox (a2 h14b (a2 h17b h18b)) ?_;obtain ⟨y4,hc19,hm⟩:=bd hm;refine RA (bY 2 p4 v1_ _ hc19) [3,1] ?_;rintro p σ' ⟨rfl,rfl⟩ _;refine aa ?_;refine gox (a2 h14b (a2 h17b h18b)) ?_;refine hk _ _ ?_;clear hk hp k kp;refine aj ?_;refine ab (ah ?_)
          cases hm
          exact kr 2
        ·rw [iN h17] at hm;have h17b:=nB h17;refine aa ?_;refine gox (a2 h14b h17b) ?_;refine hk _ _ ?_;clear hk hp k kp;refine aj ?_;refine ab (ah ?_)
         cases hm
         exact kr 2
       ·rw [iN h14] at hm;have h14b:=nB h14;refine aa ?_;refine gox h14b ?_;refine hk _ _ ?_;clear hk hp k kp;refine aj ?_;refine ab (ah ?_)
        cases hm
        exact kr 2
      ·rw [iN h12] at hm;refine ai rfl (fB h12) ?_;refine am [99,134] ?_
       by_cases h21:p1.op = 7
       ·rw [iP h21] at hm;refine ag rfl (eQ h21) ?_;refine aI [0,5,11,19,133,135,136,137,138,139,140,141,142,143,144,145,146,147,148,149,150,151] fun k kp hk hp=>?_;refine go ?_;obtain ⟨y5,hc22,hm⟩:=bd hm;refine RA (bY 1 p4 v1_ _ hc22) [3,1] ?_;rintro p σ' ⟨rfl,rfl⟩ _;refine aa ?_;refine go ?_;obtain ⟨y6,hc24,hm⟩:=bd hm;refine RA (bY 3 p4 v1_ _ hc24) [3,1] ?_;rintro p σ' ⟨rfl,rfl⟩ _
        by_cases h26:y6 = 98
        ·rw [iP h26] at hm;have h26b:=eQ h26;refine aa ?_;refine gox h26b ?_;obtain ⟨y7,hc27,hm⟩:=bd hm;refine RA (bY 1 p4 v1_ _ hc27) [3,1] ?_;rintro p σ' ⟨rfl,rfl⟩ _;refine aa ?_;refine gox h26b ?_;obtain ⟨y8,hc29,hm⟩:=bd hm;refine RA (bY 2 p4 v1_ _ hc29) [3,1] ?_;rintro p σ' ⟨rfl,rfl⟩ _
         by_cases h31:y7 = y8
         ·rw [iP h31] at hm;have h31b:=eQ h31;refine aa ?_;refine gox (a2 h26b h31b) ?_;obtain ⟨y9,hc32,hm⟩:=bd hm;refine RA (bY 1 p4 v1_ _ hc32) [3,1] ?_;rintro p σ' ⟨rfl,rfl⟩ _;refine aa ?_;refine gox (a2 h26b h31b) ?_;refine hk _ _ ?_;clear hk hp k kp;refine aj ?_;refine ab (ah ?_)
          cases hm
          exact kr 2
         ·rw [iN h31] at hm;have h31b:=nB h31;refine aa ?_;refine gox (a2 h26b h31b) ?_;refine hk _ _ ?_;clear hk hp k kp;refine aj ?_;refine ab (ah ?_)
          cases hm
          exact kr 2
        ·rw [iN h26] at hm;have h26b:=nB h26;refine aa ?_;refine gox h26b ?_;refine hk _ _ ?_;clear hk hp k kp;refine aj ?_;refine ab (ah ?_)
         cases hm
         exact kr 2
       ·rw [iN h21] at hm;refine ai rfl (nB h21) ?_;refine am [19,133,153] ?_
        by_cases h34:p1.op = 8
        ·rw [iP h34] at hm;refine ag rfl (eQ h34) ?_;obtain ⟨hg35a,hm⟩:=gd hm;refine lE (em ao.enc p3.system.vars p1.v.toNat) [0,5,152,154,155,156,157,158,159,160,161,162] [0,1,3,7,15,0,32,127,255,0,1023] [false,false,false,false,false,false,false,false,false,false,true] ?_;refine eg [11,16,163,164,165,166,167,168,169,170,171,172,173,174,175,176,177,178,179] (by kernel_rfl) [0,1,0,4,12,28,60,124,60,316,1020,2044,4092,8188,16380,32764,65532,32764,163839,524287] [false,false,false,false,false,false,false,false,false,false,false,false,false,false,false,false,false,false,false,true] (by kernel_rfl) fun k hk=>?_;refine eA 6 rfl ?_;refine ga ?_
         by_cases h36:((p3.system.vars.getD p1.v.toNat default).n) > 0
         ·rw [iP h36] at hm;have h36b:=dT h36;refine aT ?_;refine gax h36b ?_;obtain ⟨y10,hc37,hm⟩:=bd hm;refine cat (σ2:=[.box [.tree 2 (p3.system.vars.map ao.enc),.tree 1 (p3.system.in_.map (eK .i64)),.tree 1 (p3.system.out_.map (eK .i64)),.tree 6 (p3.system.rules.map af.enc),.int .i64 p3.code],.arr 1 v1_ 5 (p4.map (eK .u8)),.box [.int .i64 p1.op,.int .i64 p1.k,.int .i64 p1.v,.int .i64 p1.n],.box [.osl 1 v1_ 0 p4.length],.box [.int .u8 ((p3.system.vars.getD p1.v.toNat default).elem),.int .i64 ((p3.system.vars.getD p1.v.toNat default).n)]]) (res:=.c (.int .u8 y10)) (ct [3,1] (bY 1 p4 v1_ _ hc37)) ?_;refine eA 5 rfl ?_;refine gax h36b ?_
          by_cases h38:y10 = ((p3.system.vars.getD p1.v.toNat default).elem)
          ·rw [iP h38] at hm;have h38b:=eQ h38;refine aT ?_;refine gax (a2 h36b h38b) ?_;obtain ⟨y11,hc39,hm⟩:=bd hm;refine cat (σ2:=[.box [.tree 2 (p3.system.vars.map ao.enc),.tree 1 (p3.system.in_.map (eK .i64)),.tree 1 (p3.system.out_.map (eK .i64)),.tree 6 (p3.system.rules.map af.enc),.int .i64 p3.code],.arr 1 v1_ 5 (p4.map (eK .u8)),.box [.int .i64 p1.op,.int .i64 p1.k,.int .i64 p1.v,.int .i64 p1.n],.box [.osl 1 v1_ 0 p4.length],.box [.int .u8 ((p3.system.vars.getD p1.v.toNat default).elem),.int .i64 ((p3.system.vars.getD p1.v.toNat default).n)]]) (res:=.c (.int .u8 y11)) (ct [3,1] (bY 2 p4 v1_ _ hc39)) ?_;refine aT ?_;refine gax (a2 h36b h38b) ?_;refine hk _ _ ?_;clear hk k;refine aj ?_;refine ab (ah ?_)
           cases hm
           exact kr 2
          ·rw [iN h38] at hm;have h38b:=nB h38;refine aT ?_;refine gax (a2 h36b h38b) ?_;refine hk _ _ ?_;clear hk k;refine aj ?_;refine ab (ah ?_)
           cases hm
           exact kr 2
         ·rw [iN h36] at hm;have h36b:=dF h36;refine aT ?_;refine gax h36b ?_;refine hk _ _ ?_;clear hk k;refine aj ?_;refine ab (ah ?_)
          cases hm
          exact kr 2
        ·rw [iN h34] at hm;refine ai rfl (nB h34) ?_;refine aq ?_;refine au ?_;refine ak (hk1 _ _ ?_);refine am [0,5,11,152] ?_;refine aj ?_
         cases hm
         exact kr 2
theorem qf (p1:List ay) (p2:Int) (p3:aB) (r:(Int×Bool)) (hm:iz p1 p2 p3 = some r):eD Try.prog 121 [.c (.optr 0 0),.c (.tree 4 (p1.map ay.enc)),.c (.int .i64 p2)] [.box [.tree 2 (p3.system.vars.map ao.enc),.tree 1 (p3.system.in_.map (eK .i64)),.tree 1 (p3.system.out_.map (eK .i64)),.tree 6 (p3.system.rules.map af.enc),.int .i64 p3.code]] (fun p σ=>(p = .t [.c (.int .u8 r.1),.c (.bool r.2)]∧σ = [.box [.tree 2 (p3.system.vars.map ao.enc),.tree 1 (p3.system.in_.map (eK .i64)),.tree 1 (p3.system.out_.map (eK .i64)),.tree 6 (p3.system.rules.map af.enc),.int .i64 p3.code]])) (fun _ _=>False):=by
 refine aM 53 [.tmp 6,.tmp 7] Try.func121 rfl rfl rfl (by kernel_rfl) (by simp) ?_;refine bP ?_;unfold iz at hm;refine am [6,7] ?_;refine am [] ?_;refine cG (fc 8 1 5 (by decide) rfl (Nat.le_of_ble_eq_true rfl)) ?_;refine nE ?_;refine aK (S:=(List Int)) (V:=Nat) [0,1,2,6,7,8,10,11,12,13,14,15,16,17,18,19,20,21,22,23,24,25,26,27,28,29,30,31,32,33,34,35,36,37,38,39,40,41,42,43,44,45,46] (fun l3 v4=>[(8,.c (.osl 1 v4 0 l3.length))]) (fun l3 v4=>[.box [.tree 2 (p3.system.vars.map ao.enc),.tree 1 (p3.system.in_.map (eK .i64)),.tree 1 (p3.system.out_.map (eK .i64)),.tree 6 (p3.system.rules.map af.enc),.int .i64 p3.code],.arr 1 v4 5 (l3.map (eK .u8))]) (fun l3=>cI l3 = some r) ?_ ?_
 ·skip;refine am [1] ?_
  refine az ?_;obtain ⟨o1,hl1,hm1⟩:=bd hm;refine be (S:=((List Int)×Int)) (V:=Nat) (O:=(List Int) ⊕ (Int×Bool)) [6,7,8,10,11,12,13,16,17,18,19,20,21,22,23,24,25,26,27,28,29,30,31,32,33,34,35,36,37,38,39,40,41,42,43,44,45,46] (fun (l17,x19) v18=>[(8,.c (.osl 1 v18 0 l17.length)),(16,.c (.int .i64 x19))]) (fun (l17,x19) v18=>[.box [.tree 2 (p3.system.vars.map ao.enc),.tree 1 (p3.system.in_.map (eK .i64)),.tree 1 (p3.system.out_.map (eK .i64)),.tree 6 (p3.system.rules.map af.enc),.int .i64 p3.code],.arr 1 v18 5 (l17.map (eK .u8))]) _ _ 0 hl1 ?_ ?_
  ·exact ls
  ·rintro ⟨l17,x19⟩ v18 r1 hm hr1;replace hm:bo p1 p2 p3 l17 x19 = some r1:=hm;refine aJ ?_;unfold bo at hm;refine am [] ?_;refine ap fun k2 hk2=>?_
   by_cases h3:x19 < (p1.length:Int)
   ·rw [iP h3] at hm;refine ag rfl (dT h3) ?_;refine aq ?_;refine ak (hk2 _ _ ?_);refine ap fun k3 hk3=>?_;refine az ?_;obtain ⟨hg4a,hm⟩:=gd hm;refine bj (em ay.enc p1 x19.toNat) [17,18,19] ?_;refine aI [10,20,21,22,23,24,25,26,27,28] fun k kp hk hp=>?_;refine go ?_;obtain ⟨y20,hc5,hm⟩:=bd hm;refine RA (oQ (p1.getD x19.toNat default) p2 p3 l17 v18 _ hc5) [0,1] ?_;rintro p σ' ⟨rfl,rfl⟩ _;refine aa ?_;refine go ?_;refine hk _ _ ?_;clear hk hp k kp;refine ap fun k4 hk4=>?_
    by_cases h7:y20.2.2 = true
    ·rw [iP h7] at hm;have h7b:=h7
     have h7c:(!y20.2.2) = false:=by rw [h7b];rfl
     refine bj (a2 h7b h7c) [13,29,30,31,32,33,34,35] ?_
     by_cases h8:(l17.length:Int) < y20.1
     ·rw [iP h8] at hm;refine ag rfl (dT h8) ?_;refine am [0,2,8,11,12,14,15,16,36] ?_;have ho9:=aA hm hr1;subst ho9;replace hm:some (0,false) = some r:=hm1;refine aj ?_;refine ah (ab (ah (aG (ab (av ?_)))))
      cases hm
      exact kr 1
     ·rw [iN h8] at hm;refine ai rfl (dF h8) ?_;refine aq ?_;refine ak (hk4 _ _ ?_);obtain ⟨⟨hg10a,⟨hg10bx,hg10by⟩⟩,hm⟩:=gd hm;refine bn ?_;refine au ?_;refine ak (hk3 _ _ ?_);refine bn ?_;refine aC (((l17.take ((IntKind.wrap .i64 ((l17.length:Int) - y20.1)).toNat)) ++ (lit ([y20.2.1]:List Int))),(IntKind.wrap .i64 (x19 + 1))) (v18 + 1) hm ?_;exact ls
    ·rw [iN h7] at hm;have h7b:=fB h7
     have h7c:(!y20.2.2) = true:=by rw [h7b];rfl
     refine bj (a2 h7b h7c) [13,29,30,31,32,33,34,35] ?_;refine ag rfl rfl ?_;refine am [0,2,8,11,12,14,15,16,36] ?_;have ho11:=aA hm hr1;subst ho11;replace hm:some (0,false) = some r:=hm1;refine aj ?_;refine ah (ab (ah (aG (ab (av ?_)))))
     cases hm
     exact kr 1
   ·rw [iN h3] at hm;refine ai rfl (dF h3) ?_;refine bq ?_;have ho12:=aA hm hr1;subst ho12;replace hm:cI l17 = some r:=hm1;refine bb (aQ (aF ?_));refine ax l17 v18 hm ?_;exact ls
 ·rintro l3 v4 hm;replace hm:cI l3 = some r:=hm;refine aJ ?_;unfold cI at hm;refine ap fun k1 hk1=>?_;refine am [47,48] ?_
  by_cases h1:¬ (l3.length:Int) = 1
  ·rw [iP h1] at hm;refine ag rfl (bne_iff_ne.2 h1) ?_;refine am [8,49] ?_;refine aj ?_;refine ah ?_
   cases hm
   exact kr 1
  ·rw [iN h1] at hm;refine ai rfl (bne_eq_false_iff_eq.2 (Decidable.not_not.1 h1)) ?_;refine aq ?_;refine ak (hk1 _ _ ?_);obtain ⟨hg2a,hm⟩:=gd hm;refine bj (em (eK .u8) l3 0) [8,49,50,51,52] ?_;refine aj ?_
   cases hm
   exact kr 1
theorem qg (p1:af) (p2:ao) (p3:ao) (p4:aB) (r:Bool) (hm:gq p1 p2 p3 p4 = some r):eD Try.prog 108 [.c (.optr 0 0),.a [.int .i64 p1.op,.int .i64 p1.k,.int .i64 p1.out_,.int .i64 p1.n,.tree 1 (p1.a.map (eK .i64)),.tree 4 (p1.e.map ay.enc)],.a [.int .u8 p2.elem,.int .i64 p2.n],.a [.int .u8 p3.elem,.int .i64 p3.n]] [.box [.tree 2 (p4.system.vars.map ao.enc),.tree 1 (p4.system.in_.map (eK .i64)),.tree 1 (p4.system.out_.map (eK .i64)),.tree 6 (p4.system.rules.map af.enc),.int .i64 p4.code]] (fun p σ=>(p = .c (.bool r)∧σ = [.box [.tree 2 (p4.system.vars.map ao.enc),.tree 1 (p4.system.in_.map (eK .i64)),.tree 1 (p4.system.out_.map (eK .i64)),.tree 6 (p4.system.rules.map af.enc),.int .i64 p4.code]])) (fun _ _=>False):=by
 refine aM 98 [.tmp 8] Try.func108 rfl rfl rfl (by kernel_rfl) (by simp) ?_;refine bP ?_;unfold gq at hm;refine am [1,2,3,8] ?_;refine am [16,17,18] ?_;refine am [19,20] ?_;refine aK (S:=Int) (V:=Unit) [6,7,8,9,21,22,23,24,25,26,27,28,29,30,31,32,33,34,35,36,37,38,39,40,41,42,43,44,45,46,47,48,49,50,51,52,53,54,55,56,57,58,59,60,61,62,63,64,65,66,67,68] (fun x1 _=>[(9,.c (.int .i64 x1))]) (fun x1 _=>[.box [.tree 2 (p4.system.vars.map ao.enc),.tree 1 (p4.system.in_.map (eK .i64)),.tree 1 (p4.system.out_.map (eK .i64)),.tree 6 (p4.system.rules.map af.enc),.int .i64 p4.code],.box [.int .i64 p1.op,.int .i64 p1.k,.int .i64 p1.out_,.int .i64 p1.n,.tree 1 (p1.a.map (eK .i64)),.tree 4 (p1.e.map ay.enc)],.box [.int .u8 p2.elem,.int .i64 p2.n],.box [.int .u8 p3.elem,.int .i64 p3.n]]) (fun x1=>cJ p1 p2 p4 x1 = some r) ?_ ?_
 ·skip;refine am [21] ?_
  refine az ?_;refine am [24] ?_
  by_cases h7:p1.op = 15
  ·rw [iP h7] at hm;refine ag rfl (eQ h7) ?_;refine ap fun k1 hk1=>?_;refine bx [6,7,9,22,23,25,26,27,28,29,30,31,32,33,34,35,36,37,38,39,40,41,42,43,44,45,46,47] fun k kp hk hp=>?_;refine an 4 ?_;refine go ?_
   by_cases h8:p1.n < 1
   ·rw [iP h8] at hm;have h8b:=dT h8;refine aa ?_;refine gox h8b ?_;refine hk _ _ ?_;clear hk hp k kp;refine ag rfl rfl ?_;refine am [0,5,10,48] ?_;refine aj ?_;refine ah (ab (av ?_))
    cases hm
    exact kr 1
   ·rw [iN h8] at hm;have h8b:=dF h8;refine an 5 ?_;refine gox h8b ?_
    by_cases h9:p1.n > 300
    ·rw [iP h9] at hm;have h9b:=dT h9;refine aa ?_;refine gox (a2 h8b h9b) ?_;refine hk _ _ ?_;clear hk hp k kp;refine ag rfl rfl ?_;refine am [0,5,10,48] ?_;refine aj ?_;refine ah (ab (av ?_))
     cases hm
     exact kr 1
    ·rw [iN h9] at hm;have h9b:=dF h9;refine aa ?_;refine gox (a2 h8b h9b) ?_;obtain ⟨y4,hc10,hm⟩:=bd hm;refine RP (fun _=>lM p1.k _ hc10) ?_
     by_cases h11:y4 = true
     ·rw [iP h11] at hm;have h11b:=h11
      have h11c:(!y4) = false:=by rw [h11b];rfl
      refine an 8 ?_;refine gox (a2 h8b (a2 h9b (a2 h11b h11c))) ?_
      by_cases h12:p3.elem = p2.elem∧p3.n = p2.n
      ·rw [iP h12] at hm
       have h12b:((p3.elem == p2.elem) && (p3.n == p2.n)) = true:=by simpa [Bool.and_eq_true] using h12
       have h12c:(!((p3.elem == p2.elem) && (p3.n == p2.n))) = false:=by rw [h12b];rfl
       refine aa ?_;refine gox (a2 h8b (a2 h9b (a2 h11b (a2 h11c (a2 h12b h12c))))) ?_;refine hk _ _ ?_;clear hk hp k kp
       by_cases h13:p2.n > 0
       ·rw [iP h13] at hm;refine ag rfl (dT h13) ?_;refine am [0,5,10,48] ?_;refine aj ?_;refine ah (ab (av ?_))
        cases hm
        exact kr 1
       ·rw [iN h13] at hm;refine ai rfl (dF h13) ?_;refine aq ?_;refine ak (hk1 _ _ ?_);refine bn ?_;refine au ?_;refine ax p1.n () hm ?_;exact la
      ·rw [iN h12] at hm;have h12b:((p3.elem == p2.elem) && (p3.n == p2.n)) = false:=fB (fun hh=>h12 (by simpa [Bool.and_eq_true] using hh))
       have h12c:(!((p3.elem == p2.elem) && (p3.n == p2.n))) = true:=by rw [h12b];rfl
       refine aa ?_;refine gox (a2 h8b (a2 h9b (a2 h11b (a2 h11c (a2 h12b h12c))))) ?_;refine hk _ _ ?_;clear hk hp k kp;refine ag rfl rfl ?_;refine am [0,5,10,48] ?_;refine aj ?_;refine ah (ab (av ?_))
       cases hm
       exact kr 1
     ·rw [iN h11] at hm;have h11b:=fB h11
      have h11c:(!y4) = true:=by rw [h11b];rfl
      refine aa ?_;refine gox (a2 h8b (a2 h9b (a2 h11b h11c))) ?_;refine hk _ _ ?_;clear hk hp k kp;refine ag rfl rfl ?_;refine am [0,5,10,48] ?_;refine aj ?_;refine ah (ab (av ?_))
      cases hm
      exact kr 1
  ·rw [iN h7] at hm;refine ai rfl (nB h7) ?_;refine am [22,23,52] ?_
   by_cases h14:p1.op = 16
   ·rw [iP h14] at hm;refine ag rfl (eQ h14) ?_;refine eg [6,7,51,53,54,55,56,57,58,59,60,61,62,63,64,65,66,67] (by kernel_rfl) [0,1,3,7,15,31,63,127,255,511,1023,1023,3071,7167,16383,32767] [true,true,true,true,true,true,true,true,true,true,false,false,false,false,true,true] (by kernel_rfl) fun k hk=>?_;refine aT ?_;refine ga ?_;obtain ⟨y5,hc15,hm⟩:=bd hm;refine pat (fun _=>lM p1.k _ hc15) ?_
    by_cases h16:y5 = true
    ·rw [iP h16] at hm;have h16b:=h16
     have h16c:(!y5) = false:=by rw [h16b];rfl
     refine eA 7 rfl ?_;refine gax (a2 h16b h16c) ?_
     by_cases h17:p2.n = 0
     ·rw [iP h17] at hm;have h17b:=eQ h17;refine aT ?_;refine gax (a2 h16b (a2 h16c h17b)) ?_;refine hk _ _ ?_;clear hk k;refine ag rfl rfl ?_;refine am [0,5,9,10,68] ?_;refine aj ?_;refine ab (av ?_)
      cases hm
      exact kr 1
     ·rw [iN h17] at hm;have h17b:=nB h17;refine aT ?_;refine gax (a2 h16b (a2 h16c h17b)) ?_;obtain ⟨y6,hc18,hm⟩:=bd hm;refine pat (fun _=>jd p2.elem _ hc18) ?_;refine aT ?_;refine gax (a2 h16b (a2 h16c h17b)) ?_;refine hk _ _ ?_;clear hk k
      by_cases h19:p3.elem = ((y6).elem)∧p3.n = ((y6).n)
      ·rw [iP h19] at hm;refine ai rfl (by rw [show ((p3.elem == ((y6).elem)) && (p3.n == ((y6).n))) = true from (by simpa [Bool.and_eq_true] using h19)];rfl) ?_;refine aq ?_;refine au ?_;refine ax (if 1 > p2.n then 1 else p2.n) () hm ?_;exact la
      ·rw [iN h19] at hm;refine ag rfl (by rw [show ((p3.elem == ((y6).elem)) && (p3.n == ((y6).n))) = false from (fB (fun hh=>h19 (by simpa [Bool.and_eq_true] using hh)))];rfl) ?_;refine am [0,5,9,10,68] ?_;refine aj ?_;refine ab (av ?_)
       cases hm
       exact kr 1
    ·rw [iN h16] at hm;have h16b:=fB h16
     have h16c:(!y5) = true:=by rw [h16b];rfl
     refine aT ?_;refine gax (a2 h16b h16c) ?_;refine hk _ _ ?_;clear hk k;refine ag rfl rfl ?_;refine am [0,5,9,10,68] ?_;refine aj ?_;refine ab (av ?_)
     cases hm
     exact kr 1
   ·rw [iN h14] at hm;refine ai rfl (nB h14) ?_;refine aq ?_;refine au ?_;refine ax (if 1 > p2.n then 1 else p2.n) () hm ?_;exact ls
 ·rintro x1 _ hm;replace hm:cJ p1 p2 p4 x1 = some r:=hm;refine aJ ?_;unfold cJ at hm;refine aI [12,13,69,70,71,72,73,74,75] fun k kp hk hp=>?_;refine go ?_;obtain ⟨y2,hc1,hm⟩:=bd hm;refine RP (fun _=>ma p1.k _ hc1) ?_;refine aa ?_;refine go ?_;refine hk _ _ ?_;clear hk hp k kp;refine aK (S:=Unit) (V:=Unit) [8,11,76,77,78,79,80,81,82,83] (fun _ _=>[]) (fun _ _=>[.box [.tree 2 (p4.system.vars.map ao.enc),.tree 1 (p4.system.in_.map (eK .i64)),.tree 1 (p4.system.out_.map (eK .i64)),.tree 6 (p4.system.rules.map af.enc),.int .i64 p4.code],.box [.int .i64 p1.op,.int .i64 p1.k,.int .i64 p1.out_,.int .i64 p1.n,.tree 1 (p1.a.map (eK .i64)),.tree 4 (p1.e.map ay.enc)],.box [.int .u8 p2.elem,.int .i64 p2.n],.box [.int .u8 p3.elem,.int .i64 p3.n]]) (fun _=>dA p1 p2 p4 x1 = some r) ?_ ?_
  ·skip;refine bx [11,76,77,78,79,80,81,82] fun k kp hk hp=>?_
   refine an 4 ?_;refine go ?_
   by_cases h5:¬ p1.op = 14
   ·rw [iP h5] at hm;have h5b:=bne_iff_ne.2 h5;refine aa ?_;refine gox h5b ?_;refine hk _ _ ?_;clear hk hp k kp
    by_cases h6:¬ y2.1 = p2.elem
    ·rw [iP h6] at hm;refine ag rfl (bne_iff_ne.2 h6) ?_;refine am [0,5,9,10,83] ?_;refine aj ?_;refine av ?_
     cases hm
     exact kr 1
    ·rw [iN h6] at hm;refine ai rfl (bne_eq_false_iff_eq.2 (Decidable.not_not.1 h6)) ?_;refine aq ?_;refine ax () () hm ?_;exact ls
   ·rw [iN h5] at hm;have h5b:(p1.op != 14) = false:=bne_eq_false_iff_eq.2 (Decidable.not_not.1 h5);refine aa ?_;refine gox h5b ?_;refine hk _ _ ?_;clear hk hp k kp;refine ai rfl rfl ?_;refine aq ?_;refine ax () () hm ?_;exact ls
  ·rintro _ _ hm;replace hm:dA p1 p2 p4 x1 = some r:=hm;refine aJ ?_;unfold dA at hm;refine aI [0,5,9,84,85,86,87,88,89,90,91] fun k kp hk hp=>?_;refine go ?_;obtain ⟨y3,hc2,hm⟩:=bd hm;refine RA (qf p1.e x1 p4  _ hc2) [0] ?_;rintro p σ' ⟨rfl,rfl⟩ _;refine aa ?_;refine go ?_;refine hk _ _ ?_;clear hk hp k kp
   by_cases h4:y3.2 = true
   ·rw [iP h4] at hm;have h4b:=h4;refine bj h4b [10,14,15,92,93,94,95,96,97] ?_;refine aj ?_
    cases hm
    exact kr 1
   ·rw [iN h4] at hm;have h4b:=fB h4;refine bj h4b [10,14,15,92,93,94,95,96,97] ?_;refine aj ?_
    cases hm
    exact kr 1
end Pam
