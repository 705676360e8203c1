/- the walk of sys_judge_fits, printed by a program of ours -/
import Derived.Test.YthafkijdkbmdgaaDBase3
import Derived.Test.YthafkijdkbmdgaaDBase2
import Derived.Test.YthafkijdkbmdgaaDaFun1
import Derived.Test.YthafkijdkbmdgaaDaWalk1
set_option linter.all false
set_option maxRecDepth 100000
set_option maxHeartbeats 8000000
namespace Pam
open Go Go.Proofs
theorem qh (p1:af) (p2:aB) (r:Bool) (hm:aH p1 p2 = some r):eD Try.prog 93 [.c (.optr 0 0),.a [.int .i64 p1.op,.int .i64 p1.k,.int .i64 p1.out_,.int .i64 p1.n,.tree 1 (p1.a.map (eK .i64)),.tree 4 (p1.e.map ay.enc)]] [.box [.tree 2 (p2.system.vars.map ao.enc),.tree 1 (p2.system.in_.map (eK .i64)),.tree 1 (p2.system.out_.map (eK .i64)),.tree 6 (p2.system.rules.map af.enc),.int .i64 p2.code]] (fun p σ=>(p = .c (.bool r)∧σ = [.box [.tree 2 (p2.system.vars.map ao.enc),.tree 1 (p2.system.in_.map (eK .i64)),.tree 1 (p2.system.out_.map (eK .i64)),.tree 6 (p2.system.rules.map af.enc),.int .i64 p2.code]])) (fun _ _=>False):=by
 refine aM 370 [.tmp 4] Try.func93 rfl rfl rfl (by kernel_rfl) (by simp) ?_;refine bP ?_;unfold aH at hm;refine am [1,4] ?_;obtain ⟨hg1a,hm⟩:=gd hm;refine lE (em ao.enc p2.system.vars p1.out_.toNat) [14,15,16,17,18,19,20,21,22] [0,1,3,7,15,0,32,127,255,0,1023] [false,false,false,false,false,false,false,false,false,false,true] ?_;refine am [] ?_;refine aK (S:=(Int×Int)) (V:=Unit) [23,24,25,26,27,28,29,30,31,32,33,34,35,36,37] (fun (x1,x2) _=>[]) (fun (x1,x2) _=>[.box [.tree 2 (p2.system.vars.map ao.enc),.tree 1 (p2.system.in_.map (eK .i64)),.tree 1 (p2.system.out_.map (eK .i64)),.tree 6 (p2.system.rules.map af.enc),.int .i64 p2.code],.box [.int .i64 p1.op,.int .i64 p1.k,.int .i64 p1.out_,.int .i64 p1.n,.tree 1 (p1.a.map (eK .i64)),.tree 4 (p1.e.map ay.enc)],.box [.int .u8 ((p2.system.vars.getD p1.out_.toNat default).elem),.int .i64 ((p2.system.vars.getD p1.out_.toNat default).n)],.box [.int .u8 x1,.int .i64 x2]]) (fun (x1,x2)=>aW p1 p2 x1 x2 = some r) ?_ ?_
 ·skip;refine am [23,24,25] ?_
  by_cases h70:(p1.a.length:Int) > 0
  ·rw [iP h70] at hm;refine ag rfl (dT h70) ?_;obtain ⟨⟨hg71a,hg71b⟩,hm⟩:=gd hm;refine xz (a2 (em (eK .i64) p1.a 0) (em ao.enc p2.system.vars ((p1.a.getD 0 default).toNat))) [0,1,3,7,15,0,32,96,224,511,1023,2047] [false,false,false,false,false,false,false,false,false,true,true,true] ?_;refine ax ((p2.system.vars.getD ((p1.a.getD 0 default).toNat) default).elem,(p2.system.vars.getD ((p1.a.getD 0 default).toNat) default).n) () hm ?_;exact ls
  ·rw [iN h70] at hm;refine ai rfl (dF h70) ?_;refine aq ?_;refine ax (0,0) () hm ?_;exact ls
 ·rintro ⟨x1,x2⟩ _ hm;replace hm:aW p1 p2 x1 x2 = some r:=hm;refine aJ ?_;unfold aW at hm;refine aI [38,39,40,41,42,43,44] fun k kp hk hp=>?_;refine go ?_;obtain ⟨y3,hc2,hm⟩:=bd hm;refine RP (fun _=>ma p1.k _ hc2) ?_;refine aa ?_;refine go ?_;refine hk _ _ ?_;clear hk hp k kp;refine ap fun k1 hk1=>?_;refine am [45] ?_;refine az ?_;refine am [48] ?_
  by_cases h3:p1.op = 1
  ·rw [iP h3] at hm;refine ag rfl (eQ h3) ?_;refine bx [0,3,5,6,7,8,9,46,47,49,50,51,52,53,54,55,56,57,58,59,60,61,62,63,64,65,66] fun k kp hk hp=>?_;refine an 4 ?_;refine go ?_
   by_cases h4:((p2.system.vars.getD p1.out_.toNat default).n) = 0
   ·rw [iP h4] at hm;have h4b:=eQ h4;refine an 4 ?_;refine gox h4b ?_
    by_cases h5:((p2.system.vars.getD p1.out_.toNat default).elem) = 105
    ·rw [iP h5] at hm;have h5b:=eQ h5;refine aa ?_;refine gox (a2 h4b h5b) ?_;refine hk _ _ ?_;clear hk hp k kp;refine aj ?_;refine ab (ah ?_)
     cases hm
     exact kr 1
    ·rw [iN h5] at hm;have h5b:=nB h5;refine an 5 ?_;refine gox (a2 h4b h5b) ?_
     by_cases h6:p1.n = 0
     ·rw [iP h6] at hm;have h6b:=eQ h6;refine aa ?_;refine gox (a2 h4b (a2 h5b h6b)) ?_;refine hk _ _ ?_;clear hk hp k kp;refine aj ?_;refine ab (ah ?_)
      cases hm
      exact kr 1
     ·rw [iN h6] at hm;have h6b:=nB h6;refine aa ?_;refine gox (a2 h4b (a2 h5b h6b)) ?_;refine hk _ _ ?_;clear hk hp k kp;refine aj ?_;refine ab (ah ?_)
      cases hm
      exact kr 1
   ·rw [iN h4] at hm;have h4b:=nB h4;refine aa ?_;refine gox h4b ?_;refine hk _ _ ?_;clear hk hp k kp;refine aj ?_;refine ab (ah ?_)
    cases hm
    exact kr 1
  ·rw [iN h3] at hm;refine ai rfl (nB h3) ?_;refine am [47,68] ?_
   by_cases h7:p1.op = 2
   ·rw [iP h7] at hm;refine ag rfl (eQ h7) ?_;refine am [0,3,5,6,7,8,9,46,67,69,70,71] ?_;refine aj ?_;refine ab (ah ?_)
    cases hm
    exact kr 1
   ·rw [iN h7] at hm;refine ai rfl (nB h7) ?_;refine am [67,73] ?_
    by_cases h8:p1.op = 3
    ·rw [iP h8] at hm;refine ag rfl (eQ h8) ?_
     by_cases h9:y3.2.2 = 1
     ·rw [iP h9] at hm;have h9b:=eQ h9;refine bx [0,3,5,6,7,8,9,46,72,74,75,76,77,78,79,80,81,82,83,84,85,86,87,88,89,90,91,92,93,94] fun k kp hk hp=>?_;refine an 9 ?_;refine gox h9b ?_
      by_cases h10:x1 = y3.1
      ·rw [iP h10] at hm;have h10b:=eQ h10;refine an 6 ?_;refine gox (a2 h9b h10b) ?_
       by_cases h11:((p2.system.vars.getD p1.out_.toNat default).elem) = y3.2.1
       ·rw [iP h11] at hm;have h11b:=eQ h11;refine aa ?_;refine gox (a2 h9b (a2 h10b h11b)) ?_;refine hk _ _ ?_;clear hk hp k kp;refine aj ?_;refine ab (ah ?_)
        cases hm
        exact kr 1
       ·rw [iN h11] at hm;have h11b:=nB h11;refine aa ?_;refine gox (a2 h9b (a2 h10b h11b)) ?_;refine hk _ _ ?_;clear hk hp k kp;refine aj ?_;refine ab (ah ?_)
        cases hm
        exact kr 1
      ·rw [iN h10] at hm;have h10b:=nB h10;refine aa ?_;refine gox (a2 h9b h10b) ?_;refine hk _ _ ?_;clear hk hp k kp;refine aj ?_;refine ab (ah ?_)
       cases hm
       exact kr 1
     ·rw [iN h9] at hm;have h9b:=nB h9;refine bj h9b [0,3,5,6,7,8,9,46,72,74,75,76,77,78,79,80,81,82,83,84,85,86,87,88,89,90,91,92,93,94] ?_;refine aj ?_;refine ab (ah ?_)
      cases hm
      exact kr 1
    ·rw [iN h8] at hm;refine ai rfl (nB h8) ?_;refine am [72,96] ?_
     by_cases h12:p1.op = 4
     ·rw [iP h12] at hm;refine ag rfl (eQ h12) ?_
      by_cases h13:y3.2.2 = 2
      ·rw [iP h13] at hm;have h13b:=eQ h13;refine bx [0,3,5,6,7,8,9,46,95,97,98,99,100,101,102,103,104,105,106,107,108,109,110,111,112,113,114,115,116,117,118,119,120,121,122,123] fun k kp hk hp=>?_;refine an 9 ?_;refine gox h13b ?_
       by_cases h14:x1 = y3.1
       ·rw [iP h14] at hm;have h14b:=eQ h14;refine an 6 ?_;refine gox (a2 h13b h14b) ?_
        by_cases h15:((p2.system.vars.getD p1.out_.toNat default).elem) = y3.2.1
        ·rw [iP h15] at hm;have h15b:=eQ h15;refine an 7 ?_;refine gox (a2 h13b (a2 h14b h15b)) ?_
         by_cases h16:((p2.system.vars.getD p1.out_.toNat default).n) = x2
         ·rw [iP h16] at hm;have h16b:=eQ h16;refine aa ?_;refine gox (a2 h13b (a2 h14b (a2 h15b h16b))) ?_;obtain ⟨y4,hc17,hm⟩:=bd hm;refine RA (qd p1.a p2  _ hc17) [0] ?_;rintro p σ' ⟨rfl,rfl⟩ _;refine aa ?_;refine gox (a2 h13b (a2 h14b (a2 h15b h16b))) ?_;refine hk _ _ ?_;clear hk hp k kp;refine aj ?_;refine ab (ah ?_)
          cases hm
          exact kr 1
         ·rw [iN h16] at hm;have h16b:=nB h16;refine aa ?_;refine gox (a2 h13b (a2 h14b (a2 h15b h16b))) ?_;refine hk _ _ ?_;clear hk hp k kp;refine aj ?_;refine ab (ah ?_)
          cases hm
          exact kr 1
        ·rw [iN h15] at hm;have h15b:=nB h15;refine aa ?_;refine gox (a2 h13b (a2 h14b h15b)) ?_;refine hk _ _ ?_;clear hk hp k kp;refine aj ?_;refine ab (ah ?_)
         cases hm
         exact kr 1
       ·rw [iN h14] at hm;have h14b:=nB h14;refine aa ?_;refine gox (a2 h13b h14b) ?_;refine hk _ _ ?_;clear hk hp k kp;refine aj ?_;refine ab (ah ?_)
        cases hm
        exact kr 1
      ·rw [iN h13] at hm;have h13b:=nB h13;refine bj h13b [0,3,5,6,7,8,9,46,95,97,98,99,100,101,102,103,104,105,106,107,108,109,110,111,112,113,114,115,116,117,118,119,120,121,122,123] ?_;refine aj ?_;refine ab (ah ?_)
       cases hm
       exact kr 1
     ·rw [iN h12] at hm;refine ai rfl (nB h12) ?_;refine am [8,9,95,125] ?_
      by_cases h19:p1.op = 5
      ·rw [iP h19] at hm;refine ag rfl (eQ h19) ?_;refine eg [0,3,5,6,7,46,124,126,127,128,129,130,131,132,133,134,135,136,137,138,139,140,141,142,143] (by kernel_rfl) [0,0,3,7,15,15,47,111,239,15,527,1551,3599,15,8207,32751,65535,131071,262143] [false,false,true,true,false,false,false,false,false,false,false,false,false,false,false,false,true,true,true] (by kernel_rfl) fun k hk=>?_;refine aT ?_;refine ga ?_;obtain ⟨y5,hc20,hm⟩:=bd hm;refine pat (fun _=>jd 98 _ hc20) ?_
       by_cases h21:x1 = ((y5).elem)∧x2 = ((y5).n)
       ·rw [iP h21] at hm
        have h21b:((x1 == ((y5).elem)) && (x2 == ((y5).n))) = true:=by simpa [Bool.and_eq_true] using h21
        obtain ⟨⟨hg22a,hg22b⟩,hm⟩:=gd hm;refine aT ?_;refine gax (a2 (em (eK .i64) p1.a 1) (a2 (em (eK .i64) p1.a 2) h21b)) ?_;obtain ⟨y6,hc23,hm⟩:=bd hm;refine cat (σ2:=[.box [.tree 2 (p2.system.vars.map ao.enc),.tree 1 (p2.system.in_.map (eK .i64)),.tree 1 (p2.system.out_.map (eK .i64)),.tree 6 (p2.system.rules.map af.enc),.int .i64 p2.code],.box [.int .i64 p1.op,.int .i64 p1.k,.int .i64 p1.out_,.int .i64 p1.n,.tree 1 (p1.a.map (eK .i64)),.tree 4 (p1.e.map ay.enc)],.box [.int .u8 ((p2.system.vars.getD p1.out_.toNat default).elem),.int .i64 ((p2.system.vars.getD p1.out_.toNat default).n)],.box [.int .u8 x1,.int .i64 x2],.arr 1 0 3 ((lit ([(p1.a.getD 1 default),(p1.a.getD 2 default),p1.out_]:List Int)).map (eK .i64))]) (res:=.c (.bool y6)) (ct [0,4] (kS p2 (lit ([(p1.a.getD 1 default),(p1.a.getD 2 default),p1.out_]:List Int)) 0 _ hc23)) ?_;refine aT ?_;refine gax h21b ?_;refine hk _ _ ?_;clear hk k;refine f9 [.box [.tree 2 (p2.system.vars.map ao.enc),.tree 1 (p2.system.in_.map (eK .i64)),.tree 1 (p2.system.out_.map (eK .i64)),.tree 6 (p2.system.rules.map af.enc),.int .i64 p2.code],.box [.int .i64 p1.op,.int .i64 p1.k,.int .i64 p1.out_,.int .i64 p1.n,.tree 1 (p1.a.map (eK .i64)),.tree 4 (p1.e.map ay.enc)],.box [.int .u8 ((p2.system.vars.getD p1.out_.toNat default).elem),.int .i64 ((p2.system.vars.getD p1.out_.toNat default).n)],.box [.int .u8 x1,.int .i64 x2],.arr 1 0 3 ((lit ([(p1.a.getD 1 default),(p1.a.getD 2 default),p1.out_]:List Int)).map (eK .i64))] ?_;refine aj ?_;refine ab (ah ?_)
        cases hm
        exact kr 1
       ·rw [iN h21] at hm;have h21b:((x1 == ((y5).elem)) && (x2 == ((y5).n))) = false:=fB (fun hh=>h21 (by simpa [Bool.and_eq_true] using hh));refine aT ?_;refine gax h21b ?_;refine hk _ _ ?_;clear hk k;refine aj ?_;refine ab (ah ?_)
        cases hm
        exact kr 1
      ·rw [iN h19] at hm;refine ai rfl (nB h19) ?_;refine aK (S:=Bool) (V:=Unit) [124,144,145,146] (fun b7 _=>[(144,.c (.bool b7))]) (fun b7 _=>[.box [.tree 2 (p2.system.vars.map ao.enc),.tree 1 (p2.system.in_.map (eK .i64)),.tree 1 (p2.system.out_.map (eK .i64)),.tree 6 (p2.system.rules.map af.enc),.int .i64 p2.code],.box [.int .i64 p1.op,.int .i64 p1.k,.int .i64 p1.out_,.int .i64 p1.n,.tree 1 (p1.a.map (eK .i64)),.tree 4 (p1.e.map ay.enc)],.box [.int .u8 ((p2.system.vars.getD p1.out_.toNat default).elem),.int .i64 ((p2.system.vars.getD p1.out_.toNat default).n)],.box [.int .u8 x1,.int .i64 x2]]) (fun b7=>aV p1 p2 x1 x2 y3 b7 = some r) ?_ ?_
       ·skip;refine am [124,145] ?_
        by_cases h69:p1.op = 6
        ·rw [iP h69] at hm;refine ag rfl (eQ h69) ?_;refine aq ?_;refine ax (p1.op == 6) () hm ?_;exact ls
        ·rw [iN h69] at hm;refine ai rfl (nB h69) ?_;refine bn ?_;refine ax (p1.op == 7) () hm ?_;exact ls
       ·rintro b7 _ hm;replace hm:aV p1 p2 x1 x2 y3 b7 = some r:=hm;refine aJ ?_;unfold aV at hm
        by_cases h24:b7 = true
        ·rw [iP h24] at hm;refine ag rfl (h24) ?_;obtain ⟨⟨hg25a,hg25b⟩,hm⟩:=gd hm;refine lE (a2 (em (eK .i64) p1.a 1) (em ao.enc p2.system.vars ((p1.a.getD 1 default).toNat))) [0,46,144,147,148,149,150,151,152,153,154,155,156,157] [0,1,3,7,15,0,32,96,224,511,1023,0,4095] [false,false,false,false,false,false,false,false,false,false,false,false,true] ?_;refine eg [3,5,6,7,10,158,159,160,161,162,163,164,165,166,167,168,169,170,171,172,173,174,175,176,177,178,179,180,181,182,183,184,185,186,187,188,189,190,191,192,193,194,195,196,197] (by kernel_rfl) [0,1,3,7,15,15,47,127,255,511,1023,2047,4095,8191,16383,32767,65535,32767,262143,524287,1048575,2097151,4194303,8388607,16777215,33554431,33554431,134217727,268435455,536870911,1073741823,2147483647,4294967295,8589934591,17179869183,17179869183,68719476735,137438953471,274877906943,549755813887,1099511627775] [true,true,true,true,false,false,false,true,true,true,true,true,true,true,true,false,false,false,true,true,true,true,true,true,true,false,false,true,true,true,true,true,true,true,false,false,true,true,true,true,true] (by kernel_rfl) fun k hk=>?_;refine aT ?_;refine ga ?_;obtain ⟨y8,hc26,hm⟩:=bd hm;refine pat (fun _=>lM p1.k _ hc26) ?_
         by_cases h27:y8 = true
         ·rw [iP h27] at hm;have h27b:=h27;refine aT ?_;refine gax h27b ?_;obtain ⟨y9,hc28,hm⟩:=bd hm;refine pat (fun _=>jd y3.1 _ hc28) ?_
          by_cases h29:x1 = ((y9).elem)∧x2 = ((y9).n)
          ·rw [iP h29] at hm
           have h29b:((x1 == ((y9).elem)) && (x2 == ((y9).n))) = true:=by simpa [Bool.and_eq_true] using h29
           refine eA 8 rfl ?_;refine gax (a2 h27b h29b) ?_
           by_cases h30:((p2.system.vars.getD ((p1.a.getD 1 default).toNat) default).n) > 0
           ·rw [iP h30] at hm;have h30b:=dT h30;refine eA 6 rfl ?_;refine gax (a2 h27b (a2 h29b h30b)) ?_
            by_cases h31:((p2.system.vars.getD ((p1.a.getD 1 default).toNat) default).elem) = y3.1
            ·rw [iP h31] at hm;have h31b:=eQ h31;refine eA 4 rfl ?_;refine gax (a2 h27b (a2 h29b (a2 h30b h31b))) ?_
             by_cases h32:p1.op = 6
             ·rw [iP h32] at hm;have h32b:=eQ h32;refine eA 5 rfl ?_;refine gax (a2 h27b (a2 h29b (a2 h30b (a2 h31b h32b)))) ?_
              by_cases h33:((p2.system.vars.getD p1.out_.toNat default).elem) = x1∧((p2.system.vars.getD p1.out_.toNat default).n) = x2
              ·rw [iP h33] at hm
               have h33b:((((p2.system.vars.getD p1.out_.toNat default).elem) == x1) && (((p2.system.vars.getD p1.out_.toNat default).n) == x2)) = true:=by simpa [Bool.and_eq_true] using h33
               refine aT ?_;refine gax (a2 h27b (a2 h29b (a2 h30b (a2 h31b (a2 h32b h33b))))) ?_;refine hk _ _ ?_;clear hk k;refine aj ?_;refine ab (ah ?_)
               cases hm
               exact kr 1
              ·rw [iN h33] at hm;have h33b:((((p2.system.vars.getD p1.out_.toNat default).elem) == x1) && (((p2.system.vars.getD p1.out_.toNat default).n) == x2)) = false:=fB (fun hh=>h33 (by simpa [Bool.and_eq_true] using hh));refine eA 4 rfl ?_;refine gax (a2 h27b (a2 h29b (a2 h30b (a2 h31b (a2 h32b h33b))))) ?_
               by_cases h34:p1.op = 7
               ·rw [iP h34] at hm;have h34b:=eQ h34;refine aT ?_;refine gax (a2 h27b (a2 h29b (a2 h30b (a2 h31b (a2 h32b (a2 h33b h34b)))))) ?_;refine hk _ _ ?_;clear hk k;refine aj ?_;refine ab (ah ?_)
                cases hm
                exact kr 1
               ·rw [iN h34] at hm;have h34b:=nB h34;refine aT ?_;refine gax (a2 h27b (a2 h29b (a2 h30b (a2 h31b (a2 h32b (a2 h33b h34b)))))) ?_;refine hk _ _ ?_;clear hk k;refine aj ?_;refine ab (ah ?_)
                cases hm
                exact kr 1
             ·rw [iN h32] at hm;have h32b:=nB h32;refine eA 9 rfl ?_;refine gax (a2 h27b (a2 h29b (a2 h30b (a2 h31b h32b)))) ?_
              by_cases h35:p1.op = 7
              ·rw [iP h35] at hm;have h35b:=eQ h35;refine aT ?_;refine gax (a2 h27b (a2 h29b (a2 h30b (a2 h31b (a2 h32b h35b))))) ?_;refine hk _ _ ?_;clear hk k;refine aj ?_;refine ab (ah ?_)
               cases hm
               exact kr 1
              ·rw [iN h35] at hm;have h35b:=nB h35;refine aT ?_;refine gax (a2 h27b (a2 h29b (a2 h30b (a2 h31b (a2 h32b h35b))))) ?_;refine hk _ _ ?_;clear hk k;refine aj ?_;refine ab (ah ?_)
               cases hm
               exact kr 1
            ·rw [iN h31] at hm;have h31b:=nB h31;refine aT ?_;refine gax (a2 h27b (a2 h29b (a2 h30b h31b))) ?_;refine hk _ _ ?_;clear hk k;refine aj ?_;refine ab (ah ?_)
             cases hm
             exact kr 1
           ·rw [iN h30] at hm;have h30b:=dF h30;refine aT ?_;refine gax (a2 h27b (a2 h29b h30b)) ?_;refine hk _ _ ?_;clear hk k;refine aj ?_;refine ab (ah ?_)
            cases hm
            exact kr 1
          ·rw [iN h29] at hm;have h29b:((x1 == ((y9).elem)) && (x2 == ((y9).n))) = false:=fB (fun hh=>h29 (by simpa [Bool.and_eq_true] using hh));refine aT ?_;refine gax (a2 h27b h29b) ?_;refine hk _ _ ?_;clear hk k;refine aj ?_;refine ab (ah ?_)
           cases hm
           exact kr 1
         ·rw [iN h27] at hm;have h27b:=fB h27;refine aT ?_;refine gax h27b ?_;refine hk _ _ ?_;clear hk k;refine aj ?_;refine ab (ah ?_)
          cases hm
          exact kr 1
        ·rw [iN h24] at hm;refine ai rfl (fB h24) ?_;refine am [7,144,199] ?_
         by_cases h36:p1.op = 8
         ·rw [iP h36] at hm;refine ag rfl (eQ h36) ?_;refine bx [0,3,5,6,46,198,200,201,202,203,204,205,206,207,208,209,210,211,212,213,214] fun k kp hk hp=>?_;refine an 4 ?_;refine go ?_
          by_cases h37:x2 = 0
          ·rw [iP h37] at hm;have h37b:=eQ h37;refine an 5 ?_;refine gox h37b ?_
           by_cases h38:((p2.system.vars.getD p1.out_.toNat default).n) > 0
           ·rw [iP h38] at hm;have h38b:=dT h38;refine aa ?_;refine gox (a2 h37b h38b) ?_;refine hk _ _ ?_;clear hk hp k kp;refine aj ?_;refine ab (ah ?_)
            cases hm
            exact kr 1
           ·rw [iN h38] at hm;have h38b:=dF h38;refine aa ?_;refine gox (a2 h37b h38b) ?_;refine hk _ _ ?_;clear hk hp k kp;refine aj ?_;refine ab (ah ?_)
            cases hm
            exact kr 1
          ·rw [iN h37] at hm;have h37b:=nB h37;refine aa ?_;refine gox h37b ?_;refine hk _ _ ?_;clear hk hp k kp;refine aj ?_;refine ab (ah ?_)
           cases hm
           exact kr 1
         ·rw [iN h36] at hm;refine ai rfl (nB h36) ?_;refine aK (S:=Bool) (V:=Unit) [198,215,216,217] (fun b10 _=>[(215,.c (.bool b10))]) (fun b10 _=>[.box [.tree 2 (p2.system.vars.map ao.enc),.tree 1 (p2.system.in_.map (eK .i64)),.tree 1 (p2.system.out_.map (eK .i64)),.tree 6 (p2.system.rules.map af.enc),.int .i64 p2.code],.box [.int .i64 p1.op,.int .i64 p1.k,.int .i64 p1.out_,.int .i64 p1.n,.tree 1 (p1.a.map (eK .i64)),.tree 4 (p1.e.map ay.enc)],.box [.int .u8 ((p2.system.vars.getD p1.out_.toNat default).elem),.int .i64 ((p2.system.vars.getD p1.out_.toNat default).n)],.box [.int .u8 x1,.int .i64 x2]]) (fun b10=>aU p1 p2 x1 x2 b10 = some r) ?_ ?_
          ·skip;refine am [198,216] ?_
           by_cases h68:p1.op = 9
           ·rw [iP h68] at hm;refine ag rfl (eQ h68) ?_;refine aq ?_;refine ax (p1.op == 9) () hm ?_;exact ls
           ·rw [iN h68] at hm;refine ai rfl (nB h68) ?_;refine bn ?_;refine ax (p1.op == 10) () hm ?_;exact ls
          ·rintro b10 _ hm;replace hm:aU p1 p2 x1 x2 b10 = some r:=hm;refine aJ ?_;unfold aU at hm
           by_cases h39:b10 = true
           ·rw [iP h39] at hm;refine ag rfl (h39) ?_;obtain ⟨hg40a,hm⟩:=gd hm;refine aI [46,215,218,219,220,221,222,223,224,225,226] fun k kp hk hp=>?_;refine gox (em (eK .i64) p1.a 0) ?_;obtain ⟨y11,hc41,hm⟩:=bd hm;refine RA (qe (p1.a.getD 0 default) p2  _ hc41) [0] ?_;rintro p σ' ⟨rfl,rfl⟩ _;refine aa ?_;refine go ?_;refine hk _ _ ?_;clear hk hp k kp
            by_cases h43:y11.2 = true
            ·rw [iP h43] at hm;have h43b:=h43;obtain ⟨⟨hg44a,hg44b⟩,hm⟩:=gd hm;refine eg [0,3,5,6,11,12,227,228,229,230,231,232,233,234,235,236,237,238,239,240,241,242,243,244,245,246,247,248,249,250,251,252,253,254,255,256,257,258,259,260,261,262,263,264,265,266,267,268,269,270,271,272,273,274,275,276,277] (by kernel_rfl) [0,1,3,7,15,31,63,3,131,387,899,2047,4095,3,16383,32767,65535,131071,262143,524287,1048575,2097151,131071,4325375,12713983,29491199,67108863,134217727,131071,536870911,1073741823,2147483647,4294967295,8589934591,17179869183,34359738367,68719476735,68719476735,274877906943,549755813887,1099511627775,2199023255551,4398046511103,8796093022207,17592186044415,35184372088831,35184372088831,140737488355327,281474976710655,562949953421311,1125899906842623,2251799813685247] [true,true,false,false,false,false,false,false,false,false,false,false,false,false,true,true,true,false,false,false,false,false,false,false,false,false,false,false,false,true,true,true,true,true,true,true,false,false,true,true,true,true,true,true,true,false,false,true,true,true,true,true] (by kernel_rfl) fun k hk=>?_;refine aT ?_;refine gax (a2 (em (eK .i64) p1.a 1) (a2 (em ao.enc p2.system.vars ((p1.a.getD 1 default).toNat)) h43b)) ?_;obtain ⟨y12,hc45,hm⟩:=bd hm;refine pat (fun _=>jd 105 _ hc45) ?_
             by_cases h46:((p2.system.vars.getD ((p1.a.getD 1 default).toNat) default).elem) = ((y12).elem)∧((p2.system.vars.getD ((p1.a.getD 1 default).toNat) default).n) = ((y12).n)
             ·rw [iP h46] at hm
              have h46b:((((p2.system.vars.getD ((p1.a.getD 1 default).toNat) default).elem) == ((y12).elem)) && (((p2.system.vars.getD ((p1.a.getD 1 default).toNat) default).n) == ((y12).n))) = true:=by simpa [Bool.and_eq_true] using h46
              obtain ⟨⟨hg47a,hg47b⟩,hm⟩:=gd hm;refine eA 18 rfl ?_;refine gax (a2 (em (eK .i64) p1.a 2) (a2 (em ao.enc p2.system.vars ((p1.a.getD 2 default).toNat)) (a2 h43b h46b))) ?_
              by_cases h48:((p2.system.vars.getD ((p1.a.getD 2 default).toNat) default).elem) = ((y11.1).elem)∧((p2.system.vars.getD ((p1.a.getD 2 default).toNat) default).n) = ((y11.1).n)
              ·rw [iP h48] at hm
               have h48b:((((p2.system.vars.getD ((p1.a.getD 2 default).toNat) default).elem) == ((y11.1).elem)) && (((p2.system.vars.getD ((p1.a.getD 2 default).toNat) default).n) == ((y11.1).n))) = true:=by simpa [Bool.and_eq_true] using h48
               refine eA 4 rfl ?_;refine gax (a2 h43b (a2 h46b h48b)) ?_
               by_cases h49:p1.op = 9
               ·rw [iP h49] at hm;have h49b:=eQ h49;refine eA 5 rfl ?_;refine gax (a2 h43b (a2 h46b (a2 h48b h49b))) ?_
                by_cases h50:((p2.system.vars.getD p1.out_.toNat default).elem) = ((y11.1).elem)∧((p2.system.vars.getD p1.out_.toNat default).n) = ((y11.1).n)
                ·rw [iP h50] at hm
                 have h50b:((((p2.system.vars.getD p1.out_.toNat default).elem) == ((y11.1).elem)) && (((p2.system.vars.getD p1.out_.toNat default).n) == ((y11.1).n))) = true:=by simpa [Bool.and_eq_true] using h50
                 refine aT ?_;refine gax (a2 h43b (a2 h46b (a2 h48b (a2 h49b h50b)))) ?_;refine hk _ _ ?_;clear hk k;refine aj ?_;refine ab (ah ?_)
                 cases hm
                 exact kr 1
                ·rw [iN h50] at hm;have h50b:((((p2.system.vars.getD p1.out_.toNat default).elem) == ((y11.1).elem)) && (((p2.system.vars.getD p1.out_.toNat default).n) == ((y11.1).n))) = false:=fB (fun hh=>h50 (by simpa [Bool.and_eq_true] using hh));refine eA 4 rfl ?_;refine gax (a2 h43b (a2 h46b (a2 h48b (a2 h49b h50b)))) ?_
                 by_cases h51:p1.op = 10
                 ·rw [iP h51] at hm;have h51b:=eQ h51;refine aT ?_;refine gax (a2 h43b (a2 h46b (a2 h48b (a2 h49b (a2 h50b h51b))))) ?_;refine hk _ _ ?_;clear hk k;refine aj ?_;refine ab (ah ?_)
                  cases hm
                  exact kr 1
                 ·rw [iN h51] at hm;have h51b:=nB h51;refine aT ?_;refine gax (a2 h43b (a2 h46b (a2 h48b (a2 h49b (a2 h50b h51b))))) ?_;refine hk _ _ ?_;clear hk k;refine aj ?_;refine ab (ah ?_)
                  cases hm
                  exact kr 1
               ·rw [iN h49] at hm;have h49b:=nB h49;refine eA 9 rfl ?_;refine gax (a2 h43b (a2 h46b (a2 h48b h49b))) ?_
                by_cases h52:p1.op = 10
                ·rw [iP h52] at hm;have h52b:=eQ h52;refine aT ?_;refine gax (a2 h43b (a2 h46b (a2 h48b (a2 h49b h52b)))) ?_;refine hk _ _ ?_;clear hk k;refine aj ?_;refine ab (ah ?_)
                 cases hm
                 exact kr 1
                ·rw [iN h52] at hm;have h52b:=nB h52;refine aT ?_;refine gax (a2 h43b (a2 h46b (a2 h48b (a2 h49b h52b)))) ?_;refine hk _ _ ?_;clear hk k;refine aj ?_;refine ab (ah ?_)
                 cases hm
                 exact kr 1
              ·rw [iN h48] at hm;have h48b:((((p2.system.vars.getD ((p1.a.getD 2 default).toNat) default).elem) == ((y11.1).elem)) && (((p2.system.vars.getD ((p1.a.getD 2 default).toNat) default).n) == ((y11.1).n))) = false:=fB (fun hh=>h48 (by simpa [Bool.and_eq_true] using hh));refine aT ?_;refine gax (a2 h43b (a2 h46b h48b)) ?_;refine hk _ _ ?_;clear hk k;refine aj ?_;refine ab (ah ?_)
               cases hm
               exact kr 1
             ·rw [iN h46] at hm;have h46b:((((p2.system.vars.getD ((p1.a.getD 1 default).toNat) default).elem) == ((y12).elem)) && (((p2.system.vars.getD ((p1.a.getD 1 default).toNat) default).n) == ((y12).n))) = false:=fB (fun hh=>h46 (by simpa [Bool.and_eq_true] using hh));refine aT ?_;refine gax (a2 h43b h46b) ?_;refine hk _ _ ?_;clear hk k;refine aj ?_;refine ab (ah ?_)
              cases hm
              exact kr 1
            ·rw [iN h43] at hm;have h43b:=fB h43;refine eg [0,3,5,6,11,12,227,228,229,230,231,232,233,234,235,236,237,238,239,240,241,242,243,244,245,246,247,248,249,250,251,252,253,254,255,256,257,258,259,260,261,262,263,264,265,266,267,268,269,270,271,272,273,274,275,276,277] (by kernel_rfl) [0,1,3,7,15,31,63,3,131,387,899,2047,4095,3,16383,32767,65535,131071,262143,524287,1048575,2097151,131071,4325375,12713983,29491199,67108863,134217727,131071,536870911,1073741823,2147483647,4294967295,8589934591,17179869183,34359738367,68719476735,68719476735,274877906943,549755813887,1099511627775,2199023255551,4398046511103,8796093022207,17592186044415,35184372088831,35184372088831,140737488355327,281474976710655,562949953421311,1125899906842623,2251799813685247] [true,true,false,false,false,false,false,false,false,false,false,false,false,false,true,true,true,false,false,false,false,false,false,false,false,false,false,false,false,true,true,true,true,true,true,true,false,false,true,true,true,true,true,true,true,false,false,true,true,true,true,true] (by kernel_rfl) fun k hk=>?_;refine aT ?_;refine gax h43b ?_;refine hk _ _ ?_;clear hk k;refine aj ?_;refine ab (ah ?_)
             cases hm
             exact kr 1
           ·rw [iN h39] at hm;refine ai rfl (fB h39) ?_;refine am [215,279] ?_
            by_cases h53:p1.op = 11
            ·rw [iP h53] at hm;refine ag rfl (eQ h53) ?_;refine bx [0,3,5,6,46,278,280,281,282,283,284,285,286,287,288,289,290,291,292,293,294,295,296,297,298,299,300,301,302,303,304,305,306,307,308,309] fun k kp hk hp=>?_;refine an 4 ?_;refine go ?_
             by_cases h54:x2 > 0
             ·rw [iP h54] at hm;have h54b:=dT h54;refine an 5 ?_;refine gox h54b ?_
              by_cases h55:((p2.system.vars.getD p1.out_.toNat default).n) > 0
              ·rw [iP h55] at hm;have h55b:=dT h55;refine an 7 ?_;refine gox (a2 h54b h55b) ?_
               by_cases h56:x1 = ((p2.system.vars.getD p1.out_.toNat default).elem)
               ·rw [iP h56] at hm;have h56b:=eQ h56;refine an 5 ?_;refine gox (a2 h54b (a2 h55b h56b)) ?_
                by_cases h57:p1.n ≥ 0
                ·rw [iP h57] at hm;have h57b:=dT h57;refine aa ?_;refine gox (a2 h54b (a2 h55b (a2 h56b h57b))) ?_;refine hk _ _ ?_;clear hk hp k kp;refine aj ?_;refine ab (ah ?_)
                 cases hm
                 exact kr 1
                ·rw [iN h57] at hm;have h57b:=dF h57;refine aa ?_;refine gox (a2 h54b (a2 h55b (a2 h56b h57b))) ?_;refine hk _ _ ?_;clear hk hp k kp;refine aj ?_;refine ab (ah ?_)
                 cases hm
                 exact kr 1
               ·rw [iN h56] at hm;have h56b:=nB h56;refine aa ?_;refine gox (a2 h54b (a2 h55b h56b)) ?_;refine hk _ _ ?_;clear hk hp k kp;refine aj ?_;refine ab (ah ?_)
                cases hm
                exact kr 1
              ·rw [iN h55] at hm;have h55b:=dF h55;refine aa ?_;refine gox (a2 h54b h55b) ?_;refine hk _ _ ?_;clear hk hp k kp;refine aj ?_;refine ab (ah ?_)
               cases hm
               exact kr 1
             ·rw [iN h54] at hm;have h54b:=dF h54;refine aa ?_;refine gox h54b ?_;refine hk _ _ ?_;clear hk hp k kp;refine aj ?_;refine ab (ah ?_)
              cases hm
              exact kr 1
            ·rw [iN h53] at hm;refine ai rfl (nB h53) ?_;refine am [278,311] ?_
             by_cases h58:p1.op = 12
             ·rw [iP h58] at hm;refine ag rfl (eQ h58) ?_;obtain ⟨⟨hg59a,hg59b⟩,hm⟩:=gd hm;refine lE (a2 (em (eK .i64) p1.a 1) (em ao.enc p2.system.vars ((p1.a.getD 1 default).toNat))) [0,3,46,310,312,313,314,315,316,317,318,319,320,321,322] [0,1,3,7,15,0,32,96,224,511,1023,0,4095] [false,false,false,false,false,false,false,false,false,false,false,false,true] ?_;refine bx [5,6,13,323,324,325,326,327,328,329,330,331,332,333,334,335,336,337,338,339,340,341,342,343,344,345,346,347,348,349] fun k kp hk hp=>?_;refine an 4 ?_;refine go ?_
              by_cases h60:x2 > 0
              ·rw [iP h60] at hm;have h60b:=dT h60;refine an 5 ?_;refine gox h60b ?_
               by_cases h61:((p2.system.vars.getD ((p1.a.getD 1 default).toNat) default).n) > 0
               ·rw [iP h61] at hm;have h61b:=dT h61;refine an 7 ?_;refine gox (a2 h60b h61b) ?_
                by_cases h62:x1 = ((p2.system.vars.getD ((p1.a.getD 1 default).toNat) default).elem)
                ·rw [iP h62] at hm;have h62b:=eQ h62;refine aa ?_;refine gox (a2 h60b (a2 h61b h62b)) ?_;refine hk _ _ ?_;clear hk hp k kp;refine aj ?_;refine ab (ah ?_)
                 cases hm
                 exact kr 1
                ·rw [iN h62] at hm;have h62b:=nB h62;refine aa ?_;refine gox (a2 h60b (a2 h61b h62b)) ?_;refine hk _ _ ?_;clear hk hp k kp;refine aj ?_;refine ab (ah ?_)
                 cases hm
                 exact kr 1
               ·rw [iN h61] at hm;have h61b:=dF h61;refine aa ?_;refine gox (a2 h60b h61b) ?_;refine hk _ _ ?_;clear hk hp k kp;refine aj ?_;refine ab (ah ?_)
                cases hm
                exact kr 1
              ·rw [iN h60] at hm;have h60b:=dF h60;refine aa ?_;refine gox h60b ?_;refine hk _ _ ?_;clear hk hp k kp;refine aj ?_;refine ab (ah ?_)
               cases hm
               exact kr 1
             ·rw [iN h58] at hm;refine ai rfl (nB h58) ?_;refine am [46,310,351] ?_
              by_cases h63:p1.op = 13
              ·rw [iP h63] at hm;refine ag rfl (eQ h63) ?_;obtain ⟨⟨hg64a,hg64b⟩,hm⟩:=gd hm;refine kP [0,3,5,6,350,352,353,354,355,356,357,358,359,360,361,362,363,364] (by kernel_rfl) [0,0,2,6,14,0,32,96,224,0,512,2046,4095,8191] [false,false,false,false,false,false,false,false,false,false,false,false,true,true] (by kernel_rfl) fun k hk=>?_;refine gax (a2 (em (eK .i64) p1.a 0) (em (eK .i64) p1.a 1)) ?_;obtain ⟨y13,hc65,hm⟩:=bd hm;refine ca (σ2:=[.box [.tree 2 (p2.system.vars.map ao.enc),.tree 1 (p2.system.in_.map (eK .i64)),.tree 1 (p2.system.out_.map (eK .i64)),.tree 6 (p2.system.rules.map af.enc),.int .i64 p2.code],.box [.int .i64 p1.op,.int .i64 p1.k,.int .i64 p1.out_,.int .i64 p1.n,.tree 1 (p1.a.map (eK .i64)),.tree 4 (p1.e.map ay.enc)],.box [.int .u8 ((p2.system.vars.getD p1.out_.toNat default).elem),.int .i64 ((p2.system.vars.getD p1.out_.toNat default).n)],.box [.int .u8 x1,.int .i64 x2],.arr 1 0 3 ((lit ([(p1.a.getD 0 default),(p1.a.getD 1 default),p1.out_]:List Int)).map (eK .i64))]) (res:=.c (.bool y13)) (ct [0,4] (kS p2 (lit ([(p1.a.getD 0 default),(p1.a.getD 1 default),p1.out_]:List Int)) 0 _ hc65)) ?_;refine ga ?_;refine hk _ _ ?_;clear hk k;refine f9 [.box [.tree 2 (p2.system.vars.map ao.enc),.tree 1 (p2.system.in_.map (eK .i64)),.tree 1 (p2.system.out_.map (eK .i64)),.tree 6 (p2.system.rules.map af.enc),.int .i64 p2.code],.box [.int .i64 p1.op,.int .i64 p1.k,.int .i64 p1.out_,.int .i64 p1.n,.tree 1 (p1.a.map (eK .i64)),.tree 4 (p1.e.map ay.enc)],.box [.int .u8 ((p2.system.vars.getD p1.out_.toNat default).elem),.int .i64 ((p2.system.vars.getD p1.out_.toNat default).n)],.box [.int .u8 x1,.int .i64 x2],.arr 1 0 3 ((lit ([(p1.a.getD 0 default),(p1.a.getD 1 default),p1.out_]:List Int)).map (eK .i64))] ?_;refine aj ?_;refine ab (ah ?_)
               cases hm
               exact kr 1
              ·rw [iN h63] at hm;refine ai rfl (nB h63) ?_;refine aq ?_;refine au ?_;refine ak (hk1 _ _ ?_);refine aI [0,3,5,6,350,365,366,367,368,369] fun k kp hk hp=>?_;refine go ?_;obtain ⟨y14,hc66,hm⟩:=bd hm;refine RA (qg p1 (p2.system.vars.getD p1.out_.toNat default) (ao.mk x1 x2) p2  _ hc66) [0] ?_;rintro p σ' ⟨rfl,rfl⟩ _;refine aa ?_;refine go ?_;refine hk _ _ ?_;clear hk hp k kp;refine aj ?_
               cases hm
               exact kr 1
end Pam
