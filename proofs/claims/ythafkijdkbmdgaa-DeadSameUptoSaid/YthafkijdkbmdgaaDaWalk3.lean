/- the walk of sys_judge_rule, printed by a program of ours -/
import Derived.Test.YthafkijdkbmdgaaDBase3
import Derived.Test.YthafkijdkbmdgaaDBase2
import Derived.Test.YthafkijdkbmdgaaDaFun1
import Derived.Test.YthafkijdkbmdgaaDaWalk1
import Derived.Test.YthafkijdkbmdgaaDaWalk2
set_option linter.all false
set_option maxRecDepth 100000
set_option maxHeartbeats 8000000
namespace Pam
open Go Go.Proofs
theorem qi (p1:af) (p2:aB) (p3:List Bool) (v1_:Nat) (r:(Int×Int)) (hm:iA p1 p2 p3 = some r):eD Try.prog 73 [.c (.optr 0 0),.a [.int .i64 p1.op,.int .i64 p1.k,.int .i64 p1.out_,.int .i64 p1.n,.tree 1 (p1.a.map (eK .i64)),.tree 4 (p1.e.map ay.enc)],.c (.osl 1 v1_ 0 p3.length)] [.box [.tree 2 (p2.system.vars.map ao.enc),.tree 1 (p2.system.in_.map (eK .i64)),.tree 1 (p2.system.out_.map (eK .i64)),.tree 6 (p2.system.rules.map af.enc),.int .i64 p2.code],.arr 1 v1_ 4 (p3.map eB)] (fun p σ=>(p = .c (.int .i64 r.1)∧σ = [.box [.tree 2 (p2.system.vars.map ao.enc),.tree 1 (p2.system.in_.map (eK .i64)),.tree 1 (p2.system.out_.map (eK .i64)),.tree 6 (p2.system.rules.map af.enc),.int .i64 r.2],.arr 1 v1_ 4 (p3.map eB)])) (fun _ _=>False):=by
 refine aM 99 [.tmp 6] Try.func73 rfl rfl rfl (by kernel_rfl) (by simp) ?_;refine bP ?_;unfold iA at hm;refine am [1,6] ?_;refine am [10,11,12] ?_;refine aI [13,14,15,16,17,18,19] fun k kp hk hp=>?_;refine go ?_;obtain ⟨y1,hc1,hm⟩:=bd hm;refine RA (ji p1.out_ (aB.mk p2.system 0)  _ hc1) [0] ?_;rintro p σ' ⟨rfl,rfl⟩ _;refine aa ?_;refine go ?_;obtain ⟨y2,hc3,hm⟩:=bd hm;refine RA (da (!y1) 16 (aB.mk p2.system 0)  _ hc3) [0] ?_;rintro p σ' ⟨rfl,rfl⟩ _;refine aa ?_;refine go ?_;refine hk _ _ ?_;clear hk hp k kp;refine aK (S:=Int) (V:=Unit) [2,20,21,22,23,24,25,26,27,28,29,30,31,32,33] (fun x3 _=>[]) (fun x3 _=>[.box [.tree 2 (p2.system.vars.map ao.enc),.tree 1 (p2.system.in_.map (eK .i64)),.tree 1 (p2.system.out_.map (eK .i64)),.tree 6 (p2.system.rules.map af.enc),.int .i64 x3],.arr 1 v1_ 4 (p3.map eB),.box [.int .i64 p1.op,.int .i64 p1.k,.int .i64 p1.out_,.int .i64 p1.n,.tree 1 (p1.a.map (eK .i64)),.tree 4 (p1.e.map ay.enc)]]) (fun x3=>cZ p1 p2 x3 = some r) ?_ ?_
 ·skip;refine mE fun k kp hk hp=>?_
  refine an 7 ?_;refine go ?_
  by_cases h27:y2 = 0
  ·rw [iP h27] at hm;have h27b:=eQ h27;obtain ⟨hg28a,hm⟩:=gd hm;refine aa ?_;refine gox (a2 (em eB p3 p1.out_.toNat) h27b) ?_;obtain ⟨y24,hc29,hm⟩:=bd hm;refine RA (da (p3.getD p1.out_.toNat default) 8 (aB.mk p2.system y2)  _ hc29) [0] ?_;rintro p σ' ⟨rfl,rfl⟩ _;refine aa ?_;refine gox (a2 (em eB p3 p1.out_.toNat) h27b) ?_;refine hk _ _ ?_;clear hk hp k kp;refine ax y24 () hm ?_;exact ls
  ·rw [iN h27] at hm;have h27b:=nB h27;refine aa ?_;refine gox h27b ?_;obtain ⟨y25,hc31,hm⟩:=bd hm;refine RA (da false 8 (aB.mk p2.system y2)  _ hc31) [0] ?_;rintro p σ' ⟨rfl,rfl⟩ _;refine aa ?_;refine gox h27b ?_;refine hk _ _ ?_;clear hk hp k kp;refine ax y25 () hm ?_;exact ls
 ·rintro x3 _ hm;replace hm:cZ p1 p2 x3 = some r:=hm;refine aJ ?_;unfold cZ at hm;refine aK (S:=Int) (V:=Unit) [34,35,36,37,38,39,40,41,42,43,44,45,46,47,48] (fun x4 _=>[]) (fun x4 _=>[.box [.tree 2 (p2.system.vars.map ao.enc),.tree 1 (p2.system.in_.map (eK .i64)),.tree 1 (p2.system.out_.map (eK .i64)),.tree 6 (p2.system.rules.map af.enc),.int .i64 x4],.arr 1 v1_ 4 (p3.map eB),.box [.int .i64 p1.op,.int .i64 p1.k,.int .i64 p1.out_,.int .i64 p1.n,.tree 1 (p1.a.map (eK .i64)),.tree 4 (p1.e.map ay.enc)]]) (fun x4=>cY p1 p2 x4 = some r) ?_ ?_
  ·skip;refine uz (by kernel_rfl) [0,0,2,6,14,30,62,126,254,62,574,1598,4094,8190,16383] [false,false,false,false,false,false,false,false,false,false,false,false,false,false,true] (by kernel_rfl) fun k hk=>?_
   refine aT ?_;refine ga ?_;obtain ⟨y20,hc22,hm⟩:=bd hm;refine pat (fun _=>qc p1.op _ hc22) ?_
   by_cases h23:y20 < 0
   ·rw [iP h23] at hm;have h23b:=dT h23;refine aT ?_;refine gax h23b ?_;obtain ⟨y21,hc24,hm⟩:=bd hm;refine cat (σ2:=[.box [.tree 2 (p2.system.vars.map ao.enc),.tree 1 (p2.system.in_.map (eK .i64)),.tree 1 (p2.system.out_.map (eK .i64)),.tree 6 (p2.system.rules.map af.enc),.int .i64 y21],.arr 1 v1_ 4 (p3.map eB),.box [.int .i64 p1.op,.int .i64 p1.k,.int .i64 p1.out_,.int .i64 p1.n,.tree 1 (p1.a.map (eK .i64)),.tree 4 (p1.e.map ay.enc)]]) (res:=.t []) (ct [0] (da true 4 (aB.mk p2.system x3)  _ hc24)) ?_;refine aT ?_;refine gax h23b ?_;refine hk _ _ ?_;clear hk k;refine ax y21 () hm ?_;exact ls
   ·rw [iN h23] at hm;have h23b:=dF h23;refine aT ?_;refine gax h23b ?_;obtain ⟨y22,hc25,hm⟩:=bd hm;refine pat (fun _=>qc p1.op _ hc25) ?_;refine aT ?_;refine gax h23b ?_;obtain ⟨y23,hc26,hm⟩:=bd hm;refine cat (σ2:=[.box [.tree 2 (p2.system.vars.map ao.enc),.tree 1 (p2.system.in_.map (eK .i64)),.tree 1 (p2.system.out_.map (eK .i64)),.tree 6 (p2.system.rules.map af.enc),.int .i64 y23],.arr 1 v1_ 4 (p3.map eB),.box [.int .i64 p1.op,.int .i64 p1.k,.int .i64 p1.out_,.int .i64 p1.n,.tree 1 (p1.a.map (eK .i64)),.tree 4 (p1.e.map ay.enc)]]) (res:=.t []) (ct [0] (da ((p1.a.length:Int) != y22) 4 (aB.mk p2.system x3)  _ hc26)) ?_;refine aT ?_;refine gax h23b ?_;refine hk _ _ ?_;clear hk k;refine ax y23 () hm ?_;exact ls
  ·rintro x4 _ hm;replace hm:cY p1 p2 x4 = some r:=hm;refine aJ ?_;unfold cY at hm;refine aI [49,50,51,52,53,54] fun k kp hk hp=>?_;refine go ?_;obtain ⟨y5,hc5,hm⟩:=bd hm;refine RA (da (decide ((p1.e.length:Int) > 24)) 7 (aB.mk p2.system x4)  _ hc5) [0] ?_;rintro p σ' ⟨rfl,rfl⟩ _;refine aa ?_;refine go ?_;refine hk _ _ ?_;clear hk hp k kp;refine ap fun k1 hk1=>?_;refine am [55,56,57,58] ?_
   by_cases h7:¬ y5 = 0
   ·rw [iP h7] at hm;refine ag rfl (bne_iff_ne.2 h7) ?_;refine am [0,4,59,60,61,62,63] ?_;refine aj ?_;refine ah ?_
    cases hm
    exact kr 2
   ·rw [iN h7] at hm;refine ai rfl (bne_eq_false_iff_eq.2 (Decidable.not_not.1 h7)) ?_;refine aq ?_;refine ak (hk1 _ _ ?_);refine am [59,64,65] ?_;refine aK (S:=(List Int)) (V:=Unit) [7,66,67,68,69,70] (fun l6 _=>[(7,.c (.tree 1 (l6.map (eK .i64))))]) (fun l6 _=>[.box [.tree 2 (p2.system.vars.map ao.enc),.tree 1 (p2.system.in_.map (eK .i64)),.tree 1 (p2.system.out_.map (eK .i64)),.tree 6 (p2.system.rules.map af.enc),.int .i64 y5],.arr 1 v1_ 4 (p3.map eB),.box [.int .i64 p1.op,.int .i64 p1.k,.int .i64 p1.out_,.int .i64 p1.n,.tree 1 (p1.a.map (eK .i64)),.tree 4 (p1.e.map ay.enc)]]) (fun l6=>dB p1 p2 y5 l6 = some r) ?_ ?_
    ·skip;refine am [66,67] ?_
     by_cases h20:p1.op ≥ 14
     ·rw [iP h20] at hm;refine ag rfl (dT h20) ?_;refine e8 fun k kp hk hp=>?_;refine go ?_;obtain ⟨y19,hc21,hm⟩:=bd hm;refine RP (fun _=>n7 p1 _ hc21) ?_;refine aa ?_;refine go ?_;refine hk _ _ ?_;clear hk hp k kp;refine ax y19 () hm ?_;exact ls
     ·rw [iN h20] at hm;refine ai rfl (dF h20) ?_;refine aq ?_;refine ax p1.a () hm ?_;exact ls
    ·rintro l6 _ hm;replace hm:dB p1 p2 y5 l6 = some r:=hm;refine aJ ?_;unfold dB at hm;refine aK (S:=Int) (V:=Unit) [7,9,71,72,73,74,75,76,77,78,79,80,81,82,83] (fun x7 _=>[]) (fun x7 _=>[.box [.tree 2 (p2.system.vars.map ao.enc),.tree 1 (p2.system.in_.map (eK .i64)),.tree 1 (p2.system.out_.map (eK .i64)),.tree 6 (p2.system.rules.map af.enc),.int .i64 x7],.arr 1 v1_ 4 (p3.map eB),.box [.int .i64 p1.op,.int .i64 p1.k,.int .i64 p1.out_,.int .i64 p1.n,.tree 1 (p1.a.map (eK .i64)),.tree 4 (p1.e.map ay.enc)]]) (fun x7=>eo p1 p2 x7 = some r) ?_ ?_
     ·skip;refine am [7] ?_
      refine az ?_;obtain ⟨o1,hl1,hm1⟩:=bd hm;refine be (S:=(Int×Int)) (V:=Unit) (O:=Int) [9,73,74,75,76,77,78,79,80,81,82,83] (fun (x14,x15) _=>[(73,.c (.int .i64 x15))]) (fun (x14,x15) _=>[.box [.tree 2 (p2.system.vars.map ao.enc),.tree 1 (p2.system.in_.map (eK .i64)),.tree 1 (p2.system.out_.map (eK .i64)),.tree 6 (p2.system.rules.map af.enc),.int .i64 x14],.arr 1 v1_ 4 (p3.map eB),.box [.int .i64 p1.op,.int .i64 p1.k,.int .i64 p1.out_,.int .i64 p1.n,.tree 1 (p1.a.map (eK .i64)),.tree 4 (p1.e.map ay.enc)]]) _ _ () hl1 ?_ ?_
      ·exact ls
      ·rintro ⟨x14,x15⟩ _ r1 hm hr1;replace hm:cz p2 l6 x14 x15 = some r1:=hm;refine aJ ?_;unfold cz at hm;refine am [] ?_;refine ap fun k3 hk3=>?_
       by_cases h13:x15 < (l6.length:Int)
       ·rw [iP h13] at hm;refine ag rfl (dT h13) ?_;refine aq ?_;refine ak (hk3 _ _ ?_);refine ap fun k4 hk4=>?_;refine az ?_;obtain ⟨hg14a,hm⟩:=gd hm;refine bj (em (eK .i64) l6 x15.toNat) [74,75,76] ?_;refine e8 fun k kp hk hp=>?_;refine go ?_;obtain ⟨y16,hc15,hm⟩:=bd hm;refine RA (ji (l6.getD x15.toNat default) (aB.mk p2.system x14)  _ hc15) [0] ?_;rintro p σ' ⟨rfl,rfl⟩ _;refine aa ?_;refine go ?_;obtain ⟨y17,hc17,hm⟩:=bd hm;refine RA (da (!y16) 16 (aB.mk p2.system x14)  _ hc17) [0] ?_;rintro p σ' ⟨rfl,rfl⟩ _;refine aa ?_;refine go ?_;refine hk _ _ ?_;clear hk hp k kp;refine au ?_;refine ak (hk4 _ _ ?_);refine bn ?_;refine aC (y17,(IntKind.wrap .i64 (x15 + 1))) () hm ?_;exact ls
       ·rw [iN h13] at hm;refine ai rfl (dF h13) ?_;refine bq ?_;have ho19:=aA hm hr1;subst ho19;replace hm:eo p1 p2 x14 = some r:=hm1;refine bb (aQ (aF ?_));refine ax x14 () hm ?_;exact ls
     ·rintro x7 _ hm;replace hm:eo p1 p2 x7 = some r:=hm;refine aJ ?_;unfold eo at hm;refine ap fun k2 hk2=>?_;refine am [84,85,86,87] ?_
      by_cases h8:x7 = 0
      ·rw [iP h8] at hm;refine ag rfl (eQ h8) ?_;refine e8 fun k kp hk hp=>?_;refine go ?_;obtain ⟨y8,hc9,hm⟩:=bd hm;refine RA (qh p1 (aB.mk p2.system x7)  _ hc9) [0] ?_;rintro p σ' ⟨rfl,rfl⟩ _;refine aa ?_;refine go ?_;obtain ⟨y9,hc11,hm⟩:=bd hm;refine RA (da (!y8) 10 (aB.mk p2.system x7)  _ hc11) [0] ?_;rintro p σ' ⟨rfl,rfl⟩ _;refine aa ?_;refine go ?_;refine hk _ _ ?_;clear hk hp k kp;refine ak (hk2 _ _ ?_);refine am [0,4,88,89,90,91,92,93,94,95,96,97,98] ?_;refine aj ?_
       cases hm
       exact kr 2
      ·rw [iN h8] at hm;refine ai rfl (nB h8) ?_;refine aq ?_;refine ak (hk2 _ _ ?_);refine am [0,4,88,95,96,97,98] ?_;refine aj ?_
       cases hm
       exact kr 2
theorem uE (p1:ae) (r:aw) (hm:mH p1 = some r):cd Try.prog 38 [.a [.tree 2 (p1.vars.map ao.enc),.tree 1 (p1.in_.map (eK .i64)),.tree 1 (p1.out_.map (eK .i64)),.tree 6 (p1.rules.map af.enc)]] (.a [.int .i64 ((r).code),.int .i64 ((r).at_)]):=by
 refine aM 109 [.cell 2 35] Try.func38 rfl rfl rfl (by kernel_rfl) (by simp) ?_;refine bP ?_;unfold mH at hm;refine am [0] ?_;refine am [18,19,20] ?_;refine ap fun k1 hk1=>?_;refine aI [21,22] fun k kp hk hp=>?_;refine go ?_;obtain ⟨y1,hc1,hm⟩:=bd hm;refine RA (qb (aB.mk p1 0)  _ hc1) [2] ?_;rintro p σ' ⟨rfl,rfl⟩ _;refine aa ?_;refine go ?_;refine hk _ _ ?_;clear hk hp k kp;refine am [23,24] ?_
 by_cases h3:¬ ((y1).code) = 0
 ·rw [iP h3] at hm;refine ag rfl (bne_iff_ne.2 h3) ?_;refine am [1,3,4,25,26] ?_;refine aj ?_;refine ah ?_
  cases hm
  exact kr 0
 ·rw [iN h3] at hm;refine ai rfl (bne_eq_false_iff_eq.2 (Decidable.not_not.1 h3)) ?_;refine aq ?_;refine ak (hk1 _ _ ?_);obtain ⟨⟨hg4a,⟨hg4bx,hg4by⟩⟩,hm⟩:=gd hm;refine am [4,25,27,28,29,30] ?_;refine f9 [.box [.tree 2 (p1.vars.map ao.enc),.tree 1 (p1.in_.map (eK .i64)),.tree 1 (p1.out_.map (eK .i64)),.tree 6 (p1.rules.map af.enc)],.box [.int .i64 0,.int .i64 0],.box [.tree 2 (p1.vars.map ao.enc),.tree 1 (p1.in_.map (eK .i64)),.tree 1 (p1.out_.map (eK .i64)),.tree 6 (p1.rules.map af.enc),.int .i64 0],.box [.int .i64 ((y1).code),.int .i64 ((y1).at_)],.arr 1 0 4 ((List.replicate p1.vars.length false).map eB)] ?_;refine aK (S:=(List Bool)) (V:=Unit) [5,7,31,32,33,34,35,36,37,38,39,40,41] (fun l3 _=>[(5,.c (.osl 4 0 0 l3.length))]) (fun l3 _=>[.box [.tree 2 (p1.vars.map ao.enc),.tree 1 (p1.in_.map (eK .i64)),.tree 1 (p1.out_.map (eK .i64)),.tree 6 (p1.rules.map af.enc)],.box [.int .i64 0,.int .i64 0],.box [.tree 2 (p1.vars.map ao.enc),.tree 1 (p1.in_.map (eK .i64)),.tree 1 (p1.out_.map (eK .i64)),.tree 6 (p1.rules.map af.enc),.int .i64 0],.box [.int .i64 ((y1).code),.int .i64 ((y1).at_)],.arr 1 0 4 (l3.map eB)]) (fun l3=>gO p1 l3 = some r) ?_ ?_
  ·skip;refine am [31] ?_
   refine az ?_;obtain ⟨o5,hl5,hm5⟩:=bd hm;refine be (S:=((List Bool)×Int)) (V:=Unit) (O:=(List Bool)) [5,7,34,35,36,37,38,39,40,41] (fun (l44,x45) _=>[(5,.c (.osl 4 0 0 l44.length)),(34,.c (.int .i64 x45))]) (fun (l44,x45) _=>[.box [.tree 2 (p1.vars.map ao.enc),.tree 1 (p1.in_.map (eK .i64)),.tree 1 (p1.out_.map (eK .i64)),.tree 6 (p1.rules.map af.enc)],.box [.int .i64 0,.int .i64 0],.box [.tree 2 (p1.vars.map ao.enc),.tree 1 (p1.in_.map (eK .i64)),.tree 1 (p1.out_.map (eK .i64)),.tree 6 (p1.rules.map af.enc),.int .i64 0],.box [.int .i64 ((y1).code),.int .i64 ((y1).at_)],.arr 1 0 4 (l44.map eB)]) _ _ () hl5 ?_ ?_
   ·exact ls
   ·rintro ⟨l44,x45⟩ _ r5 hm hr5;replace hm:d3 p1 l44 x45 = some r5:=hm;refine aJ ?_;unfold d3 at hm;refine am [] ?_;refine ap fun k10 hk10=>?_
    by_cases h31:x45 < (p1.in_.length:Int)
    ·rw [iP h31] at hm;refine ag rfl (dT h31) ?_;refine aq ?_;refine ak (hk10 _ _ ?_);refine ap fun k11 hk11=>?_;refine az ?_;obtain ⟨hg32a,hm⟩:=gd hm;refine bj (em (eK .i64) p1.in_ x45.toNat) [35,36,37] ?_;obtain ⟨hg33a,hm⟩:=gd hm;refine kv (em eB l44 ((p1.in_.getD x45.toNat default).toNat)) ?_;refine au ?_;refine ak (hk11 _ _ ?_);refine bn ?_;refine aC ((l44.set ((p1.in_.getD x45.toNat default).toNat) true),(IntKind.wrap .i64 (x45 + 1))) () hm ?_;exact ls
    ·rw [iN h31] at hm;refine ai rfl (dF h31) ?_;refine bq ?_;have ho34:=aA hm hr5;subst ho34;replace hm:gO p1 l44 = some r:=hm5;refine bb (aQ (aF ?_));refine ax l44 () hm ?_;exact ls
  ·rintro l3 _ hm;replace hm:gO p1 l3 = some r:=hm;refine aJ ?_;unfold gO at hm;refine aK (S:=(Int×(List Bool))) (V:=Unit) [3,5,8,9,10,42,43,44,45,46,47,48,49,50,51,52,53,54,55,56,57,58,59,60,61,62,63] (fun (x5,l6) _=>[(5,.c (.osl 4 0 0 l6.length))]) (fun (x5,l6) _=>[.box [.tree 2 (p1.vars.map ao.enc),.tree 1 (p1.in_.map (eK .i64)),.tree 1 (p1.out_.map (eK .i64)),.tree 6 (p1.rules.map af.enc)],.box [.int .i64 0,.int .i64 0],.box [.tree 2 (p1.vars.map ao.enc),.tree 1 (p1.in_.map (eK .i64)),.tree 1 (p1.out_.map (eK .i64)),.tree 6 (p1.rules.map af.enc),.int .i64 x5],.box [.int .i64 ((y1).code),.int .i64 ((y1).at_)],.arr 1 0 4 (l6.map eB)]) (fun (x5,l6)=>gN p1 x5 l6 = some r) ?_ ?_
   ·skip;refine am [42] ?_
    refine az ?_;obtain ⟨o4,hl4,hm4⟩:=bd hm;refine be (S:=(Int×(List Bool)×Int)) (V:=Unit) (O:=(Int×(List Bool)) ⊕ aw) [5,8,9,10,45,46,47,48,49,50,51,52,53,54,55,56,57,58,59,60,61,62,63] (fun (x30,l31,x32) _=>[(5,.c (.osl 4 0 0 l31.length)),(45,.c (.int .i64 x32))]) (fun (x30,l31,x32) _=>[.box [.tree 2 (p1.vars.map ao.enc),.tree 1 (p1.in_.map (eK .i64)),.tree 1 (p1.out_.map (eK .i64)),.tree 6 (p1.rules.map af.enc)],.box [.int .i64 0,.int .i64 0],.box [.tree 2 (p1.vars.map ao.enc),.tree 1 (p1.in_.map (eK .i64)),.tree 1 (p1.out_.map (eK .i64)),.tree 6 (p1.rules.map af.enc),.int .i64 x30],.box [.int .i64 ((y1).code),.int .i64 ((y1).at_)],.arr 1 0 4 (l31.map eB)]) _ _ () hl4 ?_ ?_
    ·exact ls
    ·rintro ⟨x30,l31,x32⟩ _ r4 hm hr4;replace hm:d2 p1 x30 l31 x32 = some r4:=hm;refine aJ ?_;unfold d2 at hm;refine am [] ?_;refine ap fun k7 hk7=>?_
     by_cases h23:x32 < (p1.rules.length:Int)
     ·rw [iP h23] at hm;refine ag rfl (dT h23) ?_;refine aq ?_;refine ak (hk7 _ _ ?_);refine ap fun k8 hk8=>?_;refine az ?_;obtain ⟨hg24a,hm⟩:=gd hm;refine bj (em af.enc p1.rules x32.toNat) [46,47,48,49] ?_;refine ap fun k9 hk9=>?_;refine aI [50,51,52,53] fun k kp hk hp=>?_;refine go ?_;obtain ⟨y33,hc25,hm⟩:=bd hm;refine RA (qi (p1.rules.getD x32.toNat default) (aB.mk p1 x30) l31 0 _ hc25) [2,4] ?_;rintro p σ' ⟨rfl,rfl⟩ _;refine aa ?_;refine go ?_;refine hk _ _ ?_;clear hk hp k kp;refine am [54] ?_
      by_cases h27:¬ y33.1 = 0
      ·rw [iP h27] at hm;refine ag rfl (bne_iff_ne.2 h27) ?_;refine am [1,3,5,8,9,10,43,44,45,55,56,57,58] ?_;have ho28:=aA hm hr4;subst ho28;replace hm:some (aw.mk y33.1 x32) = some r:=hm4;refine aj ?_;refine ah (ab (ah (aG (ab (av ?_)))))
       cases hm
       exact kr 0
      ·rw [iN h27] at hm;refine ai rfl (bne_eq_false_iff_eq.2 (Decidable.not_not.1 h27)) ?_;refine aq ?_;refine ak (hk9 _ _ ?_);obtain ⟨hg29a,hm⟩:=gd hm;refine kv (em eB l31 (((p1.rules.getD x32.toNat default).out_).toNat)) ?_;refine au ?_;refine ak (hk8 _ _ ?_);refine bn ?_;refine aC (y33.2,(l31.set (((p1.rules.getD x32.toNat default).out_).toNat) true),(IntKind.wrap .i64 (x32 + 1))) () hm ?_;exact ls
     ·rw [iN h23] at hm;refine ai rfl (dF h23) ?_;refine bq ?_;have ho30:=aA hm hr4;subst ho30;replace hm:gN p1 x30 l31 = some r:=hm4;refine bb (aQ (aF ?_));refine ax (x30,l31) () hm ?_;exact ls
   ·rintro ⟨x5,l6⟩ _ hm;replace hm:gN p1 x5 l6 = some r:=hm;refine aJ ?_;unfold gN at hm;refine aK (S:=Unit) (V:=Unit) [5,11,12,13,15,64,65,66,67,68,69,70,71,72,73,74,75,76,77,78,79,80,81,82,83,84,85,86,87,88,89,90,91,92,93] (fun _ _=>[(5,.c (.osl 4 0 0 l6.length))]) (fun _ _=>[.box [.tree 2 (p1.vars.map ao.enc),.tree 1 (p1.in_.map (eK .i64)),.tree 1 (p1.out_.map (eK .i64)),.tree 6 (p1.rules.map af.enc)],.box [.int .i64 0,.int .i64 0],.box [.tree 2 (p1.vars.map ao.enc),.tree 1 (p1.in_.map (eK .i64)),.tree 1 (p1.out_.map (eK .i64)),.tree 6 (p1.rules.map af.enc),.int .i64 x5],.box [.int .i64 ((y1).code),.int .i64 ((y1).at_)],.arr 1 0 4 (l6.map eB)]) (fun _=>iS p1 l6 = some r) ?_ ?_
    ·skip;refine am [64] ?_
     refine az ?_;obtain ⟨o2,hl2,hm2⟩:=bd hm;refine be (S:=Int) (V:=Unit) (O:=Unit ⊕ aw) [5,11,12,13,15,67,68,69,70,71,72,73,74,75,76,77,78,79,80,81,82,83,84,85,86,87,88,89,90,91,92,93] (fun x13 _=>[(5,.c (.osl 4 0 0 l6.length)),(67,.c (.int .i64 x13))]) (fun x13 _=>[.box [.tree 2 (p1.vars.map ao.enc),.tree 1 (p1.in_.map (eK .i64)),.tree 1 (p1.out_.map (eK .i64)),.tree 6 (p1.rules.map af.enc)],.box [.int .i64 0,.int .i64 0],.box [.tree 2 (p1.vars.map ao.enc),.tree 1 (p1.in_.map (eK .i64)),.tree 1 (p1.out_.map (eK .i64)),.tree 6 (p1.rules.map af.enc),.int .i64 x5],.box [.int .i64 ((y1).code),.int .i64 ((y1).at_)],.arr 1 0 4 (l6.map eB)]) _ _ () hl2 ?_ ?_
     ·exact ls
     ·rintro x13 _ r2 hm hr2;replace hm:iU p1 l6 x13 = some r2:=hm;refine aJ ?_;unfold iU at hm;refine am [] ?_;refine ap fun k4 hk4=>?_
      by_cases h11:x13 < (p1.rules.length:Int)
      ·rw [iP h11] at hm;refine ag rfl (dT h11) ?_;refine aq ?_;refine ak (hk4 _ _ ?_);refine aK (S:=Unit) (V:=Unit) [5,11,12,13,15,68,69,70,71,72,73,74,75,76,77,78,79,80,81,82,83,84,85,86,87,88,89,90,91,92] (fun _ _=>[(5,.c (.osl 4 0 0 l6.length))]) (fun _ _=>[.box [.tree 2 (p1.vars.map ao.enc),.tree 1 (p1.in_.map (eK .i64)),.tree 1 (p1.out_.map (eK .i64)),.tree 6 (p1.rules.map af.enc)],.box [.int .i64 0,.int .i64 0],.box [.tree 2 (p1.vars.map ao.enc),.tree 1 (p1.in_.map (eK .i64)),.tree 1 (p1.out_.map (eK .i64)),.tree 6 (p1.rules.map af.enc),.int .i64 x5],.box [.int .i64 ((y1).code),.int .i64 ((y1).at_)],.arr 1 0 4 (l6.map eB)]) (fun _=>iT x13 = some r2) ?_ ?_
       ·skip;refine az ?_
        obtain ⟨hg12a,hm⟩:=gd hm;refine bj (em af.enc p1.rules x13.toNat) [68,69,70,71] ?_;refine am [72,73] ?_;refine aK (S:=(List Int)) (V:=Unit) [5,12,13,74,75,76,77,78] (fun l14 _=>[(5,.c (.osl 4 0 0 l6.length)),(13,.c (.tree 1 (l14.map (eK .i64))))]) (fun l14 _=>[.box [.tree 2 (p1.vars.map ao.enc),.tree 1 (p1.in_.map (eK .i64)),.tree 1 (p1.out_.map (eK .i64)),.tree 6 (p1.rules.map af.enc)],.box [.int .i64 0,.int .i64 0],.box [.tree 2 (p1.vars.map ao.enc),.tree 1 (p1.in_.map (eK .i64)),.tree 1 (p1.out_.map (eK .i64)),.tree 6 (p1.rules.map af.enc),.int .i64 x5],.box [.int .i64 ((y1).code),.int .i64 ((y1).at_)],.arr 1 0 4 (l6.map eB),.box [.int .i64 ((p1.rules.getD x13.toNat default).op),.int .i64 ((p1.rules.getD x13.toNat default).k),.int .i64 ((p1.rules.getD x13.toNat default).out_),.int .i64 ((p1.rules.getD x13.toNat default).n),.tree 1 (((p1.rules.getD x13.toNat default).a).map (eK .i64)),.tree 4 (((p1.rules.getD x13.toNat default).e).map ay.enc)]]) (fun l14=>gM l6 x13 l14 = some r2) ?_ ?_
        ·skip;refine am [74,75] ?_
         by_cases h20:((p1.rules.getD x13.toNat default).op) ≥ 14
         ·rw [iP h20] at hm;refine ag rfl (dT h20) ?_;refine e8 fun k kp hk hp=>?_;refine go ?_;obtain ⟨y19,hc21,hm⟩:=bd hm;refine RP (fun _=>n7 (p1.rules.getD x13.toNat default) _ hc21) ?_;refine aa ?_;refine go ?_;refine hk _ _ ?_;clear hk hp k kp;refine ax y19 () hm ?_;exact ls
         ·rw [iN h20] at hm;refine ai rfl (dF h20) ?_;refine aq ?_;refine ax ((p1.rules.getD x13.toNat default).a) () hm ?_;exact ls
        ·rintro l14 _ hm;replace hm:gM l6 x13 l14 = some r2:=hm;refine aJ ?_;unfold gM at hm;refine am [13] ?_;refine az ?_;obtain ⟨o3,hl3,hm3⟩:=bd hm;refine be (S:=Int) (V:=Unit) (O:=Unit ⊕ aw) [5,15,81,82,83,84,85,86,87,88,89,90,91,92] (fun x17 _=>[(5,.c (.osl 4 0 0 l6.length)),(81,.c (.int .i64 x17))]) (fun x17 _=>[.box [.tree 2 (p1.vars.map ao.enc),.tree 1 (p1.in_.map (eK .i64)),.tree 1 (p1.out_.map (eK .i64)),.tree 6 (p1.rules.map af.enc)],.box [.int .i64 0,.int .i64 0],.box [.tree 2 (p1.vars.map ao.enc),.tree 1 (p1.in_.map (eK .i64)),.tree 1 (p1.out_.map (eK .i64)),.tree 6 (p1.rules.map af.enc),.int .i64 x5],.box [.int .i64 ((y1).code),.int .i64 ((y1).at_)],.arr 1 0 4 (l6.map eB),.box [.int .i64 ((p1.rules.getD x13.toNat default).op),.int .i64 ((p1.rules.getD x13.toNat default).k),.int .i64 ((p1.rules.getD x13.toNat default).out_),.int .i64 ((p1.rules.getD x13.toNat default).n),.tree 1 (((p1.rules.getD x13.toNat default).a).map (eK .i64)),.tree 4 (((p1.rules.getD x13.toNat default).e).map ay.enc)]]) _ _ () hl3 ?_ ?_
         ·exact ls
         ·rintro x17 _ r3 hm hr3;replace hm:jL l6 x13 l14 x17 = some r3:=hm;refine aJ ?_;unfold jL at hm;refine am [] ?_;refine ap fun k5 hk5=>?_
          by_cases h13:x17 < (l14.length:Int)
          ·rw [iP h13] at hm;refine ag rfl (dT h13) ?_;refine aq ?_;refine ak (hk5 _ _ ?_);refine ap fun k6 hk6=>?_;refine az ?_;obtain ⟨hg14a,hm⟩:=gd hm;refine bj (em (eK .i64) l14 x17.toNat) [82,83,84] ?_;obtain ⟨hg15a,hm⟩:=gd hm;refine bj (em eB l6 ((l14.getD x17.toNat default).toNat)) [15,85,86,87,88] ?_
           by_cases h16:(l6.getD ((l14.getD x17.toNat default).toNat) default) = true
           ·rw [iP h16] at hm;refine ai rfl (by rw [show (l6.getD ((l14.getD x17.toNat default).toNat) default) = true from (h16)];rfl) ?_;refine aq ?_;refine au ?_;refine ak (hk6 _ _ ?_);refine bn ?_;refine aC (IntKind.wrap .i64 (x17 + 1)) () hm ?_;exact ls
           ·rw [iN h16] at hm;refine ag rfl (by rw [show (l6.getD ((l14.getD x17.toNat default).toNat) default) = false from (fB h16)];rfl) ?_;refine am [1,5,11,65,66,67,79,80,81,89,90,91] ?_;have ho17:=aA hm hr3;subst ho17;replace hm:some (.inr (.inr (aw.mk 9 x13))) = some r2:=hm3;have ho18:=aA hm hr2;subst ho18;replace hm:some (aw.mk 9 x13) = some r:=hm2;refine aj ?_;refine ab (ah (aG (ab (ab (av (aG (ab (av ?_))))))))
            cases hm
            exact kr 0
          ·rw [iN h13] at hm;refine ai rfl (dF h13) ?_;refine bq ?_;have ho19:=aA hm hr3;subst ho19;replace hm:iT x13 = some r2:=hm3;refine bb (aQ (aF (au ?_)));refine ax () () hm ?_;exact ls
       ·rintro _ _ hm;replace hm:iT x13 = some r2:=hm;refine aJ ?_;unfold iT at hm;refine bn ?_;refine aC (IntKind.wrap .i64 (x13 + 1)) () hm ?_;exact ls
      ·rw [iN h11] at hm;refine ai rfl (dF h11) ?_;refine bq ?_;have ho22:=aA hm hr2;subst ho22;replace hm:iS p1 l6 = some r:=hm2;refine bb (aQ (aF ?_));refine ax () () hm ?_;exact ls
    ·rintro _ _ hm;replace hm:iS p1 l6 = some r:=hm;refine aJ ?_;unfold iS at hm;refine aK (S:=Unit) (V:=Unit) [1,5,17,94,95,96,97,98,99,100,101,102,103,104,105,106,107] (fun _ _=>[]) (fun _ _=>[.box [.tree 2 (p1.vars.map ao.enc),.tree 1 (p1.in_.map (eK .i64)),.tree 1 (p1.out_.map (eK .i64)),.tree 6 (p1.rules.map af.enc)],.box [.int .i64 0,.int .i64 0],.box [.tree 2 (p1.vars.map ao.enc),.tree 1 (p1.in_.map (eK .i64)),.tree 1 (p1.out_.map (eK .i64)),.tree 6 (p1.rules.map af.enc),.int .i64 x5],.box [.int .i64 ((y1).code),.int .i64 ((y1).at_)],.arr 1 0 4 (l6.map eB)]) (fun _=>jK = some r) ?_ ?_
     ·skip;refine am [1,94] ?_
      refine az ?_;obtain ⟨o1,hl1,hm1⟩:=bd hm;refine be (S:=Int) (V:=Unit) (O:=Unit ⊕ aw) [5,17,97,98,99,100,101,102,103,104,105,106,107] (fun x9 _=>[(5,.c (.osl 4 0 0 l6.length)),(97,.c (.int .i64 x9))]) (fun x9 _=>[.box [.tree 2 (p1.vars.map ao.enc),.tree 1 (p1.in_.map (eK .i64)),.tree 1 (p1.out_.map (eK .i64)),.tree 6 (p1.rules.map af.enc)],.box [.int .i64 0,.int .i64 0],.box [.tree 2 (p1.vars.map ao.enc),.tree 1 (p1.in_.map (eK .i64)),.tree 1 (p1.out_.map (eK .i64)),.tree 6 (p1.rules.map af.enc),.int .i64 x5],.box [.int .i64 ((y1).code),.int .i64 ((y1).at_)],.arr 1 0 4 (l6.map eB)]) _ _ () hl1 ?_ ?_
      ·exact ls
      ·rintro x9 _ r1 hm hr1;replace hm:iR p1 l6 x9 = some r1:=hm;refine aJ ?_;unfold iR at hm;refine am [] ?_;refine ap fun k2 hk2=>?_
       by_cases h5:x9 < (p1.out_.length:Int)
       ·rw [iP h5] at hm;refine ag rfl (dT h5) ?_;refine aq ?_;refine ak (hk2 _ _ ?_);refine ap fun k3 hk3=>?_;refine az ?_;obtain ⟨hg6a,hm⟩:=gd hm;refine bj (em (eK .i64) p1.out_ x9.toNat) [98,99,100] ?_;obtain ⟨hg7a,hm⟩:=gd hm;refine bj (em eB l6 ((p1.out_.getD x9.toNat default).toNat)) [17,101,102,103,104] ?_
        by_cases h8:(l6.getD ((p1.out_.getD x9.toNat default).toNat) default) = true
        ·rw [iP h8] at hm;refine ai rfl (by rw [show (l6.getD ((p1.out_.getD x9.toNat default).toNat) default) = true from (h8)];rfl) ?_;refine aq ?_;refine au ?_;refine ak (hk3 _ _ ?_);refine bn ?_;refine aC (IntKind.wrap .i64 (x9 + 1)) () hm ?_;exact ls
        ·rw [iN h8] at hm;refine ag rfl (by rw [show (l6.getD ((p1.out_.getD x9.toNat default).toNat) default) = false from (fB h8)];rfl) ?_;refine am [5,95,96,97,105,106] ?_;have ho9:=aA hm hr1;subst ho9;replace hm:some (aw.mk 9 (-1)) = some r:=hm1;refine aj ?_;refine ab (ah (aG (ab (av ?_))))
         cases hm
         exact kr 0
       ·rw [iN h5] at hm;refine ai rfl (dF h5) ?_;refine bq ?_;have ho10:=aA hm hr1;subst ho10;replace hm:jK = some r:=hm1;refine bb (aQ (aF ?_));refine ax () () hm ?_;exact ls
     ·rintro _ _ hm;replace hm:jK = some r:=hm;refine aJ ?_;unfold jK at hm;refine am [108] ?_;refine aj ?_
      cases hm
      exact kr 0
theorem sw (p1:ae) (r:((List Bool)×aw)) (hm:kz p1 = some r):cd Try.prog 25 [.a [.tree 2 (p1.vars.map ao.enc),.tree 1 (p1.in_.map (eK .i64)),.tree 1 (p1.out_.map (eK .i64)),.tree 6 (p1.rules.map af.enc)]] (.t [.c (.tree 1 (r.1.map eB)),.a [.int .i64 ((r.2).code),.int .i64 ((r.2).at_)]]):=by
 refine aM 79 [.tmp 2,.cell 3 35] Try.func25 rfl rfl rfl (by kernel_rfl) (by simp) ?_;refine bP ?_;unfold kz at hm;refine am [0,2] ?_;refine ap fun k1 hk1=>?_;refine aI [13,14] fun k kp hk hp=>?_;refine go ?_;obtain ⟨y1,hc1,hm⟩:=bd hm;refine RP (fun _=>uE p1 _ hc1) ?_;refine aa ?_;refine go ?_;refine hk _ _ ?_;clear hk hp k kp;refine am [15,16] ?_
 by_cases h2:¬ ((y1).code) = 0
 ·rw [iP h2] at hm;refine ag rfl (bne_iff_ne.2 h2) ?_;refine zw [1,4,17,18] [0,0,3] [false,false,true] ?_
  refine cG (jp 2 (.c (.tree 1 (([]:List _).map eB))) rfl (by and_intros <;> trivial)) ?_
  refine nD ?_;refine aj ?_;refine ah ?_
  cases hm
  exact kr 0
 ·rw [iN h2] at hm;refine ai rfl (bne_eq_false_iff_eq.2 (Decidable.not_not.1 h2)) ?_;refine aq ?_;refine ak (hk1 _ _ ?_);refine bx [4,17,19] fun k kp hk hp=>?_;refine an 0 ?_;refine go ?_
  refine RS (ym (k:=3) (e:=3) rfl (by first | kernel_rfl | exact of_decide_eq_true (by kernel_rfl))) ?_
  simp only [bR,bT,tab,bX,reduceIte,↓reduceIte,reduceCtorEq,Int.reduceToNat,Nat.reduceDiv,Nat.reduceMod,Nat.reduceLT,Nat.reduceLeDiff,Nat.reduceAdd,Nat.reduceSub,Nat.reduceMul,Nat.reduceEqDiff,Nat.reduceBEq,Nat.reduceBNe,Nat.reduceGT];refine aa ?_;refine go ?_;refine hk _ _ ?_;clear hk hp k kp;refine f9 [.box [.tree 2 (p1.vars.map ao.enc),.tree 1 (p1.in_.map (eK .i64)),.tree 1 (p1.out_.map (eK .i64)),.tree 6 (p1.rules.map af.enc)],.box [.int .i64 0,.int .i64 0],.box [.int .i64 ((y1).code),.int .i64 ((y1).at_)],.mp Try.prog 3 (([]:List (Int×Int)).map mII)] ?_;refine aK (S:=(List (Int×Int))) (V:=Unit) [6,7,20,21,22,23,24,25,26,27,28,29,30,31,32] (fun l3 _=>[]) (fun l3 _=>[.box [.tree 2 (p1.vars.map ao.enc),.tree 1 (p1.in_.map (eK .i64)),.tree 1 (p1.out_.map (eK .i64)),.tree 6 (p1.rules.map af.enc)],.box [.int .i64 0,.int .i64 0],.box [.int .i64 ((y1).code),.int .i64 ((y1).at_)],.mp Try.prog 3 (l3.map mII)]) (fun l3=>gu p1 l3 = some r) ?_ ?_
  ·skip;refine am [20] ?_
   refine az ?_;obtain ⟨o2,hl2,hm2⟩:=bd hm;refine be (S:=((List (Int×Int))×Int)) (V:=Unit) (O:=(List (Int×Int))) [6,7,23,24,25,26,27,28,29,30,31,32] (fun (l37,x38) _=>[(23,.c (.int .i64 x38))]) (fun (l37,x38) _=>[.box [.tree 2 (p1.vars.map ao.enc),.tree 1 (p1.in_.map (eK .i64)),.tree 1 (p1.out_.map (eK .i64)),.tree 6 (p1.rules.map af.enc)],.box [.int .i64 0,.int .i64 0],.box [.int .i64 ((y1).code),.int .i64 ((y1).at_)],.mp Try.prog 3 (l37.map mII)]) _ _ () hl2 ?_ ?_
   ·exact ls
   ·rintro ⟨l37,x38⟩ _ r2 hm hr2;replace hm:dD p1 l37 x38 = some r2:=hm;refine aJ ?_;unfold dD at hm;refine am [] ?_;refine ap fun k5 hk5=>?_
    by_cases h19:x38 < (p1.rules.length:Int)
    ·rw [iP h19] at hm;refine ag rfl (dT h19) ?_;refine aq ?_;refine ak (hk5 _ _ ?_);refine ap fun k6 hk6=>?_;refine az ?_;obtain ⟨hg20a,hm⟩:=gd hm;refine bj (em af.enc p1.rules x38.toNat) [24,25,26,27] ?_;obtain ⟨⟨hg21a,hg21b⟩,hm⟩:=gd hm;refine mE fun k kp hk hp=>?_;refine an 4 ?_;refine go ?_
     refine RS (zv (k:=3) (e:=3) rfl (by first | rfl | (simp only [bR,bT,tab,bX,reduceIte,↓reduceIte,reduceCtorEq,Int.reduceToNat,Nat.reduceDiv,Nat.reduceMod,Nat.reduceLT,Nat.reduceLeDiff,Nat.reduceAdd,Nat.reduceSub,Nat.reduceMul,Nat.reduceEqDiff,Nat.reduceBEq,Nat.reduceBNe,Nat.reduceGT];done)) (by first | rfl | (simp only [bR,bT,tab,bX,reduceIte,↓reduceIte,reduceCtorEq,Int.reduceToNat,Nat.reduceDiv,Nat.reduceMod,Nat.reduceLT,Nat.reduceLeDiff,Nat.reduceAdd,Nat.reduceSub,Nat.reduceMul,Nat.reduceEqDiff,Nat.reduceBEq,Nat.reduceBNe,Nat.reduceGT];done)) (by first | rfl | (simp only [bR,bT,tab,bX,reduceIte,↓reduceIte,reduceCtorEq,Int.reduceToNat,Nat.reduceDiv,Nat.reduceMod,Nat.reduceLT,Nat.reduceLeDiff,Nat.reduceAdd,Nat.reduceSub,Nat.reduceMul,Nat.reduceEqDiff,Nat.reduceBEq,Nat.reduceBNe,Nat.reduceGT];done)) rfl (by first | kernel_rfl | exact of_decide_eq_true (by kernel_rfl)) (by first | assumption | omega) (by first | assumption | omega)) ?_
     simp only [bR,bT,tab,bX,reduceIte,↓reduceIte,reduceCtorEq,Int.reduceToNat,Nat.reduceDiv,Nat.reduceMod,Nat.reduceLT,Nat.reduceLeDiff,Nat.reduceAdd,Nat.reduceSub,Nat.reduceMul,Nat.reduceEqDiff,Nat.reduceBEq,Nat.reduceBNe,Nat.reduceGT];refine aa ?_;refine go ?_;refine hk _ _ ?_;clear hk hp k kp;refine au ?_;refine ak (hk6 _ _ ?_);refine bn ?_;refine aC (((((p1.rules.getD x38.toNat default).out_,x38):Int×Int) :: l37),(IntKind.wrap .i64 (x38 + 1))) () hm ?_;exact ls
    ·rw [iN h19] at hm;refine ai rfl (dF h19) ?_;refine bq ?_;have ho22:=aA hm hr2;subst ho22;replace hm:gu p1 l37 = some r:=hm2;refine bb (aQ (aF ?_));refine ax l37 () hm ?_;exact ls
  ·rintro l3 _ hm;replace hm:gu p1 l3 = some r:=hm;refine aJ ?_;unfold gu at hm;obtain ⟨⟨hg3a,⟨hg3bx,hg3by⟩⟩,hm⟩:=gd hm;refine am [33,34,35,36] ?_;refine f9 [.box [.tree 2 (p1.vars.map ao.enc),.tree 1 (p1.in_.map (eK .i64)),.tree 1 (p1.out_.map (eK .i64)),.tree 6 (p1.rules.map af.enc)],.box [.int .i64 0,.int .i64 0],.box [.int .i64 ((y1).code),.int .i64 ((y1).at_)],.mp Try.prog 3 (l3.map mII),.arr 1 0 4 ((List.replicate p1.rules.length false).map eB)] ?_;refine aK (S:=(List Bool)) (V:=Unit) [1,5,8,9,10,11,12,37,38,39,40,41,42,43,44,45,46,47,48,49,50,51,52,53,54,55,56,57,58,59,60,61,62,63,64,65,66,67,68,69,70,71,72,73,74,75,76] (fun l5 _=>[(8,.c (.osl 4 0 0 l5.length))]) (fun l5 _=>[.box [.tree 2 (p1.vars.map ao.enc),.tree 1 (p1.in_.map (eK .i64)),.tree 1 (p1.out_.map (eK .i64)),.tree 6 (p1.rules.map af.enc)],.box [.int .i64 0,.int .i64 0],.box [.int .i64 ((y1).code),.int .i64 ((y1).at_)],.mp Try.prog 3 (l3.map mII),.arr 1 0 4 (l5.map eB)]) (fun l5=>iB l5 = some r) ?_ ?_
   ·skip;refine aI [37,38,39] fun k kp hk hp=>?_
    refine go ?_;obtain ⟨y6,hc4,hm⟩:=bd hm;refine RA (dv p1.out_  _ hc4) [] ?_;rintro p σ' ⟨rfl,rfl⟩ _;refine aa ?_;refine go ?_;refine hk _ _ ?_;clear hk hp k kp;refine az ?_;obtain ⟨o1,hl1,hm1⟩:=bd hm;refine be (S:=((List Bool)×(List Int))) (V:=Nat) (O:=(List Bool)) [8,9,10,11,12,40,41,42,43,44,45,46,47,48,49,50,51,52,53,54,55,56,57,58,59,60,61,62,63,64,65,66,67,68,69,70,71,72,73,74,75,76] (fun (l22,l23) v24=>[(8,.c (.osl 4 0 0 l22.length)),(9,.c (.osl 5 v24 0 l23.length))]) (fun (l22,l23) v24=>[.box [.tree 2 (p1.vars.map ao.enc),.tree 1 (p1.in_.map (eK .i64)),.tree 1 (p1.out_.map (eK .i64)),.tree 6 (p1.rules.map af.enc)],.box [.int .i64 0,.int .i64 0],.box [.int .i64 ((y1).code),.int .i64 ((y1).at_)],.mp Try.prog 3 (l3.map mII),.arr 1 0 4 (l22.map eB),.arr 1 v24 3 (l23.map (eK .i64))]) _ _ 1 hl1 ?_ ?_
    ·exact ls
    ·rintro ⟨l22,l23⟩ v24 r1 hm hr1;replace hm:cw p1 l3 l22 l23 = some r1:=hm;refine aJ ?_;unfold cw at hm;refine ap fun k2 hk2=>?_;refine am [40,41] ?_
     by_cases h6:(l23.length:Int) > 0
     ·rw [iP h6] at hm;refine ag rfl (dT h6) ?_;refine aq ?_;refine ak (hk2 _ _ ?_);refine ap fun k3 hk3=>?_;refine az ?_;obtain ⟨⟨hg7a,hg7b⟩,hm⟩:=gd hm;refine bx [42,45,46,47,48,49,50,51,52] fun k kp hk hp=>?_;refine an 4 ?_;refine gox (em (eK .i64) l23 0) ?_
      refine RS (yn (k:=3) (e:=3) rfl (by first | rfl | (simp only [bR,bT,tab,bX,reduceIte,↓reduceIte,reduceCtorEq,Int.reduceToNat,Nat.reduceDiv,Nat.reduceMod,Nat.reduceLT,Nat.reduceLeDiff,Nat.reduceAdd,Nat.reduceSub,Nat.reduceMul,Nat.reduceEqDiff,Nat.reduceBEq,Nat.reduceBNe,Nat.reduceGT];done)) (by first | rfl | (simp only [bR,bT,tab,bX,reduceIte,↓reduceIte,reduceCtorEq,Int.reduceToNat,Nat.reduceDiv,Nat.reduceMod,Nat.reduceLT,Nat.reduceLeDiff,Nat.reduceAdd,Nat.reduceSub,Nat.reduceMul,Nat.reduceEqDiff,Nat.reduceBEq,Nat.reduceBNe,Nat.reduceGT];done)) rfl (by first | kernel_rfl | exact of_decide_eq_true (by kernel_rfl)) (by first | kernel_rfl | exact of_decide_eq_true (by kernel_rfl)) (by first | assumption | omega)) ?_
      simp only [bR,bT,tab,bX,reduceIte,↓reduceIte,reduceCtorEq,Int.reduceToNat,Nat.reduceDiv,Nat.reduceMod,Nat.reduceLT,Nat.reduceLeDiff,Nat.reduceAdd,Nat.reduceSub,Nat.reduceMul,Nat.reduceEqDiff,Nat.reduceBEq,Nat.reduceBNe,Nat.reduceGT];refine aa ?_;refine go ?_;refine hk _ _ ?_;clear hk hp k kp;refine ap fun k4 hk4=>?_
      by_cases h8:((dK l3 (l23.getD 0 default)).isSome) = true
      ·rw [iP h8] at hm;have h8b:=h8
       have h8c:(!((dK l3 (l23.getD 0 default)).isSome)) = false:=by rw [h8b];rfl
       obtain ⟨hg9a,hm⟩:=gd hm;refine bj (a2 (em eB l22 (((dK l3 (l23.getD 0 default)).getD 0).toNat)) (a2 h8b h8c)) [11,53,54,55,56,57,58,59] ?_
       by_cases h10:(l22.getD (((dK l3 (l23.getD 0 default)).getD 0).toNat) default) = true
       ·rw [iP h10] at hm;refine ag rfl (h10) ?_;refine bq ?_;refine bb (aF ?_);refine ak (hk3 _ _ ?_);obtain ⟨hg11a,hm⟩:=gd hm;refine mE fun k kp hk hp=>?_;refine an 1 ?_;refine go ?_
        refine RS (pY rfl (by first | rfl | (simp only [bR,bT,tab,bX,reduceIte,↓reduceIte,reduceCtorEq,Int.reduceToNat,Nat.reduceDiv,Nat.reduceMod,Nat.reduceLT,Nat.reduceLeDiff,Nat.reduceAdd,Nat.reduceSub,Nat.reduceMul,Nat.reduceEqDiff,Nat.reduceBEq,Nat.reduceBNe,Nat.reduceGT];done)) rfl (by first | kernel_rfl | exact of_decide_eq_true (by kernel_rfl)) (by first | kernel_rfl | exact of_decide_eq_true (by kernel_rfl)) (by first | kernel_rfl | exact of_decide_eq_true (by kernel_rfl)) rfl rfl rfl rfl (by and_intros <;> omega)) ?_
        simp only [bR,bT,tab,bX,reduceIte,↓reduceIte,reduceCtorEq,Int.reduceToNat,Nat.reduceDiv,Nat.reduceMod,Nat.reduceLT,Nat.reduceLeDiff,Nat.reduceAdd,Nat.reduceSub,Nat.reduceMul,Nat.reduceEqDiff,Nat.reduceBEq,Nat.reduceBNe,Nat.reduceGT];refine aa ?_;refine go ?_;refine hk _ _ ?_;clear hk hp k kp
        refine si (qz 9 5 1 ((l23.drop 1).length) rfl (by first | omega | (simp only [jI,List.length_cons,List.length_nil,List.length_append,List.length_set,List.length_replicate,List.length_map,List.length_take,List.length_drop];omega)) rfl (by simp only [List.length_drop,List.length_append])) ?_
        simp only [bE,Nat.reduceDiv,Nat.reduceMod,Nat.reduceLT,Nat.reduceLeDiff,Nat.reduceAdd,Nat.reduceSub,Nat.reduceMul,Nat.reduceEqDiff,Nat.reduceBEq,Nat.reduceBNe,Nat.reduceGT,Int.reduceToNat,bZ,bL,reduceIte,↓reduceIte,reduceCtorEq,Int.reduceToNat,Nat.reduceDiv,Nat.reduceMod,Nat.reduceLT,Nat.reduceLeDiff,Nat.reduceAdd,Nat.reduceSub,Nat.reduceMul,Nat.reduceEqDiff,Nat.reduceBEq,Nat.reduceBNe,Nat.reduceGT];refine aC (l22,(l23.drop 1)) (v24 + 1) hm ?_;exact ls
       ·rw [iN h10] at hm;refine ai rfl (fB h10) ?_;refine aq ?_;refine ak (hk4 _ _ ?_);refine bj (em eB l22 (((dK l3 (l23.getD 0 default)).getD 0).toNat)) [60,61,62,63] ?_;refine f9 [.box [.tree 2 (p1.vars.map ao.enc),.tree 1 (p1.in_.map (eK .i64)),.tree 1 (p1.out_.map (eK .i64)),.tree 6 (p1.rules.map af.enc)],.box [.int .i64 0,.int .i64 0],.box [.int .i64 ((y1).code),.int .i64 ((y1).at_)],.mp Try.prog 3 (l3.map mII),.arr 1 0 4 ((l22.set (((dK l3 (l23.getD 0 default)).getD 0).toNat) true).map eB),.arr 1 v24 3 (l23.map (eK .i64))] ?_;obtain ⟨hg12a,hm⟩:=gd hm;refine bj (em af.enc p1.rules (((dK l3 (l23.getD 0 default)).getD 0).toNat)) [10,64,65,66,67,68] ?_;refine aK (S:=(List ay)) (V:=Nat) [8,9,69,70,71,72] (fun l27 v26=>[(8,.c (.osl 4 0 0 l22.length)),(9,.c (.osl 5 v26 0 l23.length))]) (fun l27 v26=>[.box [.tree 2 (p1.vars.map ao.enc),.tree 1 (p1.in_.map (eK .i64)),.tree 1 (p1.out_.map (eK .i64)),.tree 6 (p1.rules.map af.enc)],.box [.int .i64 0,.int .i64 0],.box [.int .i64 ((y1).code),.int .i64 ((y1).at_)],.mp Try.prog 3 (l3.map mII),.arr 1 0 4 ((l22.set (((dK l3 (l23.getD 0 default)).getD 0).toNat) true).map eB),.arr 1 v26 3 (l23.map (eK .i64)),.box [.int .i64 ((p1.rules.getD (((dK l3 (l23.getD 0 default)).getD 0).toNat) default).op),.int .i64 ((p1.rules.getD (((dK l3 (l23.getD 0 default)).getD 0).toNat) default).k),.int .i64 ((p1.rules.getD (((dK l3 (l23.getD 0 default)).getD 0).toNat) default).out_),.int .i64 ((p1.rules.getD (((dK l3 (l23.getD 0 default)).getD 0).toNat) default).n),.tree 1 (((p1.rules.getD (((dK l3 (l23.getD 0 default)).getD 0).toNat) default).a).map (eK .i64)),.tree 4 (l27.map ay.enc)]]) (fun l27=>dC p1 l3 l22 l23 l27 = some r1) ?_ ?_
        ·skip;refine am [69,70] ?_
         by_cases h16:((p1.rules.getD (((dK l3 (l23.getD 0 default)).getD 0).toNat) default).op) < 14
         ·rw [iP h16] at hm;refine ag rfl (dT h16) ?_;refine bn ?_
          refine vn (mD 6 [.int .i64 ((p1.rules.getD (((dK l3 (l23.getD 0 default)).getD 0).toNat) default).op),.int .i64 ((p1.rules.getD (((dK l3 (l23.getD 0 default)).getD 0).toNat) default).k),.int .i64 ((p1.rules.getD (((dK l3 (l23.getD 0 default)).getD 0).toNat) default).out_),.int .i64 ((p1.rules.getD (((dK l3 (l23.getD 0 default)).getD 0).toNat) default).n),.tree 1 (((p1.rules.getD (((dK l3 (l23.getD 0 default)).getD 0).toNat) default).a).map (eK .i64)),.tree 4 []] rfl (by and_intros <;> trivial)) ?_
          refine gz ?_;refine ax [] v24 hm ?_;exact ls
         ·rw [iN h16] at hm;refine ai rfl (dF h16) ?_;refine aq ?_;refine ax ((p1.rules.getD (((dK l3 (l23.getD 0 default)).getD 0).toNat) default).e) v24 hm ?_;exact ls
        ·rintro l27 v26 hm;replace hm:dC p1 l3 l22 l23 l27 = some r1:=hm;refine aJ ?_;unfold dC at hm;refine e8 fun k kp hk hp=>?_;refine go ?_;obtain ⟨y28,hc13,hm⟩:=bd hm;refine RP (fun _=>n7 (af.mk ((p1.rules.getD (((dK l3 (l23.getD 0 default)).getD 0).toNat) default).op) ((p1.rules.getD (((dK l3 (l23.getD 0 default)).getD 0).toNat) default).k) ((p1.rules.getD (((dK l3 (l23.getD 0 default)).getD 0).toNat) default).out_) ((p1.rules.getD (((dK l3 (l23.getD 0 default)).getD 0).toNat) default).n) ((p1.rules.getD (((dK l3 (l23.getD 0 default)).getD 0).toNat) default).a) l27) _ hc13) ?_;obtain ⟨⟨hg14ax,hg14ay⟩,hm⟩:=gd hm;refine aa ?_;refine go ?_;refine hk _ _ ?_;clear hk hp k kp;refine au ?_;refine ak (hk3 _ _ ?_);obtain ⟨hg15a,hm⟩:=gd hm;refine mE fun k kp hk hp=>?_;refine an 1 ?_;refine go ?_
         refine RS (pY rfl (by first | rfl | (simp only [bR,bT,tab,bX,reduceIte,↓reduceIte,reduceCtorEq,Int.reduceToNat,Nat.reduceDiv,Nat.reduceMod,Nat.reduceLT,Nat.reduceLeDiff,Nat.reduceAdd,Nat.reduceSub,Nat.reduceMul,Nat.reduceEqDiff,Nat.reduceBEq,Nat.reduceBNe,Nat.reduceGT];done)) rfl (by first | kernel_rfl | exact of_decide_eq_true (by kernel_rfl)) (by first | kernel_rfl | exact of_decide_eq_true (by kernel_rfl)) (by first | kernel_rfl | exact of_decide_eq_true (by kernel_rfl)) rfl rfl rfl rfl (by and_intros <;> omega)) ?_
         simp only [bR,bT,tab,bX,reduceIte,↓reduceIte,reduceCtorEq,Int.reduceToNat,Nat.reduceDiv,Nat.reduceMod,Nat.reduceLT,Nat.reduceLeDiff,Nat.reduceAdd,Nat.reduceSub,Nat.reduceMul,Nat.reduceEqDiff,Nat.reduceBEq,Nat.reduceBNe,Nat.reduceGT];refine aa ?_;refine go ?_;refine hk _ _ ?_;clear hk hp k kp
         refine si (qz 9 5 1 (((l23 ++ y28).drop 1).length) rfl (by first | omega | (simp only [jI,List.length_cons,List.length_nil,List.length_append,List.length_set,List.length_replicate,List.length_map,List.length_take,List.length_drop];omega)) rfl (by simp only [List.length_drop,List.length_append])) ?_
         simp only [bE,Nat.reduceDiv,Nat.reduceMod,Nat.reduceLT,Nat.reduceLeDiff,Nat.reduceAdd,Nat.reduceSub,Nat.reduceMul,Nat.reduceEqDiff,Nat.reduceBEq,Nat.reduceBNe,Nat.reduceGT,Int.reduceToNat,bZ,bL,reduceIte,↓reduceIte,reduceCtorEq,Int.reduceToNat,Nat.reduceDiv,Nat.reduceMod,Nat.reduceLT,Nat.reduceLeDiff,Nat.reduceAdd,Nat.reduceSub,Nat.reduceMul,Nat.reduceEqDiff,Nat.reduceBEq,Nat.reduceBNe,Nat.reduceGT];refine aC ((l22.set (((dK l3 (l23.getD 0 default)).getD 0).toNat) true),((l23 ++ y28).drop 1)) ((v26 + 1) + 1) hm ?_;exact ls
      ·rw [iN h8] at hm;have h8b:=fB h8
       have h8c:(!((dK l3 (l23.getD 0 default)).isSome)) = true:=by rw [h8b];rfl
       refine bj (a2 h8b h8c) [11,53,54,55,56,57,58,59] ?_;refine ag rfl rfl ?_;refine bq ?_;refine bb (aF ?_);refine ak (hk3 _ _ ?_);obtain ⟨hg17a,hm⟩:=gd hm;refine mE fun k kp hk hp=>?_;refine an 1 ?_;refine go ?_
       refine RS (pY rfl (by first | rfl | (simp only [bR,bT,tab,bX,reduceIte,↓reduceIte,reduceCtorEq,Int.reduceToNat,Nat.reduceDiv,Nat.reduceMod,Nat.reduceLT,Nat.reduceLeDiff,Nat.reduceAdd,Nat.reduceSub,Nat.reduceMul,Nat.reduceEqDiff,Nat.reduceBEq,Nat.reduceBNe,Nat.reduceGT];done)) rfl (by first | kernel_rfl | exact of_decide_eq_true (by kernel_rfl)) (by first | kernel_rfl | exact of_decide_eq_true (by kernel_rfl)) (by first | kernel_rfl | exact of_decide_eq_true (by kernel_rfl)) rfl rfl rfl rfl (by and_intros <;> omega)) ?_
       simp only [bR,bT,tab,bX,reduceIte,↓reduceIte,reduceCtorEq,Int.reduceToNat,Nat.reduceDiv,Nat.reduceMod,Nat.reduceLT,Nat.reduceLeDiff,Nat.reduceAdd,Nat.reduceSub,Nat.reduceMul,Nat.reduceEqDiff,Nat.reduceBEq,Nat.reduceBNe,Nat.reduceGT];refine aa ?_;refine go ?_;refine hk _ _ ?_;clear hk hp k kp
       refine si (qz 9 5 1 ((l23.drop 1).length) rfl (by first | omega | (simp only [jI,List.length_cons,List.length_nil,List.length_append,List.length_set,List.length_replicate,List.length_map,List.length_take,List.length_drop];omega)) rfl (by simp only [List.length_drop,List.length_append])) ?_
       simp only [bE,Nat.reduceDiv,Nat.reduceMod,Nat.reduceLT,Nat.reduceLeDiff,Nat.reduceAdd,Nat.reduceSub,Nat.reduceMul,Nat.reduceEqDiff,Nat.reduceBEq,Nat.reduceBNe,Nat.reduceGT,Int.reduceToNat,bZ,bL,reduceIte,↓reduceIte,reduceCtorEq,Int.reduceToNat,Nat.reduceDiv,Nat.reduceMod,Nat.reduceLT,Nat.reduceLeDiff,Nat.reduceAdd,Nat.reduceSub,Nat.reduceMul,Nat.reduceEqDiff,Nat.reduceBEq,Nat.reduceBNe,Nat.reduceGT];refine aC (l22,(l23.drop 1)) (v24 + 1) hm ?_;exact ls
     ·rw [iN h6] at hm;refine ai rfl (dF h6) ?_;refine bq ?_;have ho18:=aA hm hr1;subst ho18;replace hm:iB l22 = some r:=hm1;refine bb (aQ (aF ?_));refine ax l22 () hm ?_;exact ls
   ·rintro l5 _ hm;replace hm:iB l5 = some r:=hm;refine aJ ?_;unfold iB at hm;refine am [8,77,78] ?_;refine eP (bJ 4 rfl) ?_;refine aj ?_
    cases hm
    exact kr 0
theorem nf (p1:ae) (r:(ae×aw)) (hm:jr p1 = some r):cd Try.prog 14 [.a [.tree 2 (p1.vars.map ao.enc),.tree 1 (p1.in_.map (eK .i64)),.tree 1 (p1.out_.map (eK .i64)),.tree 6 (p1.rules.map af.enc)]] (.t [.a [.tree 2 (((r.1).vars).map ao.enc),.tree 1 (((r.1).in_).map (eK .i64)),.tree 1 (((r.1).out_).map (eK .i64)),.tree 6 (((r.1).rules).map af.enc)],.a [.int .i64 ((r.2).code),.int .i64 ((r.2).at_)]]):=by
 refine aM 51 [.cell 2 26,.cell 3 35] Try.func14 rfl rfl rfl (by kernel_rfl) (by simp) ?_;refine bP ?_;unfold jr at hm;refine am [0] ?_;refine aI [9,10,11,12,13] fun k kp hk hp=>?_;refine go ?_;obtain ⟨y1,hc1,hm⟩:=bd hm;refine RP (fun _=>sw p1 _ hc1) ?_;refine aa ?_;refine go ?_;refine hk _ _ ?_;clear hk hp k kp;refine ap fun k1 hk1=>?_;refine am [14,15] ?_
 by_cases h2:¬ ((y1.2).code) = 0
 ·rw [iP h2] at hm;refine ag rfl (bne_iff_ne.2 h2) ?_;refine rH [1,4,5,16,17,18] (by kernel_rfl) [1] [0,0,1,7] [false,false,false,true] [false,false,true,false] [[],[5],[],[]] (by kernel_rfl) fun k hk=>?_;refine gp ?_;refine hk _ _ ?_;clear hk k
  refine cG (mD 1 [.tree 2 ([].map ao.enc),.tree 1 ([].map (eK .i64)),.tree 1 ([].map (eK .i64)),.tree 6 ([].map af.enc)] rfl (by and_intros <;> trivial)) ?_
  refine nC rfl (by simp only [bZ,bL,reduceIte,↓reduceIte,reduceCtorEq,Int.reduceToNat,Nat.reduceDiv,Nat.reduceMod,Nat.reduceLT,Nat.reduceLeDiff,Nat.reduceAdd,Nat.reduceSub,Nat.reduceMul,Nat.reduceEqDiff,Nat.reduceBEq,Nat.reduceBNe,Nat.reduceGT];rfl) ?_;refine aj ?_;refine ah ?_
  cases hm
  exact kr 0
 ·rw [iN h2] at hm;refine ai rfl (bne_eq_false_iff_eq.2 (Decidable.not_not.1 h2)) ?_;refine aq ?_;refine ak (hk1 _ _ ?_);refine xG [5,16,19,20,21,22,23,24,25,26,27,28] [6] [0,1,3,0,8,31,0,64,255,511,0,2047] [false,false,false,false,false,false,false,false,false,false,false,true] (by kernel_rfl) (by kernel_rfl) (by decide) fun k kp hk=>?_;simp only [fb,mP,rt,pC];refine ga ?_;obtain ⟨y2,hc3,hm⟩:=bd hm;refine ca (σ2:=[.box [.tree 2 (p1.vars.map ao.enc),.tree 1 (p1.in_.map (eK .i64)),.tree 1 (p1.out_.map (eK .i64)),.tree 6 (p1.rules.map af.enc)],.box [.nils,.nils,.nils,.nils],.box [.int .i64 0,.int .i64 0],.box [.int .i64 ((y1.2).code),.int .i64 ((y1.2).at_)],.arr 2 1 50 (y2.map ao.enc)]) (res:=.c (.osl 4 1 0 y2.length)) (ct [] (j4 p1.vars  _ hc3)) ?_;refine ga ?_;obtain ⟨y3,hc4,hm⟩:=bd hm;refine ca (σ2:=[.box [.tree 2 (p1.vars.map ao.enc),.tree 1 (p1.in_.map (eK .i64)),.tree 1 (p1.out_.map (eK .i64)),.tree 6 (p1.rules.map af.enc)],.box [.nils,.nils,.nils,.nils],.box [.int .i64 0,.int .i64 0],.box [.int .i64 ((y1.2).code),.int .i64 ((y1.2).at_)],.arr 2 1 50 (y2.map ao.enc),.arr 1 1 3 (y3.map (eK .i64))]) (res:=.c (.osl 5 1 0 y3.length)) (ct [] (dv p1.in_  _ hc4)) ?_;refine ga ?_;obtain ⟨y4,hc5,hm⟩:=bd hm;refine ca (σ2:=[.box [.tree 2 (p1.vars.map ao.enc),.tree 1 (p1.in_.map (eK .i64)),.tree 1 (p1.out_.map (eK .i64)),.tree 6 (p1.rules.map af.enc)],.box [.nils,.nils,.nils,.nils],.box [.int .i64 0,.int .i64 0],.box [.int .i64 ((y1.2).code),.int .i64 ((y1.2).at_)],.arr 2 1 50 (y2.map ao.enc),.arr 1 1 3 (y3.map (eK .i64)),.arr 1 1 3 (y4.map (eK .i64))]) (res:=.c (.osl 6 1 0 y4.length)) (ct [] (dv p1.out_  _ hc5)) ?_;refine ga ?_;refine go ?_;refine hk _ _ ?_;clear hk k kp;refine eP (pA 7 3 6 53 (by decide) rfl rfl) ?_;refine aK (S:=(List af)) (V:=Nat) [1,4,7,8,29,30,31,32,33,34,35,36,37,38,39,40,41,42,43,44,45,46,47,48] (fun l7 v8=>[]) (fun l7 v8=>[.box [.tree 2 (p1.vars.map ao.enc),.tree 1 (p1.in_.map (eK .i64)),.tree 1 (p1.out_.map (eK .i64)),.tree 6 (p1.rules.map af.enc)],.box [.nils,.nils,.nils,.nils],.box [.int .i64 0,.int .i64 0],.box [.int .i64 ((y1.2).code),.int .i64 ((y1.2).at_)],.arr 2 1 50 (y2.map ao.enc),.arr 1 1 3 (y3.map (eK .i64)),.arr 1 1 3 (y4.map (eK .i64)),.box [.osl 4 1 0 y2.length,.osl 5 1 0 y3.length,.osl 6 1 0 y4.length,.osl 8 v8 0 l7.length],.arr 6 v8 53 (l7.map af.enc)]) (fun l7=>jM y2 y3 y4 l7 = some r) ?_ ?_
  ·skip;refine am [1,29] ?_
   refine az ?_;obtain ⟨o1,hl1,hm1⟩:=bd hm;refine be (S:=((List af)×Int)) (V:=Nat) (O:=(List af)) [7,8,32,33,34,35,36,37,38,39,40,41,42,43,44,45,46,47,48] (fun (l21,x23) v22=>[(32,.c (.int .i64 x23))]) (fun (l21,x23) v22=>[.box [.tree 2 (p1.vars.map ao.enc),.tree 1 (p1.in_.map (eK .i64)),.tree 1 (p1.out_.map (eK .i64)),.tree 6 (p1.rules.map af.enc)],.box [.nils,.nils,.nils,.nils],.box [.int .i64 0,.int .i64 0],.box [.int .i64 ((y1.2).code),.int .i64 ((y1.2).at_)],.arr 2 1 50 (y2.map ao.enc),.arr 1 1 3 (y3.map (eK .i64)),.arr 1 1 3 (y4.map (eK .i64)),.box [.osl 4 1 0 y2.length,.osl 5 1 0 y3.length,.osl 6 1 0 y4.length,.osl 8 v22 0 l21.length],.arr 6 v22 53 (l21.map af.enc)]) _ _ 0 hl1 ?_ ?_
   ·exact ls
   ·rintro ⟨l21,x23⟩ v22 r1 hm hr1;replace hm:eR p1 y1 l21 x23 = some r1:=hm;refine aJ ?_;unfold eR at hm;refine am [] ?_;refine ap fun k2 hk2=>?_
    by_cases h6:x23 < (p1.rules.length:Int)
    ·rw [iP h6] at hm;refine ag rfl (dT h6) ?_;refine aq ?_;refine ak (hk2 _ _ ?_);refine ap fun k3 hk3=>?_;refine az ?_;obtain ⟨hg7a,hm⟩:=gd hm;refine bj (em af.enc p1.rules x23.toNat) [33,34,35,36] ?_;obtain ⟨hg8a,hm⟩:=gd hm;refine bj (em eB y1.1 x23.toNat) [7,37,38,39] ?_
     by_cases h9:(y1.1.getD x23.toNat default) = true
     ·rw [iP h9] at hm;refine ag rfl (h9) ?_;refine ra (by kernel_rfl) [0,1,0,4,12,31,63,127] [false,false,false,false,false,true,true,true] (by kernel_rfl) fun k hk=>?_;refine ga ?_;obtain ⟨y24,hc10,hm⟩:=bd hm;refine AP (fun _=>uB (p1.rules.getD x23.toNat default) _ hc10) ?_;obtain ⟨⟨hg11ax,hg11ay⟩,hm⟩:=gd hm;refine ga ?_;refine hk _ _ ?_;clear hk k;refine au ?_;refine ak (hk3 _ _ ?_);refine bn ?_;refine aC ((l21 ++ (lit ([(y24)]:List af))),(IntKind.wrap .i64 (x23 + 1))) (v22 + 1) hm ?_;exact ls
     ·rw [iN h9] at hm;refine ai rfl (fB h9) ?_;refine aq ?_;refine au ?_;refine ak (hk3 _ _ ?_);refine bn ?_;refine aC (l21,(IntKind.wrap .i64 (x23 + 1))) v22 hm ?_;exact ls
    ·rw [iN h6] at hm;refine ai rfl (dF h6) ?_;refine bq ?_;have ho12:=aA hm hr1;subst ho12;replace hm:jM y2 y3 y4 l21 = some r:=hm1;refine bb (aQ (aF ?_));refine ax l21 v22 hm ?_;exact ls
  ·rintro l7 v8 hm;replace hm:jM y2 y3 y4 l7 = some r:=hm;refine aJ ?_;unfold jM at hm;refine am [6,49,50] ?_;refine eP (bJ 4 rfl) ?_;refine eP (bJ 5 rfl) ?_;refine eP (bJ 6 rfl) ?_;refine eP (bJ 8 rfl) ?_;refine aj ?_
   cases hm
   exact kr 0
theorem qF (r:Bool) (hm:i8  = some r):cd Try.prog 13 [] (.c (.bool r)):=by
 refine aM 37 [.tmp 0] Try.func13 rfl rfl rfl (by kernel_rfl) (by simp) ?_;refine bP ?_;unfold i8 at hm;refine am [0] ?_;refine am [5] ?_;refine bx [1,6,7,8,9,10,11,12,13,14] fun k kp hk hp=>?_;refine an 7 ?_;refine go ?_
 refine kj (jp 10 (.a [.int .i64 1,.int .i64 0,.int .i64 0,.int .i64 1,.tree 1 ([].map (eK .i64)),.tree 4 ([].map ay.enc)]) (by first | rfl | (simp only [bR,bT,tab,bX,reduceIte,↓reduceIte,reduceCtorEq,Int.reduceToNat,Nat.reduceDiv,Nat.reduceMod,Nat.reduceLT,Nat.reduceLeDiff,Nat.reduceAdd,Nat.reduceSub,Nat.reduceMul,Nat.reduceEqDiff,Nat.reduceBEq,Nat.reduceBNe,Nat.reduceGT];done)) (by and_intros <;> trivial)) ?_
 simp only [bE,Nat.reduceDiv,Nat.reduceMod,Nat.reduceLT,Nat.reduceLeDiff,Nat.reduceAdd,Nat.reduceSub,Nat.reduceMul,Nat.reduceEqDiff,Nat.reduceBEq,Nat.reduceBNe,Nat.reduceGT,Int.reduceToNat]
 refine kj (jp 12 (.a [.int .i64 2,.int .i64 0,.int .i64 1,.int .i64 0,.osl 3 0 0 1,.tree 4 ([].map ay.enc)]) (by first | rfl | (simp only [bR,bT,tab,bX,reduceIte,↓reduceIte,reduceCtorEq,Int.reduceToNat,Nat.reduceDiv,Nat.reduceMod,Nat.reduceLT,Nat.reduceLeDiff,Nat.reduceAdd,Nat.reduceSub,Nat.reduceMul,Nat.reduceEqDiff,Nat.reduceBEq,Nat.reduceBNe,Nat.reduceGT];done)) (by and_intros <;> trivial)) ?_
 simp only [bE,Nat.reduceDiv,Nat.reduceMod,Nat.reduceLT,Nat.reduceLeDiff,Nat.reduceAdd,Nat.reduceSub,Nat.reduceMul,Nat.reduceEqDiff,Nat.reduceBEq,Nat.reduceBNe,Nat.reduceGT,Int.reduceToNat];refine an 0 ?_;refine go ?_;refine kj (bJ 3 rfl) ?_;refine gz ?_;refine aa ?_;refine go ?_;refine hk _ _ ?_;clear hk hp k kp;refine f9 [.box [.int .u8 105,.int .i64 0],.arr 2 0 50 ((lit ([(ao.mk 105 0),(ao.mk 105 0)]:List ao)).map ao.enc),.arr 1 0 3 ((lit ([0]:List Int)).map (eK .i64)),.dead,.arr 6 0 53 ((lit ([(af.mk 1 0 0 1 [] []),(af.mk 2 0 1 0 (lit ([0]:List Int)) [])]:List af)).map af.enc),.box [.osl 1 0 0 2,.nils,.osl 2 0 0 1,.osl 4 0 0 2]] ?_;refine aI [2,15,16,17,18,19] fun k kp hk hp=>?_;refine go ?_
 refine kX (jp 16 (.a [.osl 1 0 0 2,.tree 1 ([].map (eK .i64)),.osl 2 0 0 1,.osl 4 0 0 2]) rfl (by and_intros <;> trivial)) ?_
 refine go ?_;refine kX (bJ 1 rfl) ?_;refine gt ?_;refine kX (bJ 2 rfl) ?_;refine gt ?_;refine kX (bJ 4 rfl) ?_;refine gt ?_;obtain ⟨y1,hc1,hm⟩:=bd hm;refine RP (fun _=>nf (ae.mk (lit ([(ao.mk 105 0),(ao.mk 105 0)]:List ao)) [] (lit ([0]:List Int)) (lit ([(af.mk 1 0 0 1 [] []),(af.mk 2 0 1 0 (lit ([0]:List Int)) [])]:List af))) _ hc1) ?_;refine aa ?_;refine go ?_;refine hk _ _ ?_;clear hk hp k kp;refine bx [3,4,20,21,22,23,24,25,26,27,28,29,30,31,32,33,34,35,36] fun k kp hk hp=>?_;refine an 4 ?_;refine go ?_
 by_cases h2:((y1.2).code) = 0
 ·rw [iP h2] at hm;have h2b:=eQ h2;refine an 6 ?_;refine gox h2b ?_
  by_cases h3:(((y1.1).rules).length:Int) = 1
  ·rw [iP h3] at hm;have h3b:=eQ h3;obtain ⟨hg4a,hm⟩:=gd hm;refine aa ?_;refine gox (a2 (em af.enc ((y1.1).rules) 0) (a2 h2b h3b)) ?_;refine hk _ _ ?_;clear hk hp k kp;refine aj ?_
   cases hm
   exact kr 0
  ·rw [iN h3] at hm;have h3b:=nB h3;refine aa ?_;refine gox (a2 h2b h3b) ?_;refine hk _ _ ?_;clear hk hp k kp;refine aj ?_
   cases hm
   exact kr 0
 ·rw [iN h2] at hm;have h2b:=nB h2;refine aa ?_;refine gox h2b ?_;refine hk _ _ ?_;clear hk hp k kp;refine aj ?_
  cases hm
  exact kr 0
theorem kR (p1:List Int) (p2:List Int) (r:Bool) (hm:gP p1 p2 = some r):cd Try.prog 29 [.c (.tree 1 (p1.map (eK .i64))),.c (.tree 1 (p2.map (eK .i64)))] (.c (.bool r)):=by
 refine aM 26 [.tmp 4] Try.func29 rfl rfl rfl (by kernel_rfl) (by simp) ?_;refine bP ?_;unfold gP at hm;refine am [4] ?_;refine ap fun k1 hk1=>?_;refine am [6,7,8,9] ?_
 by_cases h1:¬ (p1.length:Int) = (p2.length:Int)
 ·rw [iP h1] at hm;refine ag rfl (bne_iff_ne.2 h1) ?_;refine am [0,1,10] ?_;refine aj ?_;refine ah ?_
  cases hm
  exact kr 0
 ·rw [iN h1] at hm;refine ai rfl (bne_eq_false_iff_eq.2 (Decidable.not_not.1 h1)) ?_;refine aq ?_;refine ak (hk1 _ _ ?_);refine aK (S:=Unit) (V:=Unit) [0,1,4,5,10,11,12,13,14,15,16,17,18,19,20,21,22,23,24,25] (fun _ _=>[]) (fun _ _=>[]) (fun _=>gU = some r) ?_ ?_
  ·skip;refine am [10] ?_
   refine az ?_;obtain ⟨o1,hl1,hm1⟩:=bd hm;refine be (S:=Int) (V:=Unit) (O:=Unit ⊕ Bool) [4,5,11,12,13,14,15,16,17,18,19,20,21,22,23,24,25] (fun x3 _=>[(5,.c (.int .i64 x3))]) (fun x3 _=>[]) _ _ () hl1 ?_ ?_
   ·exact ls
   ·rintro x3 _ r1 hm hr1;replace hm:gV p1 p2 x3 = some r1:=hm;refine aJ ?_;unfold gV at hm;refine ap fun k2 hk2=>?_;refine am [11,12,13] ?_
    by_cases h2:x3 < (p1.length:Int)
    ·rw [iP h2] at hm;refine ag rfl (dT h2) ?_;refine aq ?_;refine ak (hk2 _ _ ?_);refine ap fun k3 hk3=>?_;refine az ?_;obtain ⟨⟨hg3a,hg3b⟩,hm⟩:=gd hm;refine lE (a2 (em (eK .i64) p1 x3.toNat) (em (eK .i64) p2 x3.toNat)) [14,17,18,19,20,21,22,23,24] [0,0,3,7,0,0,48,112,255] [false,false,false,false,false,false,false,false,true] ?_
     by_cases h4:¬ (p1.getD x3.toNat default) = (p2.getD x3.toNat default)
     ·rw [iP h4] at hm;refine ag rfl (bne_iff_ne.2 h4) ?_;refine am [0,1,5,25] ?_;have ho5:=aA hm hr1;subst ho5;replace hm:some false = some r:=hm1;refine aj ?_;refine ab (ah (aG (ab (av ?_))))
      cases hm
      exact kr 0
     ·rw [iN h4] at hm;refine ai rfl (bne_eq_false_iff_eq.2 (Decidable.not_not.1 h4)) ?_;refine aq ?_;refine au ?_;refine ak (hk3 _ _ ?_);refine bn ?_;refine aC (IntKind.wrap .i64 (x3 + 1)) () hm ?_;exact ls
    ·rw [iN h2] at hm;refine ai rfl (dF h2) ?_;refine bq ?_;have ho6:=aA hm hr1;subst ho6;replace hm:gU = some r:=hm1;refine bb (aQ (aF ?_));refine ax () () hm ?_;exact ls
  ·rintro _ _ hm;replace hm:gU = some r:=hm;refine aJ ?_;unfold gU at hm;refine am [] ?_;refine aj ?_
   cases hm
   exact kr 0
theorem ru (p1:List ay) (p2:List ay) (r:Bool) (hm:jN p1 p2 = some r):cd Try.prog 63 [.c (.tree 4 (p1.map ay.enc)),.c (.tree 4 (p2.map ay.enc))] (.c (.bool r)):=by
 refine aM 26 [.tmp 4] Try.func63 rfl rfl rfl (by kernel_rfl) (by simp) ?_;refine bP ?_;unfold jN at hm;refine am [4] ?_;refine ap fun k1 hk1=>?_;refine am [6,7,8,9] ?_
 by_cases h1:¬ (p1.length:Int) = (p2.length:Int)
 ·rw [iP h1] at hm;refine ag rfl (bne_iff_ne.2 h1) ?_;refine am [0,1,10] ?_;refine aj ?_;refine ah ?_
  cases hm
  exact kr 0
 ·rw [iN h1] at hm;refine ai rfl (bne_eq_false_iff_eq.2 (Decidable.not_not.1 h1)) ?_;refine aq ?_;refine ak (hk1 _ _ ?_);refine aK (S:=Unit) (V:=Unit) [0,1,4,5,10,11,12,13,14,15,16,17,18,19,20,21,22,23,24,25] (fun _ _=>[]) (fun _ _=>[]) (fun _=>gW = some r) ?_ ?_
  ·skip;refine am [10] ?_
   refine az ?_;obtain ⟨o1,hl1,hm1⟩:=bd hm;refine be (S:=Int) (V:=Unit) (O:=Unit ⊕ Bool) [4,5,11,12,13,14,15,16,17,18,19,20,21,22,23,24,25] (fun x3 _=>[(5,.c (.int .i64 x3))]) (fun x3 _=>[]) _ _ () hl1 ?_ ?_
   ·exact ls
   ·rintro x3 _ r1 hm hr1;replace hm:gX p1 p2 x3 = some r1:=hm;refine aJ ?_;unfold gX at hm;refine ap fun k2 hk2=>?_;refine am [11,12,13] ?_
    by_cases h2:x3 < (p1.length:Int)
    ·rw [iP h2] at hm;refine ag rfl (dT h2) ?_;refine aq ?_;refine ak (hk2 _ _ ?_);refine ap fun k3 hk3=>?_;refine az ?_;obtain ⟨⟨hg3a,hg3b⟩,hm⟩:=gd hm;refine lE (a2 (em ay.enc p1 x3.toNat) (em ay.enc p2 x3.toNat)) [14,17,18,19,20,21,22,23,24] [0,0,3,7,0,0,48,112,255] [false,false,false,false,false,false,false,false,true] ?_
     by_cases h4:((p1.getD x3.toNat default).op) = ((p2.getD x3.toNat default).op)∧((p1.getD x3.toNat default).k) = ((p2.getD x3.toNat default).k)∧((p1.getD x3.toNat default).v) = ((p2.getD x3.toNat default).v)∧((p1.getD x3.toNat default).n) = ((p2.getD x3.toNat default).n)
     ·rw [iP h4] at hm;refine ai rfl (by rw [show ((((p1.getD x3.toNat default).op) == ((p2.getD x3.toNat default).op)) && ((((p1.getD x3.toNat default).k) == ((p2.getD x3.toNat default).k)) && ((((p1.getD x3.toNat default).v) == ((p2.getD x3.toNat default).v)) && (((p1.getD x3.toNat default).n) == ((p2.getD x3.toNat default).n))))) = true from (by simpa [Bool.and_eq_true] using h4)];rfl) ?_;refine aq ?_;refine au ?_;refine ak (hk3 _ _ ?_);refine bn ?_;refine aC (IntKind.wrap .i64 (x3 + 1)) () hm ?_;exact ls
     ·rw [iN h4] at hm;refine ag rfl (by rw [show ((((p1.getD x3.toNat default).op) == ((p2.getD x3.toNat default).op)) && ((((p1.getD x3.toNat default).k) == ((p2.getD x3.toNat default).k)) && ((((p1.getD x3.toNat default).v) == ((p2.getD x3.toNat default).v)) && (((p1.getD x3.toNat default).n) == ((p2.getD x3.toNat default).n))))) = false from (fB (fun hh=>h4 (by simpa [Bool.and_eq_true] using hh)))];rfl) ?_;refine am [0,1,5,25] ?_;have ho5:=aA hm hr1;subst ho5;replace hm:some false = some r:=hm1;refine aj ?_;refine ab (ah (aG (ab (av ?_))))
      cases hm
      exact kr 0
    ·rw [iN h2] at hm;refine ai rfl (dF h2) ?_;refine bq ?_;have ho6:=aA hm hr1;subst ho6;replace hm:gW = some r:=hm1;refine bb (aQ (aF ?_));refine ax () () hm ?_;exact ls
  ·rintro _ _ hm;replace hm:gW = some r:=hm;refine aJ ?_;unfold gW at hm;refine am [] ?_;refine aj ?_
   cases hm
   exact kr 0
theorem rv (p1:af) (p2:af) (r:Bool) (hm:jO p1 p2 = some r):cd Try.prog 30 [.a [.int .i64 p1.op,.int .i64 p1.k,.int .i64 p1.out_,.int .i64 p1.n,.tree 1 (p1.a.map (eK .i64)),.tree 4 (p1.e.map ay.enc)],.a [.int .i64 p2.op,.int .i64 p2.k,.int .i64 p2.out_,.int .i64 p2.n,.tree 1 (p2.a.map (eK .i64)),.tree 4 (p2.e.map ay.enc)]] (.c (.bool r)):=by
 refine aM 45 [.tmp 4] Try.func30 rfl rfl rfl (by kernel_rfl) (by simp) ?_;refine bP ?_;unfold jO at hm;refine am [0,1,4] ?_;refine bx [2,3,5,6,7,8,9,10,11,12,13,14,15,16,17,18,19,20,21,22,23,24,25,26,27,28,29,30,31,32,33,34,35,36,37,38,39,40,41,42,43,44] fun k kp hk hp=>?_;refine an 6 ?_;refine go ?_
 by_cases h1:p1.op = p2.op
 ·rw [iP h1] at hm;have h1b:=eQ h1;refine an 7 ?_;refine gox h1b ?_
  by_cases h2:p1.k = p2.k
  ·rw [iP h2] at hm;have h2b:=eQ h2;refine an 7 ?_;refine gox (a2 h1b h2b) ?_
   by_cases h3:p1.out_ = p2.out_
   ·rw [iP h3] at hm;have h3b:=eQ h3;refine an 7 ?_;refine gox (a2 h1b (a2 h2b h3b)) ?_
    by_cases h4:p1.n = p2.n
    ·rw [iP h4] at hm;have h4b:=eQ h4;refine aa ?_;refine gox (a2 h1b (a2 h2b (a2 h3b h4b))) ?_;obtain ⟨y1,hc5,hm⟩:=bd hm;refine RP (fun _=>kR p1.a p2.a _ hc5) ?_
     by_cases h6:y1 = true
     ·rw [iP h6] at hm;have h6b:=h6;refine aa ?_;refine gox (a2 h1b (a2 h2b (a2 h3b (a2 h4b h6b)))) ?_;obtain ⟨y2,hc7,hm⟩:=bd hm;refine RP (fun _=>ru p1.e p2.e _ hc7) ?_;refine aa ?_;refine gox (a2 h1b (a2 h2b (a2 h3b (a2 h4b h6b)))) ?_;refine hk _ _ ?_;clear hk hp k kp;refine aj ?_
      cases hm
      exact kr 0
     ·rw [iN h6] at hm;have h6b:=fB h6;refine aa ?_;refine gox (a2 h1b (a2 h2b (a2 h3b (a2 h4b h6b)))) ?_;refine hk _ _ ?_;clear hk hp k kp;refine aj ?_
      cases hm
      exact kr 0
    ·rw [iN h4] at hm;have h4b:=nB h4;refine aa ?_;refine gox (a2 h1b (a2 h2b (a2 h3b h4b))) ?_;refine hk _ _ ?_;clear hk hp k kp;refine aj ?_
     cases hm
     exact kr 0
   ·rw [iN h3] at hm;have h3b:=nB h3;refine aa ?_;refine gox (a2 h1b (a2 h2b h3b)) ?_;refine hk _ _ ?_;clear hk hp k kp;refine aj ?_
    cases hm
    exact kr 0
  ·rw [iN h2] at hm;have h2b:=nB h2;refine aa ?_;refine gox (a2 h1b h2b) ?_;refine hk _ _ ?_;clear hk hp k kp;refine aj ?_
   cases hm
   exact kr 0
 ·rw [iN h1] at hm;have h1b:=nB h1;refine aa ?_;refine gox h1b ?_;refine hk _ _ ?_;clear hk hp k kp;refine aj ?_
  cases hm
  exact kr 0
theorem qj (p1:ae) (p2:ae) (r:Bool) (hm:iC p1 p2 = some r):cd Try.prog 15 [.a [.tree 2 (p1.vars.map ao.enc),.tree 1 (p1.in_.map (eK .i64)),.tree 1 (p1.out_.map (eK .i64)),.tree 6 (p1.rules.map af.enc)],.a [.tree 2 (p2.vars.map ao.enc),.tree 1 (p2.in_.map (eK .i64)),.tree 1 (p2.out_.map (eK .i64)),.tree 6 (p2.rules.map af.enc)]] (.c (.bool r)):=by
 refine aM 76 [.tmp 4] Try.func15 rfl rfl rfl (by kernel_rfl) (by simp) ?_;refine bP ?_;unfold iC at hm;refine am [0,1,4] ?_;refine ap fun k1 hk1=>?_;refine bx [7,8,9,10,11,12,13,14,15,16,17,18,19,20,21,22,23,24,25,26,27,28,29,30,31,32,33,34,35,36,37] fun k kp hk hp=>?_;refine an 8 ?_;refine go ?_
 by_cases h1:¬ (p1.vars.length:Int) = (p2.vars.length:Int)
 ·rw [iP h1] at hm;have h1b:=bne_iff_ne.2 h1;refine aa ?_;refine gox h1b ?_;refine hk _ _ ?_;clear hk hp k kp;refine ag rfl rfl ?_;refine am [2,3,38] ?_;refine aj ?_;refine ah ?_
  cases hm
  exact kr 0
 ·rw [iN h1] at hm;have h1b:((p1.vars.length:Int) != (p2.vars.length:Int)) = false:=bne_eq_false_iff_eq.2 (Decidable.not_not.1 h1);refine an 9 ?_;refine gox h1b ?_
  by_cases h2:¬ (p1.rules.length:Int) = (p2.rules.length:Int)
  ·rw [iP h2] at hm;have h2b:=bne_iff_ne.2 h2;refine aa ?_;refine gox (a2 h1b h2b) ?_;refine hk _ _ ?_;clear hk hp k kp;refine ag rfl rfl ?_;refine am [2,3,38] ?_;refine aj ?_;refine ah ?_
   cases hm
   exact kr 0
  ·rw [iN h2] at hm;have h2b:((p1.rules.length:Int) != (p2.rules.length:Int)) = false:=bne_eq_false_iff_eq.2 (Decidable.not_not.1 h2);refine aa ?_;refine gox (a2 h1b h2b) ?_;obtain ⟨y1,hc3,hm⟩:=bd hm;refine RP (fun _=>kR p1.in_ p2.in_ _ hc3) ?_
   by_cases h4:y1 = true
   ·rw [iP h4] at hm;have h4b:=h4
    have h4c:(!y1) = false:=by rw [h4b];rfl
    refine aa ?_;refine gox (a2 h1b (a2 h2b (a2 h4b h4c))) ?_;obtain ⟨y2,hc5,hm⟩:=bd hm;refine RP (fun _=>kR p1.out_ p2.out_ _ hc5) ?_;refine aa ?_;refine gox (a2 h1b (a2 h2b (a2 h4b h4c))) ?_;refine hk _ _ ?_;clear hk hp k kp
    by_cases h6:y2 = true
    ·rw [iP h6] at hm;refine ai rfl (by rw [show y2 = true from (h6)];rfl) ?_;refine aq ?_;refine ak (hk1 _ _ ?_);refine aK (S:=Unit) (V:=Unit) [4,5,38,39,40,41,42,43,44,45,46,47,48,49,50,51,52,53,54,55,56] (fun _ _=>[]) (fun _ _=>[.box [.tree 2 (p1.vars.map ao.enc),.tree 1 (p1.in_.map (eK .i64)),.tree 1 (p1.out_.map (eK .i64)),.tree 6 (p1.rules.map af.enc)],.box [.tree 2 (p2.vars.map ao.enc),.tree 1 (p2.in_.map (eK .i64)),.tree 1 (p2.out_.map (eK .i64)),.tree 6 (p2.rules.map af.enc)]]) (fun _=>et p1 p2 = some r) ?_ ?_
     ·skip;refine am [38] ?_
      refine az ?_;obtain ⟨o2,hl2,hm2⟩:=bd hm;refine be (S:=Int) (V:=Unit) (O:=Unit ⊕ Bool) [4,5,39,40,41,42,43,44,45,46,47,48,49,50,51,52,53,54,55,56] (fun x10 _=>[(5,.c (.int .i64 x10))]) (fun x10 _=>[.box [.tree 2 (p1.vars.map ao.enc),.tree 1 (p1.in_.map (eK .i64)),.tree 1 (p1.out_.map (eK .i64)),.tree 6 (p1.rules.map af.enc)],.box [.tree 2 (p2.vars.map ao.enc),.tree 1 (p2.in_.map (eK .i64)),.tree 1 (p2.out_.map (eK .i64)),.tree 6 (p2.rules.map af.enc)]]) _ _ () hl2 ?_ ?_
      ·exact ls
      ·rintro x10 _ r2 hm hr2;replace hm:fN p1 p2 x10 = some r2:=hm;refine aJ ?_;unfold fN at hm;refine ap fun k4 hk4=>?_;refine am [39,40,41,42] ?_
       by_cases h13:x10 < (p1.vars.length:Int)
       ·rw [iP h13] at hm;refine ag rfl (dT h13) ?_;refine aq ?_;refine ak (hk4 _ _ ?_);refine ap fun k5 hk5=>?_;refine az ?_;obtain ⟨⟨hg14a,hg14b⟩,hm⟩:=gd hm;refine lE (a2 (em ao.enc p1.vars x10.toNat) (em ao.enc p2.vars x10.toNat)) [43,46,47,48,49,50,51,52,53,54,55] [0,1,0,7,15,0,32,0,224,480,1023] [false,false,false,false,false,false,false,false,false,false,true] ?_
        by_cases h15:((p1.vars.getD x10.toNat default).elem) = ((p2.vars.getD x10.toNat default).elem)∧((p1.vars.getD x10.toNat default).n) = ((p2.vars.getD x10.toNat default).n)
        ·rw [iP h15] at hm;refine ai rfl (by rw [show ((((p1.vars.getD x10.toNat default).elem) == ((p2.vars.getD x10.toNat default).elem)) && (((p1.vars.getD x10.toNat default).n) == ((p2.vars.getD x10.toNat default).n))) = true from (by simpa [Bool.and_eq_true] using h15)];rfl) ?_;refine aq ?_;refine au ?_;refine ak (hk5 _ _ ?_);refine bn ?_;refine aC (IntKind.wrap .i64 (x10 + 1)) () hm ?_;exact ls
        ·rw [iN h15] at hm;refine ag rfl (by rw [show ((((p1.vars.getD x10.toNat default).elem) == ((p2.vars.getD x10.toNat default).elem)) && (((p1.vars.getD x10.toNat default).n) == ((p2.vars.getD x10.toNat default).n))) = false from (fB (fun hh=>h15 (by simpa [Bool.and_eq_true] using hh)))];rfl) ?_;refine am [2,3,5,56] ?_;have ho16:=aA hm hr2;subst ho16;replace hm:some false = some r:=hm2;refine aj ?_;refine ab (ah (aG (ab (av ?_))))
         cases hm
         exact kr 0
       ·rw [iN h13] at hm;refine ai rfl (dF h13) ?_;refine bq ?_;have ho17:=aA hm hr2;subst ho17;replace hm:et p1 p2 = some r:=hm2;refine bb (aQ (aF ?_));refine ax () () hm ?_;exact ls
     ·rintro _ _ hm;replace hm:et p1 p2 = some r:=hm;refine aJ ?_;unfold et at hm;refine aK (S:=Unit) (V:=Unit) [2,3,4,6,57,58,59,60,61,62,63,64,65,66,67,68,69,70,71,72,73,74,75] (fun _ _=>[]) (fun _ _=>[.box [.tree 2 (p1.vars.map ao.enc),.tree 1 (p1.in_.map (eK .i64)),.tree 1 (p1.out_.map (eK .i64)),.tree 6 (p1.rules.map af.enc)],.box [.tree 2 (p2.vars.map ao.enc),.tree 1 (p2.in_.map (eK .i64)),.tree 1 (p2.out_.map (eK .i64)),.tree 6 (p2.rules.map af.enc)]]) (fun _=>fL = some r) ?_ ?_
      ·skip;refine am [] ?_
       refine az ?_;obtain ⟨o1,hl1,hm1⟩:=bd hm;refine be (S:=Int) (V:=Unit) (O:=Unit ⊕ Bool) [4,6,57,58,59,60,61,62,63,64,65,66,67,68,69,70,71,72,73,74,75] (fun x5 _=>[(6,.c (.int .i64 x5))]) (fun x5 _=>[.box [.tree 2 (p1.vars.map ao.enc),.tree 1 (p1.in_.map (eK .i64)),.tree 1 (p1.out_.map (eK .i64)),.tree 6 (p1.rules.map af.enc)],.box [.tree 2 (p2.vars.map ao.enc),.tree 1 (p2.in_.map (eK .i64)),.tree 1 (p2.out_.map (eK .i64)),.tree 6 (p2.rules.map af.enc)]]) _ _ () hl1 ?_ ?_
       ·exact ls
       ·rintro x5 _ r1 hm hr1;replace hm:fM p1 p2 x5 = some r1:=hm;refine aJ ?_;unfold fM at hm;refine ap fun k2 hk2=>?_;refine am [57,58,59,60] ?_
        by_cases h7:x5 < (p1.rules.length:Int)
        ·rw [iP h7] at hm;refine ag rfl (dT h7) ?_;refine aq ?_;refine ak (hk2 _ _ ?_);refine ap fun k3 hk3=>?_;refine az ?_;obtain ⟨⟨hg8a,hg8b⟩,hm⟩:=gd hm;refine kP [61,64,65,66,67,68,69,70,71,72,73,74] (by kernel_rfl) [0,1,0,7,15,0,32,0,224,480,1023,2047] [false,false,false,false,false,false,false,false,false,false,true,true] (by kernel_rfl) fun k hk=>?_;refine gax (a2 (em af.enc p1.rules x5.toNat) (em af.enc p2.rules x5.toNat)) ?_;obtain ⟨y6,hc9,hm⟩:=bd hm;refine AP (fun _=>rv (p1.rules.getD x5.toNat default) (p2.rules.getD x5.toNat default) _ hc9) ?_;refine ga ?_;refine hk _ _ ?_;clear hk k
         by_cases h10:y6 = true
         ·rw [iP h10] at hm;refine ai rfl (by rw [show y6 = true from (h10)];rfl) ?_;refine aq ?_;refine au ?_;refine ak (hk3 _ _ ?_);refine bn ?_;refine aC (IntKind.wrap .i64 (x5 + 1)) () hm ?_;exact ls
         ·rw [iN h10] at hm;refine ag rfl (by rw [show y6 = false from (fB h10)];rfl) ?_;refine am [2,3,6,75] ?_;have ho11:=aA hm hr1;subst ho11;replace hm:some false = some r:=hm1;refine aj ?_;refine ab (ah (aG (ab (av ?_))))
          cases hm
          exact kr 0
        ·rw [iN h7] at hm;refine ai rfl (dF h7) ?_;refine bq ?_;have ho12:=aA hm hr1;subst ho12;replace hm:fL = some r:=hm1;refine bb (aQ (aF ?_));refine ax () () hm ?_;exact ls
      ·rintro _ _ hm;replace hm:fL = some r:=hm;refine aJ ?_;unfold fL at hm;refine am [] ?_;refine aj ?_
       cases hm
       exact kr 0
    ·rw [iN h6] at hm;refine ag rfl (by rw [show y2 = false from (fB h6)];rfl) ?_;refine am [2,3,38] ?_;refine aj ?_;refine ah ?_
     cases hm
     exact kr 0
   ·rw [iN h4] at hm;have h4b:=fB h4
    have h4c:(!y1) = true:=by rw [h4b];rfl
    refine aa ?_;refine gox (a2 h1b (a2 h2b (a2 h4b h4c))) ?_;refine hk _ _ ?_;clear hk hp k kp;refine ag rfl rfl ?_;refine am [2,3,38] ?_;refine aj ?_;refine ah ?_
    cases hm
    exact kr 0
theorem nH (p1:af) (r:af) (hm:iV p1 = some r):cd Try.prog 20 [.a [.int .i64 p1.op,.int .i64 p1.k,.int .i64 p1.out_,.int .i64 p1.n,.tree 1 (p1.a.map (eK .i64)),.tree 4 (p1.e.map ay.enc)]] (.a [.int .i64 ((r).op),.int .i64 ((r).k),.int .i64 ((r).out_),.int .i64 ((r).n),.tree 1 (((r).a).map (eK .i64)),.tree 4 (((r).e).map ay.enc)]):=by
 refine aM 16 [.cell 2 53] Try.func20 rfl rfl rfl (by kernel_rfl) (by simp) ?_;refine bP ?_;unfold iV at hm;refine am [0] ?_;refine am [] ?_;refine am [] ?_;obtain ⟨⟨hg1ax,hg1ay⟩,hm⟩:=gd hm;refine am [3,5,6,7,8,9] ?_;refine f9 [.box [.int .i64 p1.op,.int .i64 p1.k,.int .i64 p1.out_,.int .i64 p1.n,.osl 2 0 0 p1.a.length,.tree 4 (p1.e.map ay.enc)],.box [.int .i64 0,.int .i64 0,.int .i64 0,.int .i64 0,.nils,.nils],.arr 1 0 3 (p1.a.map (eK .i64))] ?_;obtain ⟨⟨hg2ax,hg2ay⟩,hm⟩:=gd hm;refine am [4,10,11,12,13,14] ?_;refine f9 [.box [.int .i64 p1.op,.int .i64 p1.k,.int .i64 p1.out_,.int .i64 p1.n,.osl 2 0 0 p1.a.length,.osl 3 0 0 p1.e.length],.box [.int .i64 0,.int .i64 0,.int .i64 0,.int .i64 0,.nils,.nils],.arr 1 0 3 (p1.a.map (eK .i64)),.arr 4 0 100 (p1.e.map ay.enc)] ?_;refine am [1,15] ?_;refine eP (bJ 2 rfl) ?_;refine eP (bJ 3 rfl) ?_;refine aj ?_
 cases hm
 exact kr 0
theorem cx (p1:Int) (p2:Int) (r:aw) (hm:eV p1 p2 = some r):cd Try.prog 34 [.c (.int .i64 p1),.c (.int .i64 p2)] (.a [.int .i64 ((r).code),.int .i64 ((r).at_)]):=by
 refine aM 8 [.cell 4 35] Try.func34 rfl rfl rfl (by kernel_rfl) (by simp) ?_;refine bP ?_;unfold eV at hm;refine am [] ?_;refine am [0,1,5,6,7] ?_;refine aj ?_
 cases hm
 exact kr 0
theorem iX (p1:List Int) (p2:Int) (r:Bool) (hm:j9 p1 p2 = some r):cd Try.prog 33 [.c (.tree 1 (p1.map (eK .i64))),.c (.int .i64 p2)] (.c (.bool r)):=by
 refine aM 18 [.tmp 4] Try.func33 rfl rfl rfl (by kernel_rfl) (by simp) ?_;refine bP ?_;unfold j9 at hm;refine am [4] ?_;refine aK (S:=Unit) (V:=Unit) [0,1,4,5,6,7,8,9,10,11,12,13,14,15,16,17] (fun _ _=>[]) (fun _ _=>[]) (fun _=>mI = some r) ?_ ?_
 ·skip;refine am [] ?_
  refine az ?_;obtain ⟨o1,hl1,hm1⟩:=bd hm;refine be (S:=Int) (V:=Unit) (O:=Unit ⊕ Bool) [4,5,6,7,8,9,10,11,12,13,14,15,16,17] (fun x3 _=>[(5,.c (.int .i64 x3))]) (fun x3 _=>[]) _ _ () hl1 ?_ ?_
  ·exact ls
  ·rintro x3 _ r1 hm hr1;replace hm:mJ p1 p2 x3 = some r1:=hm;refine aJ ?_;unfold mJ at hm;refine ap fun k1 hk1=>?_;refine am [6,7,8] ?_
   by_cases h1:x3 < (p1.length:Int)
   ·rw [iP h1] at hm;refine ag rfl (dT h1) ?_;refine aq ?_;refine ak (hk1 _ _ ?_);refine ap fun k2 hk2=>?_;refine az ?_;obtain ⟨hg2a,hm⟩:=gd hm;refine bj (em (eK .i64) p1 x3.toNat) [9,12,13,14,15,16] ?_
    by_cases h3:(p1.getD x3.toNat default) = p2
    ·rw [iP h3] at hm;refine ag rfl (eQ h3) ?_;refine am [0,1,5,17] ?_;have ho4:=aA hm hr1;subst ho4;replace hm:some true = some r:=hm1;refine aj ?_;refine ab (ah (aG (ab (av ?_))))
     cases hm
     exact kr 0
    ·rw [iN h3] at hm;refine ai rfl (nB h3) ?_;refine aq ?_;refine au ?_;refine ak (hk2 _ _ ?_);refine bn ?_;refine aC (IntKind.wrap .i64 (x3 + 1)) () hm ?_;exact ls
   ·rw [iN h1] at hm;refine ai rfl (dF h1) ?_;refine bq ?_;have ho5:=aA hm hr1;subst ho5;replace hm:mI = some r:=hm1;refine bb (aQ (aF ?_));refine ax () () hm ?_;exact ls
 ·rintro _ _ hm;replace hm:mI = some r:=hm;refine aJ ?_;unfold mI at hm;refine am [] ?_;refine aj ?_
  cases hm
  exact kr 0
theorem tm (p1:ae) (r:aw) (hm:lH p1 = some r):cd Try.prog 64 [.a [.tree 2 (p1.vars.map ao.enc),.tree 1 (p1.in_.map (eK .i64)),.tree 1 (p1.out_.map (eK .i64)),.tree 6 (p1.rules.map af.enc)]] (.a [.int .i64 ((r).code),.int .i64 ((r).at_)]):=by
 refine aM 136 [.cell 2 35] Try.func64 rfl rfl rfl (by kernel_rfl) (by simp) ?_;refine bP ?_;unfold lH at hm;refine am [0] ?_;refine ap fun k1 hk1=>?_;refine bx [6,7,8,9,10,11,12,13,14,15,16,17,18,19,20,21,22,23,24,25,26] fun k kp hk hp=>?_;refine an 5 ?_;refine go ?_
 by_cases h1:(p1.vars.length:Int) > 400
 ·rw [iP h1] at hm;have h1b:=dT h1;refine aa ?_;refine gox h1b ?_;refine hk _ _ ?_;clear hk hp k kp;refine ag rfl rfl ?_;refine aI [1,27,28] fun k kp hk hp=>?_;refine go ?_;obtain ⟨y1,hc2,hm⟩:=bd hm;refine RP (fun _=>cx 7 (-1) _ hc2) ?_;refine aa ?_;refine go ?_;refine hk _ _ ?_;clear hk hp k kp;refine aj ?_;refine ah ?_
  cases hm
  exact kr 0
 ·rw [iN h1] at hm;have h1b:=dF h1;refine an 6 ?_;refine gox h1b ?_
  by_cases h3:(p1.in_.length:Int) > 400
  ·rw [iP h3] at hm;have h3b:=dT h3;refine aa ?_;refine gox (a2 h1b h3b) ?_;refine hk _ _ ?_;clear hk hp k kp;refine ag rfl rfl ?_;refine aI [1,27,28] fun k kp hk hp=>?_;refine go ?_;obtain ⟨y2,hc4,hm⟩:=bd hm;refine RP (fun _=>cx 7 (-1) _ hc4) ?_;refine aa ?_;refine go ?_;refine hk _ _ ?_;clear hk hp k kp;refine aj ?_;refine ah ?_
   cases hm
   exact kr 0
  ·rw [iN h3] at hm;have h3b:=dF h3;refine an 6 ?_;refine gox (a2 h1b h3b) ?_
   by_cases h5:(p1.out_.length:Int) > 400
   ·rw [iP h5] at hm;have h5b:=dT h5;refine aa ?_;refine gox (a2 h1b (a2 h3b h5b)) ?_;refine hk _ _ ?_;clear hk hp k kp;refine ag rfl rfl ?_;refine aI [1,27,28] fun k kp hk hp=>?_;refine go ?_;obtain ⟨y3,hc6,hm⟩:=bd hm;refine RP (fun _=>cx 7 (-1) _ hc6) ?_;refine aa ?_;refine go ?_;refine hk _ _ ?_;clear hk hp k kp;refine aj ?_;refine ah ?_
    cases hm
    exact kr 0
   ·rw [iN h5] at hm;have h5b:=dF h5;refine aa ?_;refine gox (a2 h1b (a2 h3b h5b)) ?_;refine hk _ _ ?_;clear hk hp k kp
    by_cases h7:(p1.rules.length:Int) > 400
    ·rw [iP h7] at hm;refine ag rfl (dT h7) ?_;refine aI [1,27,28] fun k kp hk hp=>?_;refine go ?_;obtain ⟨y4,hc8,hm⟩:=bd hm;refine RP (fun _=>cx 7 (-1) _ hc8) ?_;refine aa ?_;refine go ?_;refine hk _ _ ?_;clear hk hp k kp;refine aj ?_;refine ah ?_
     cases hm
     exact kr 0
    ·rw [iN h7] at hm;refine ai rfl (dF h7) ?_;refine aq ?_;refine ak (hk1 _ _ ?_);refine aK (S:=Unit) (V:=Unit) [3,27,29,30,31,32,33,34,35,36,37,38,39,40,41,42,43,44,45,46,47,48,49,50,51,52,53,54,55,56,57,58,59,60,61,62,63,64,65,66,67,68,69,70,71,72,73] (fun _ _=>[]) (fun _ _=>[.box [.tree 2 (p1.vars.map ao.enc),.tree 1 (p1.in_.map (eK .i64)),.tree 1 (p1.out_.map (eK .i64)),.tree 6 (p1.rules.map af.enc)],.box [.int .i64 0,.int .i64 0]]) (fun _=>eW p1 = some r) ?_ ?_
     ·skip;refine am [27] ?_
      refine az ?_;obtain ⟨o3,hl3,hm3⟩:=bd hm;refine be (S:=Int) (V:=Unit) (O:=Unit ⊕ aw) [3,29,30,31,32,33,34,35,36,37,38,39,40,41,42,43,44,45,46,47,48,49,50,51,52,53,54,55,56,57,58,59,60,61,62,63,64,65,66,67,68,69,70,71,72,73] (fun x21 _=>[(3,.c (.int .i64 x21))]) (fun x21 _=>[.box [.tree 2 (p1.vars.map ao.enc),.tree 1 (p1.in_.map (eK .i64)),.tree 1 (p1.out_.map (eK .i64)),.tree 6 (p1.rules.map af.enc)],.box [.int .i64 0,.int .i64 0]]) _ _ () hl3 ?_ ?_
      ·exact ls
      ·rintro x21 _ r3 hm hr3;replace hm:ig p1 x21 = some r3:=hm;refine aJ ?_;unfold ig at hm;refine ap fun k7 hk7=>?_;refine am [29,30,31,32] ?_
       by_cases h32:x21 < (p1.vars.length:Int)
       ·rw [iP h32] at hm;refine ag rfl (dT h32) ?_;refine aq ?_;refine ak (hk7 _ _ ?_);refine ap fun k8 hk8=>?_;refine az ?_;refine aK (S:=Unit) (V:=Unit) [33,36,37,38,39,40,41,42,43,44,45,46,47,48,49,50,51,52,53,54] (fun _ _=>[]) (fun _ _=>[.box [.tree 2 (p1.vars.map ao.enc),.tree 1 (p1.in_.map (eK .i64)),.tree 1 (p1.out_.map (eK .i64)),.tree 6 (p1.rules.map af.enc)],.box [.int .i64 0,.int .i64 0]]) (fun _=>fW p1 x21 = some r3) ?_ ?_
        ·skip;obtain ⟨hg40a,hm⟩:=gd hm
         refine bx [33,36,37,38,39,40,41,42,43,44,45,46,47,48,49,50] fun k kp hk hp=>?_;refine an 8 ?_;refine gox (em ao.enc p1.vars x21.toNat) ?_
         by_cases h41:¬ ((p1.vars.getD x21.toNat default).elem) = 105
         ·rw [iP h41] at hm;have h41b:=bne_iff_ne.2 h41;refine aa ?_;refine gox (a2 (em ao.enc p1.vars x21.toNat) h41b) ?_;refine hk _ _ ?_;clear hk hp k kp
          by_cases h42:¬ ((p1.vars.getD x21.toNat default).elem) = 98
          ·rw [iP h42] at hm;refine ag rfl (bne_iff_ne.2 h42) ?_;refine aI [1,3,51,52,53,54] fun k kp hk hp=>?_;refine go ?_;obtain ⟨y24,hc43,hm⟩:=bd hm;refine RP (fun _=>cx 10 (IntKind.wrap .i64 ((-2) - x21)) _ hc43) ?_;refine aa ?_;refine go ?_;refine hk _ _ ?_;clear hk hp k kp;have ho44:=aA hm hr3;subst ho44;replace hm:some (y24) = some r:=hm3;refine aj ?_;refine av (ab (ah (aG (ab (av ?_)))))
           cases hm
           exact kr 0
          ·rw [iN h42] at hm;refine ai rfl (bne_eq_false_iff_eq.2 (Decidable.not_not.1 h42)) ?_;refine aq ?_;refine ax () () hm ?_;exact ls
         ·rw [iN h41] at hm;have h41b:(((p1.vars.getD x21.toNat default).elem) != 105) = false:=bne_eq_false_iff_eq.2 (Decidable.not_not.1 h41);refine aa ?_;refine gox h41b ?_;refine hk _ _ ?_;clear hk hp k kp;refine ai rfl rfl ?_;refine aq ?_;refine ax () () hm ?_;exact ls
        ·rintro _ _ hm;replace hm:fW p1 x21 = some r3:=hm;refine aJ ?_;unfold fW at hm;obtain ⟨hg33a,hm⟩:=gd hm;refine bx [55,56,57,58,59,60,61,62,63,64,65,66,67,68,69] fun k kp hk hp=>?_;refine an 8 ?_;refine gox (em ao.enc p1.vars x21.toNat) ?_
         by_cases h34:((p1.vars.getD x21.toNat default).n) < 0
         ·rw [iP h34] at hm;have h34b:=dT h34;refine aa ?_;refine gox h34b ?_;refine hk _ _ ?_;clear hk hp k kp;refine ag rfl rfl ?_;refine aI [1,3,70,71,72,73] fun k kp hk hp=>?_;refine go ?_;obtain ⟨y22,hc35,hm⟩:=bd hm;refine RP (fun _=>cx 13 (IntKind.wrap .i64 ((-2) - x21)) _ hc35) ?_;refine aa ?_;refine go ?_;refine hk _ _ ?_;clear hk hp k kp;have ho36:=aA hm hr3;subst ho36;replace hm:some (y22) = some r:=hm3;refine aj ?_;refine ab (ah (aG (ab (av ?_))))
          cases hm
          exact kr 0
         ·rw [iN h34] at hm;have h34b:=dF h34;refine aa ?_;refine gox (a2 (em ao.enc p1.vars x21.toNat) h34b) ?_;refine hk _ _ ?_;clear hk hp k kp
          by_cases h37:((p1.vars.getD x21.toNat default).n) > 300
          ·rw [iP h37] at hm;refine ag rfl (dT h37) ?_;refine aI [1,3,70,71,72,73] fun k kp hk hp=>?_;refine go ?_;obtain ⟨y23,hc38,hm⟩:=bd hm;refine RP (fun _=>cx 13 (IntKind.wrap .i64 ((-2) - x21)) _ hc38) ?_;refine aa ?_;refine go ?_;refine hk _ _ ?_;clear hk hp k kp;have ho39:=aA hm hr3;subst ho39;replace hm:some (y23) = some r:=hm3;refine aj ?_;refine ab (ah (aG (ab (av ?_))))
           cases hm
           exact kr 0
          ·rw [iN h37] at hm;refine ai rfl (dF h37) ?_;refine aq ?_;refine au ?_;refine ak (hk8 _ _ ?_);refine bn ?_;refine aC (IntKind.wrap .i64 (x21 + 1)) () hm ?_;exact ls
       ·rw [iN h32] at hm;refine ai rfl (dF h32) ?_;refine bq ?_;have ho45:=aA hm hr3;subst ho45;replace hm:eW p1 = some r:=hm3;refine bb (aQ (aF ?_));refine ax () () hm ?_;exact ls
     ·rintro _ _ hm;replace hm:eW p1 = some r:=hm;refine aJ ?_;unfold eW at hm;refine aK (S:=Unit) (V:=Unit) [4,74,75,76,77,78,79,80,81,82,83,84,85,86,87,88,89,90,91,92,93,94,95,96,97,98,99,100,101,102,103,104,105,106,107,108,109] (fun _ _=>[]) (fun _ _=>[.box [.tree 2 (p1.vars.map ao.enc),.tree 1 (p1.in_.map (eK .i64)),.tree 1 (p1.out_.map (eK .i64)),.tree 6 (p1.rules.map af.enc)],.box [.int .i64 0,.int .i64 0]]) (fun _=>fV p1 = some r) ?_ ?_
      ·skip;refine am [] ?_
       refine az ?_;obtain ⟨o2,hl2,hm2⟩:=bd hm;refine be (S:=Int) (V:=Unit) (O:=Unit ⊕ aw) [4,74,75,76,77,78,79,80,81,82,83,84,85,86,87,88,89,90,91,92,93,94,95,96,97,98,99,100,101,102,103,104,105,106,107,108,109] (fun x13 _=>[(4,.c (.int .i64 x13))]) (fun x13 _=>[.box [.tree 2 (p1.vars.map ao.enc),.tree 1 (p1.in_.map (eK .i64)),.tree 1 (p1.out_.map (eK .i64)),.tree 6 (p1.rules.map af.enc)],.box [.int .i64 0,.int .i64 0]]) _ _ () hl2 ?_ ?_
       ·exact ls
       ·rintro x13 _ r2 hm hr2;replace hm:jb p1 x13 = some r2:=hm;refine aJ ?_;unfold jb at hm;refine ap fun k4 hk4=>?_;refine am [74,75,76,77] ?_
        by_cases h18:x13 < (p1.in_.length:Int)
        ·rw [iP h18] at hm;refine ag rfl (dT h18) ?_;refine aq ?_;refine ak (hk4 _ _ ?_);refine ap fun k5 hk5=>?_;refine az ?_;refine ap fun k6 hk6=>?_;obtain ⟨hg19a,hm⟩:=gd hm;refine eg [78,81,82,83,84,85,86,87,88,89,90,91,92,93,94,95,96] (by kernel_rfl) [0,1,0,7,15,31,63,127,255,127,1023,2047,127,4223,12415,32767,65535] [false,false,false,true,true,true,true,false,false,false,false,false,false,false,false,true,true] (by kernel_rfl) fun k hk=>?_;refine eA 7 rfl ?_;refine gax (em (eK .i64) p1.in_ x13.toNat) ?_
         by_cases h20:(p1.in_.getD x13.toNat default) < 0
         ·rw [iP h20] at hm;have h20b:=dT h20;refine aT ?_;refine gax h20b ?_;refine hk _ _ ?_;clear hk k;refine ag rfl rfl ?_;refine aI [1,4,97,98] fun k kp hk hp=>?_;refine go ?_;obtain ⟨y14,hc21,hm⟩:=bd hm;refine RP (fun _=>cx 16 (-1) _ hc21) ?_;refine aa ?_;refine go ?_;refine hk _ _ ?_;clear hk hp k kp;have ho22:=aA hm hr2;subst ho22;replace hm:some (y14) = some r:=hm2;refine aj ?_;refine ah (ab (ah (aG (ab (av ?_)))))
          cases hm
          exact kr 0
         ·rw [iN h20] at hm;have h20b:=dF h20;refine aT ?_;refine gax (a2 (em (eK .i64) p1.in_ x13.toNat) h20b) ?_;refine hk _ _ ?_;clear hk k
          by_cases h23:(p1.in_.getD x13.toNat default) ≥ (p1.vars.length:Int)
          ·rw [iP h23] at hm;refine ag rfl (dT h23) ?_;refine aI [1,4,97,98] fun k kp hk hp=>?_;refine go ?_;obtain ⟨y15,hc24,hm⟩:=bd hm;refine RP (fun _=>cx 16 (-1) _ hc24) ?_;refine aa ?_;refine go ?_;refine hk _ _ ?_;clear hk hp k kp;have ho25:=aA hm hr2;subst ho25;replace hm:some (y15) = some r:=hm2;refine aj ?_;refine ah (ab (ah (aG (ab (av ?_)))))
           cases hm
           exact kr 0
          ·rw [iN h23] at hm;refine ai rfl (dF h23) ?_;refine aq ?_;refine ak (hk6 _ _ ?_);obtain ⟨hg26a,hm⟩:=gd hm;refine kP [97,99,100,101,102,103,104,105,106,107] (by kernel_rfl) [0,1,0,7,0,16,0,112,240,511] [false,false,false,false,false,false,false,false,false,true] (by kernel_rfl) fun k hk=>?_;refine gax (em (eK .i64) p1.in_ x13.toNat) ?_;obtain ⟨y16,hc27,hm⟩:=bd hm;refine AP (fun _=>iX (p1.in_.take x13.toNat) (p1.in_.getD x13.toNat default) _ hc27) ?_;refine gax (em (eK .i64) p1.in_ x13.toNat) ?_;refine hk _ _ ?_;clear hk k
           by_cases h28:y16 = true
           ·rw [iP h28] at hm;refine ag rfl (h28) ?_;refine aI [1,4,108,109] fun k kp hk hp=>?_;refine go ?_;obtain ⟨y17,hc29,hm⟩:=bd hm;refine RP (fun _=>cx 8 (-1) _ hc29) ?_;refine aa ?_;refine go ?_;refine hk _ _ ?_;clear hk hp k kp;have ho30:=aA hm hr2;subst ho30;replace hm:some (y17) = some r:=hm2;refine aj ?_;refine ab (ah (aG (ab (av ?_))))
            cases hm
            exact kr 0
           ·rw [iN h28] at hm;refine ai rfl (fB h28) ?_;refine aq ?_;refine au ?_;refine ak (hk5 _ _ ?_);refine bn ?_;refine aC (IntKind.wrap .i64 (x13 + 1)) () hm ?_;exact ls
        ·rw [iN h18] at hm;refine ai rfl (dF h18) ?_;refine bq ?_;have ho31:=aA hm hr2;subst ho31;replace hm:fV p1 = some r:=hm2;refine bb (aQ (aF ?_));refine ax () () hm ?_;exact ls
      ·rintro _ _ hm;replace hm:fV p1 = some r:=hm;refine aJ ?_;unfold fV at hm;refine aK (S:=Unit) (V:=Unit) [1,5,110,111,112,113,114,115,116,117,118,119,120,121,122,123,124,125,126,127,128,129,130,131,132,133,134] (fun _ _=>[]) (fun _ _=>[.box [.tree 2 (p1.vars.map ao.enc),.tree 1 (p1.in_.map (eK .i64)),.tree 1 (p1.out_.map (eK .i64)),.tree 6 (p1.rules.map af.enc)],.box [.int .i64 0,.int .i64 0]]) (fun _=>i9 = some r) ?_ ?_
       ·skip;refine am [] ?_
        refine az ?_;obtain ⟨o1,hl1,hm1⟩:=bd hm;refine be (S:=Int) (V:=Unit) (O:=Unit ⊕ aw) [5,110,111,112,113,114,115,116,117,118,119,120,121,122,123,124,125,126,127,128,129,130,131,132,133,134] (fun x7 _=>[(5,.c (.int .i64 x7))]) (fun x7 _=>[.box [.tree 2 (p1.vars.map ao.enc),.tree 1 (p1.in_.map (eK .i64)),.tree 1 (p1.out_.map (eK .i64)),.tree 6 (p1.rules.map af.enc)],.box [.int .i64 0,.int .i64 0]]) _ _ () hl1 ?_ ?_
        ·exact ls
        ·rintro x7 _ r1 hm hr1;replace hm:ja p1 x7 = some r1:=hm;refine aJ ?_;unfold ja at hm;refine ap fun k2 hk2=>?_;refine am [110,111,112,113] ?_
         by_cases h9:x7 < (p1.out_.length:Int)
         ·rw [iP h9] at hm;refine ag rfl (dT h9) ?_;refine aq ?_;refine ak (hk2 _ _ ?_);refine ap fun k3 hk3=>?_;refine az ?_;obtain ⟨hg10a,hm⟩:=gd hm;refine eg [114,117,118,119,120,121,122,123,124,125,126,127,128,129,130,131,132] (by kernel_rfl) [0,1,0,7,15,31,63,127,255,127,1023,2047,127,4223,12415,32767,65535] [false,false,false,true,true,true,true,false,false,false,false,false,false,false,false,true,true] (by kernel_rfl) fun k hk=>?_;refine eA 7 rfl ?_;refine gax (em (eK .i64) p1.out_ x7.toNat) ?_
          by_cases h11:(p1.out_.getD x7.toNat default) < 0
          ·rw [iP h11] at hm;have h11b:=dT h11;refine aT ?_;refine gax h11b ?_;refine hk _ _ ?_;clear hk k;refine ag rfl rfl ?_;refine aI [1,5,133,134] fun k kp hk hp=>?_;refine go ?_;obtain ⟨y8,hc12,hm⟩:=bd hm;refine RP (fun _=>cx 16 (-1) _ hc12) ?_;refine aa ?_;refine go ?_;refine hk _ _ ?_;clear hk hp k kp;have ho13:=aA hm hr1;subst ho13;replace hm:some (y8) = some r:=hm1;refine aj ?_;refine ab (ah (aG (ab (av ?_))))
           cases hm
           exact kr 0
          ·rw [iN h11] at hm;have h11b:=dF h11;refine aT ?_;refine gax (a2 (em (eK .i64) p1.out_ x7.toNat) h11b) ?_;refine hk _ _ ?_;clear hk k
           by_cases h14:(p1.out_.getD x7.toNat default) ≥ (p1.vars.length:Int)
           ·rw [iP h14] at hm;refine ag rfl (dT h14) ?_;refine aI [1,5,133,134] fun k kp hk hp=>?_;refine go ?_;obtain ⟨y9,hc15,hm⟩:=bd hm;refine RP (fun _=>cx 16 (-1) _ hc15) ?_;refine aa ?_;refine go ?_;refine hk _ _ ?_;clear hk hp k kp;have ho16:=aA hm hr1;subst ho16;replace hm:some (y9) = some r:=hm1;refine aj ?_;refine ab (ah (aG (ab (av ?_))))
            cases hm
            exact kr 0
           ·rw [iN h14] at hm;refine ai rfl (dF h14) ?_;refine aq ?_;refine au ?_;refine ak (hk3 _ _ ?_);refine bn ?_;refine aC (IntKind.wrap .i64 (x7 + 1)) () hm ?_;exact ls
         ·rw [iN h9] at hm;refine ai rfl (dF h9) ?_;refine bq ?_;have ho17:=aA hm hr1;subst ho17;replace hm:i9 = some r:=hm1;refine bb (aQ (aF ?_));refine ax () () hm ?_;exact ls
       ·rintro _ _ hm;replace hm:i9 = some r:=hm;refine aJ ?_;unfold i9 at hm;refine am [135] ?_;refine aj ?_
        cases hm
        exact kr 0
theorem rg (p1:ae) (p2:Int) (r:(List Int)) (hm:mK p1 p2 = some r):cd Try.prog 65 [.a [.tree 2 (p1.vars.map ao.enc),.tree 1 (p1.in_.map (eK .i64)),.tree 1 (p1.out_.map (eK .i64)),.tree 6 (p1.rules.map af.enc)],.c (.int .i64 p2)] (.c (.tree 1 (r.map (eK .i64)))):=by
 refine aM 22 [.tmp 4] Try.func65 rfl rfl rfl (by kernel_rfl) (by simp) ?_;refine bP ?_;unfold mK at hm;refine am [0,4] ?_;refine am [] ?_;refine cG (fc 5 1 3 (by decide) rfl (Nat.le_of_ble_eq_true rfl)) ?_;refine nE ?_;refine aK (S:=(List Int)) (V:=Nat) [1,2,5,6,7,8,9,10,11,12,13,14,15,16,17,18,19,20] (fun l3 v4=>[(5,.c (.osl 1 v4 0 l3.length))]) (fun l3 v4=>[.box [.tree 2 (p1.vars.map ao.enc),.tree 1 (p1.in_.map (eK .i64)),.tree 1 (p1.out_.map (eK .i64)),.tree 6 (p1.rules.map af.enc)],.arr 1 v4 3 (l3.map (eK .i64))]) (fun l3=>kA l3 = some r) ?_ ?_
 ·skip;refine am [] ?_
  refine az ?_;obtain ⟨o1,hl1,hm1⟩:=bd hm;refine be (S:=((List Int)×Int)) (V:=Nat) (O:=(List Int)) [5,6,7,8,9,10,11,12,13,14,15,16,17,18,19,20] (fun (l17,x19) v18=>[(5,.c (.osl 1 v18 0 l17.length)),(6,.c (.int .i64 x19))]) (fun (l17,x19) v18=>[.box [.tree 2 (p1.vars.map ao.enc),.tree 1 (p1.in_.map (eK .i64)),.tree 1 (p1.out_.map (eK .i64)),.tree 6 (p1.rules.map af.enc)],.arr 1 v18 3 (l17.map (eK .i64))]) _ _ 0 hl1 ?_ ?_
  ·exact ls
  ·rintro ⟨l17,x19⟩ v18 r1 hm hr1;replace hm:fO p1 p2 l17 x19 = some r1:=hm;refine aJ ?_;unfold fO at hm;refine ap fun k1 hk1=>?_;refine am [7,8] ?_
   by_cases h1:x19 < p2
   ·rw [iP h1] at hm;refine ag rfl (dT h1) ?_;refine aq ?_;refine ak (hk1 _ _ ?_);refine ap fun k2 hk2=>?_;refine az ?_;obtain ⟨⟨hg2a,⟨hg2bx,hg2by⟩⟩,hm⟩:=gd hm;refine kv (em af.enc p1.rules x19.toNat) ?_;refine au ?_;refine ak (hk2 _ _ ?_);refine bn ?_;refine aC ((l17 ++ (lit ([(p1.rules.getD x19.toNat default).out_]:List Int))),(IntKind.wrap .i64 (x19 + 1))) (v18 + 1) hm ?_;exact ls
   ·rw [iN h1] at hm;refine ai rfl (dF h1) ?_;refine bq ?_;have ho3:=aA hm hr1;subst ho3;replace hm:kA l17 = some r:=hm1;refine bb (aQ (aF ?_));refine ax l17 v18 hm ?_;exact ls
 ·rintro l3 v4 hm;replace hm:kA l3 = some r:=hm;refine aJ ?_;unfold kA at hm;refine am [5,21] ?_;refine eP (bJ 1 rfl) ?_;refine aj ?_
  cases hm
  exact kr 0
theorem n8 (p1:Int) (r:Int) (hm:js p1 = some r):cd Try.prog 66 [.c (.int .i64 p1)] (.c (.int .i64 r)):=by
  refine aM 17 [.tmp 2] Try.func66 rfl rfl rfl (by kernel_rfl) (by simp) ?_;refine nC (by simp only [i6,Env.ofList,List.length_nil,List.length_cons,bE,Nat.reduceDiv,Nat.reduceMod,Nat.reduceLT,Nat.reduceLeDiff,Nat.reduceAdd,Nat.reduceSub,Nat.reduceMul,Nat.reduceEqDiff,Nat.reduceBEq,Nat.reduceBNe,Nat.reduceGT,Int.reduceToNat];rfl) rfl ?_;unfold js at hm;refine aI [2] fun k kp hk hp=>?_;simp only [bR,bT,tab,bX,reduceIte,↓reduceIte,reduceCtorEq,Int.reduceToNat,Nat.reduceDiv,Nat.reduceMod,Nat.reduceLT,Nat.reduceLeDiff,Nat.reduceAdd,Nat.reduceSub,Nat.reduceMul,Nat.reduceEqDiff,Nat.reduceBEq,Nat.reduceBNe,Nat.reduceGT]
  repeat refine ⟨by first | omega | assumption | decide | exact cy fun _=>rfl | (intro _;omega) | rfl | exact fun e=>absurd (List.map_eq_nil_iff.1 e) (by assumption) | (and_intros <;> first | omega | assumption | decide | exact cy fun _=>rfl),?_⟩
  refine hk _ _ ?_;clear hk hp k kp;refine aI [4] fun k kp hk hp=>?_;simp only [bR,bT,tab,bX,reduceIte,↓reduceIte,reduceCtorEq,Int.reduceToNat,Nat.reduceDiv,Nat.reduceMod,Nat.reduceLT,Nat.reduceLeDiff,Nat.reduceAdd,Nat.reduceSub,Nat.reduceMul,Nat.reduceEqDiff,Nat.reduceBEq,Nat.reduceBNe,Nat.reduceGT,List.replicate,List.foldr]
  repeat refine ⟨by first | omega | assumption | decide | exact cy fun _=>rfl | (intro _;omega) | rfl | exact fun e=>absurd (List.map_eq_nil_iff.1 e) (by assumption) | (and_intros <;> first | omega | assumption | decide | exact cy fun _=>rfl),?_⟩
  refine hk _ _ ?_;clear hk hp k kp
  refine nC rfl (show _ = [.arr 1 0 3 ((lit ([(-1),0,1,1,2,3,2,2,1,3,3,1,2,2,0,1,1]:List Int)).map (eK .i64))] from by first | rfl | (simp only [List.take_of_length_le,List.length_map,List.length_append,List.length_cons,List.length_nil,List.length_replicate,List.length_set,List.map_append,List.map_cons,List.map_nil,List.map_replicate,List.map_set,Nat.le_refl,Nat.zero_add,List.nil_append,List.set_cons_zero,List.set_cons_succ,bX,eK,eB,eS,eL];done) | (simp only [List.take_of_length_le,List.length_map,List.length_append,List.length_cons,List.length_nil,List.length_replicate,List.length_set,List.map_append,List.map_cons,List.map_nil,List.map_replicate,List.map_set,Nat.le_refl,Nat.zero_add,List.nil_append,List.set_cons_zero,List.set_cons_succ,bX,eK,eB,eS,eL];rfl) | (simp;done)) ?_
  refine ap fun k1 hk1=>?_
  by_cases h1:p1 < 0
  · rw [iP h1] at hm
    have h1b:=dT h1;refine aI [5,6,7,8,9,10,11] fun k kp hk hp=>?_;simp only [bR,bT,tab,bX,reduceIte,↓reduceIte,reduceCtorEq,Int.reduceToNat,Nat.reduceDiv,Nat.reduceMod,Nat.reduceLT,Nat.reduceLeDiff,Nat.reduceAdd,Nat.reduceSub,Nat.reduceMul,Nat.reduceEqDiff,Nat.reduceBEq,Nat.reduceBNe,Nat.reduceGT,h1b]
    repeat refine ⟨by first | omega | assumption | decide | exact cy fun _=>rfl | (intro _;omega) | rfl | exact fun e=>absurd (List.map_eq_nil_iff.1 e) (by assumption) | (and_intros <;> first | omega | assumption | decide | exact cy fun _=>rfl),?_⟩
    refine hk _ _ ?_;clear hk hp k kp;refine ag rfl rfl ?_;refine aI [0,3,12] fun k kp hk hp=>?_;simp only [bR,bT,tab,bX,reduceIte,↓reduceIte,reduceCtorEq,Int.reduceToNat,Nat.reduceDiv,Nat.reduceMod,Nat.reduceLT,Nat.reduceLeDiff,Nat.reduceAdd,Nat.reduceSub,Nat.reduceMul,Nat.reduceEqDiff,Nat.reduceBEq,Nat.reduceBNe,Nat.reduceGT]
    repeat refine ⟨by first | omega | assumption | decide | exact cy fun _=>rfl | (intro _;omega) | rfl | exact fun e=>absurd (List.map_eq_nil_iff.1 e) (by assumption) | (and_intros <;> first | omega | assumption | decide | exact cy fun _=>rfl),?_⟩
    refine hk _ _ ?_;clear hk hp k kp;refine aj ?_;refine ah ?_
    cases hm
    exact kr 0
  · rw [iN h1] at hm
    have h1b:=dF h1;refine aI [5,6,7,8,9,10,11] fun k kp hk hp=>?_;simp only [bR,bT,tab,bX,reduceIte,↓reduceIte,reduceCtorEq,Int.reduceToNat,Nat.reduceDiv,Nat.reduceMod,Nat.reduceLT,Nat.reduceLeDiff,Nat.reduceAdd,Nat.reduceSub,Nat.reduceMul,Nat.reduceEqDiff,Nat.reduceBEq,Nat.reduceBNe,Nat.reduceGT,h1b]
    repeat refine ⟨by first | omega | assumption | decide | exact cy fun _=>rfl | (intro _;omega) | rfl | exact fun e=>absurd (List.map_eq_nil_iff.1 e) (by assumption) | (and_intros <;> first | omega | assumption | decide | exact cy fun _=>rfl),?_⟩
    refine hk _ _ ?_;clear hk hp k kp
    by_cases h2:p1 ≥ (17:Int)
    · rw [iP h2] at hm
      refine ag rfl (dT h2) ?_;refine aI [0,3,12] fun k kp hk hp=>?_;simp only [bR,bT,tab,bX,reduceIte,↓reduceIte,reduceCtorEq,Int.reduceToNat,Nat.reduceDiv,Nat.reduceMod,Nat.reduceLT,Nat.reduceLeDiff,Nat.reduceAdd,Nat.reduceSub,Nat.reduceMul,Nat.reduceEqDiff,Nat.reduceBEq,Nat.reduceBNe,Nat.reduceGT]
      repeat refine ⟨by first | omega | assumption | decide | exact cy fun _=>rfl | (intro _;omega) | rfl | exact fun e=>absurd (List.map_eq_nil_iff.1 e) (by assumption) | (and_intros <;> first | omega | assumption | decide | exact cy fun _=>rfl),?_⟩
      refine hk _ _ ?_;clear hk hp k kp;refine aj ?_;refine ah ?_
      cases hm
      exact kr 0
    · rw [iN h2] at hm
      refine ai rfl (dF h2) ?_;refine aq ?_;refine ak (hk1 _ _ ?_);obtain ⟨hg3a,hm⟩:=gd hm;refine aI [0,3,12,13,14,15,16] fun k kp hk hp=>?_
      simp only [bR,bT,tab,bX,reduceIte,↓reduceIte,reduceCtorEq,Int.reduceToNat,Nat.reduceDiv,Nat.reduceMod,Nat.reduceLT,Nat.reduceLeDiff,Nat.reduceAdd,Nat.reduceSub,Nat.reduceMul,Nat.reduceEqDiff,Nat.reduceBEq,Nat.reduceBNe,Nat.reduceGT,xr (eK .i64) (lit ([(-1),0,1,1,2,3,2,2,1,3,3,1,2,2,0,1,1]:List Int)) p1.toNat (by first | omega | (simp only [jI,List.length_cons,List.length_nil,List.length_append,List.length_set,List.length_replicate,List.length_map,List.length_take,List.length_drop];omega))]
      repeat refine ⟨by first | omega | assumption | decide | exact cy fun _=>rfl | (intro _;omega) | rfl | exact fun e=>absurd (List.map_eq_nil_iff.1 e) (by assumption) | (and_intros <;> first | omega | assumption | decide | exact cy fun _=>rfl),?_⟩
      refine hk _ _ ?_;clear hk hp k kp;refine aj ?_
      cases hm
      exact kr 0
theorem pf (p1:List Int) (p2:Int) (r:(List Int)) (hm:ka p1 p2 = some r):cd Try.prog 96 [.c (.tree 1 (p1.map (eK .i64))),.c (.int .i64 p2)] (.c (.tree 1 (r.map (eK .i64)))):=by
 refine aM 48 [.tmp 4] Try.func96 rfl rfl rfl (by kernel_rfl) (by simp) ?_;refine bP ?_;unfold ka at hm;refine am [4] ?_;refine am [] ?_;refine am [] ?_;refine cG (fc 5 1 3 (by decide) rfl (Nat.le_of_ble_eq_true rfl)) ?_;refine nE ?_;refine aK (S:=((List Int)×Bool)) (V:=Nat) [0,5,6,7,8,9,10,11,12,13,14,15,16,17,18,19,20,21,22,23,24,25,26,27,28,29,30,31,32,33,34,35,36,37,38,39,40] (fun (l3,b5) v4=>[(5,.c (.osl 0 v4 0 l3.length)),(6,.c (.bool b5))]) (fun (l3,b5) v4=>[.arr 1 v4 3 (l3.map (eK .i64))]) (fun (l3,b5)=>fX p2 l3 b5 = some r) ?_ ?_
 ·skip;refine am [] ?_
  refine az ?_;obtain ⟨o1,hl1,hm1⟩:=bd hm;refine be (S:=((List Int)×Bool×Int)) (V:=Nat) (O:=((List Int)×Bool)) [5,6,7,8,9,10,11,12,13,14,15,16,17,18,19,20,21,22,23,24,25,26,27,28,29,30,31,32,33,34,35,36,37,38,39,40] (fun (l20,b22,x23) v21=>[(5,.c (.osl 0 v21 0 l20.length)),(6,.c (.bool b22)),(7,.c (.int .i64 x23))]) (fun (l20,b22,x23) v21=>[.arr 1 v21 3 (l20.map (eK .i64))]) _ _ 0 hl1 ?_ ?_
  ·exact ls
  ·rintro ⟨l20,b22,x23⟩ v21 r1 hm hr1;replace hm:d5 p1 p2 l20 b22 x23 = some r1:=hm;refine aJ ?_;unfold d5 at hm;refine ap fun k2 hk2=>?_;refine am [8,9,10] ?_
   by_cases h3:x23 < (p1.length:Int)
   ·rw [iP h3] at hm;refine ag rfl (dT h3) ?_;refine aq ?_;refine ak (hk2 _ _ ?_);refine ap fun k3 hk3=>?_;refine az ?_;refine aK (S:=((List Int)×Bool)) (V:=Nat) [5,6,11,14,15,16,17,18,19,20,21,22,23,24,25,26,27,28,29,30,31,32,33] (fun (l26,b28) v27=>[(5,.c (.osl 0 v27 0 l26.length)),(6,.c (.bool b28))]) (fun (l26,b28) v27=>[.arr 1 v27 3 (l26.map (eK .i64))]) (fun (l26,b28)=>d4 p1 x23 l26 b28 = some r1) ?_ ?_
    ·skip
     by_cases h5:b22 = true
     ·rw [iP h5] at hm;have h5b:=h5
      have h5c:(!b22) = false:=by rw [h5b];rfl
      refine bj (a2 h5b h5c) [11,14,15,16,17,18,19,20,21,22] ?_;refine ai rfl rfl ?_;refine aq ?_;refine ax (l20,b22) v21 hm ?_;exact la
     ·rw [iN h5] at hm;have h5b:=fB h5
      have h5c:(!b22) = true:=by rw [h5b];rfl
      obtain ⟨hg6a,hm⟩:=gd hm;refine bj (a2 (em (eK .i64) p1 x23.toNat) (a2 h5b h5c)) [11,14,15,16,17,18,19,20,21,22] ?_
      by_cases h7:(p1.getD x23.toNat default) ≥ p2
      ·rw [iP h7] at hm;refine ag rfl (dT h7) ?_;refine ap fun k4 hk4=>?_;refine bj (em (eK .i64) p1 x23.toNat) [6,23,24,25,26,27,28] ?_
       by_cases h8:(p1.getD x23.toNat default) > p2
       ·rw [iP h8] at hm;refine ag rfl (dT h8) ?_;obtain ⟨⟨hg9ax,hg9ay⟩,hm⟩:=gd hm;refine bn ?_;refine ak (hk4 _ _ ?_);refine bn ?_;refine ax ((l20 ++ (lit ([p2]:List Int))),true) (v21 + 1) hm ?_;exact la
       ·rw [iN h8] at hm;refine ai rfl (dF h8) ?_;refine aq ?_;refine ak (hk4 _ _ ?_);refine bn ?_;refine ax (l20,true) v21 hm ?_;exact la
      ·rw [iN h7] at hm;refine ai rfl (dF h7) ?_;refine aq ?_;refine ax (l20,b22) v21 hm ?_;exact la
    ·rintro ⟨l26,b28⟩ v27 hm;replace hm:d4 p1 x23 l26 b28 = some r1:=hm;refine aJ ?_;unfold d4 at hm;obtain ⟨⟨hg4a,⟨hg4bx,hg4by⟩⟩,hm⟩:=gd hm;refine kv (em (eK .i64) p1 x23.toNat) ?_;refine au ?_;refine ak (hk3 _ _ ?_);refine bn ?_;refine aC ((l26 ++ (lit ([(p1.getD x23.toNat default)]:List Int))),b28,(IntKind.wrap .i64 (x23 + 1))) (v27 + 1) hm ?_;exact ls
   ·rw [iN h3] at hm;refine ai rfl (dF h3) ?_;refine bq ?_;have ho10:=aA hm hr1;subst ho10;replace hm:fX p2 l20 b22 = some r:=hm1;refine bb (aQ (aF ?_));refine ax (l20,b22) v21 hm ?_;exact ls
 ·rintro ⟨l3,b5⟩ v4 hm;replace hm:fX p2 l3 b5 = some r:=hm;refine aJ ?_;unfold fX at hm;refine ap fun k1 hk1=>?_;refine am [6,41] ?_
  by_cases h1:b5 = true
  ·rw [iP h1] at hm;refine ai rfl (by rw [show b5 = true from (h1)];rfl) ?_;refine aq ?_;refine ak (hk1 _ _ ?_);refine am [1,5,42,47] ?_;refine eP (bJ 0 rfl) ?_;refine aj ?_
   cases hm
   exact kr 0
  ·rw [iN h1] at hm;refine ag rfl (by rw [show b5 = false from (fB h1)];rfl) ?_;obtain ⟨⟨hg2ax,hg2ay⟩,hm⟩:=gd hm;refine bn ?_;refine ak (hk1 _ _ ?_);refine am [1,5,42,43,44,45,46,47] ?_;refine f9 [.arr 1 (v4 + 1) 3 ((l3 ++ (lit ([p2]:List Int))).map (eK .i64)),.arr 1 0 3 ((lit ([p2]:List Int)).map (eK .i64))] ?_;refine eP (bJ 0 rfl) ?_;refine aj ?_
   cases hm
   exact kr 0
theorem uF (p1:ay) (r:Bool) (hm:mL p1 = some r):cd Try.prog 97 [.a [.int .i64 p1.op,.int .i64 p1.k,.int .i64 p1.v,.int .i64 p1.n]] (.c (.bool r)):=by
 refine aM 16 [.tmp 2] Try.func97 rfl rfl rfl (by kernel_rfl) (by simp) ?_;refine bP ?_;unfold mL at hm;refine am [0,2] ?_;refine bx [1,3,4,5,6,7,8,9,10,11,12,13,14,15] fun k kp hk hp=>?_;refine an 4 ?_;refine go ?_
 by_cases h1:p1.op = 2
 ·rw [iP h1] at hm;have h1b:=eQ h1;refine aa ?_;refine gox h1b ?_;refine hk _ _ ?_;clear hk hp k kp;refine aj ?_
  cases hm
  exact kr 0
 ·rw [iN h1] at hm;have h1b:=nB h1;refine an 5 ?_;refine gox h1b ?_
  by_cases h2:p1.op = 3
  ·rw [iP h2] at hm;have h2b:=eQ h2;refine aa ?_;refine gox (a2 h1b h2b) ?_;refine hk _ _ ?_;clear hk hp k kp;refine aj ?_
   cases hm
   exact kr 0
  ·rw [iN h2] at hm;have h2b:=nB h2;refine aa ?_;refine gox (a2 h1b h2b) ?_;refine hk _ _ ?_;clear hk hp k kp;refine aj ?_
   cases hm
   exact kr 0
theorem vA (p1:af) (r:(List Int)) (hm:n5 p1 = some r):cd Try.prog 82 [.a [.int .i64 p1.op,.int .i64 p1.k,.int .i64 p1.out_,.int .i64 p1.n,.tree 1 (p1.a.map (eK .i64)),.tree 4 (p1.e.map ay.enc)]] (.c (.tree 1 (r.map (eK .i64)))):=by
 refine aM 42 [.tmp 2] Try.func82 rfl rfl rfl (by kernel_rfl) (by simp) ?_;refine bP ?_;unfold n5 at hm;refine am [0,2] ?_;refine am [] ?_;refine aK (S:=(List Int)) (V:=Unit) [3,4,6,7,8,9,10,11,12,13,14,15,16,17,18,19] (fun l1 _=>[(3,.c (.tree 1 (l1.map (eK .i64))))]) (fun l1 _=>[.box [.int .i64 p1.op,.int .i64 p1.k,.int .i64 p1.out_,.int .i64 p1.n,.tree 1 (p1.a.map (eK .i64)),.tree 4 (p1.e.map ay.enc)]]) (fun l1=>iD p1 l1 = some r) ?_ ?_
 ·skip;refine am [] ?_
  refine az ?_;refine cG (wB 3 1 rfl) ?_;refine nD ?_;obtain ⟨o2,hl2,hm2⟩:=bd hm;refine be (S:=((List Int)×Int)) (V:=Unit) (O:=(List Int)) [3,4,6,7,8,9,10,11,12,13,14,15,16,17,18,19] (fun (l18,x19) _=>[(3,.c (.tree 1 (l18.map (eK .i64)))),(4,.c (.int .i64 x19))]) (fun (l18,x19) _=>[.box [.int .i64 p1.op,.int .i64 p1.k,.int .i64 p1.out_,.int .i64 p1.n,.tree 1 (p1.a.map (eK .i64)),.tree 4 (p1.e.map ay.enc)]]) _ _ () hl2 ?_ ?_
  ·exact ls
  ·rintro ⟨l18,x19⟩ _ r2 hm hr2;replace hm:fQ p1 l18 x19 = some r2:=hm;refine aJ ?_;unfold fQ at hm;refine ap fun k3 hk3=>?_;refine am [6,7,8,9] ?_
   by_cases h7:x19 < (p1.a.length:Int)
   ·rw [iP h7] at hm;refine ag rfl (dT h7) ?_;refine aq ?_;refine ak (hk3 _ _ ?_);refine ap fun k4 hk4=>?_;refine az ?_;obtain ⟨hg8a,hm⟩:=gd hm;refine e8 fun k kp hk hp=>?_;refine gox (em (eK .i64) p1.a x19.toNat) ?_;obtain ⟨y20,hc9,hm⟩:=bd hm;refine RP (fun _=>pf l18 (p1.a.getD x19.toNat default) _ hc9) ?_;refine aa ?_;refine go ?_;refine hk _ _ ?_;clear hk hp k kp;refine au ?_;refine ak (hk4 _ _ ?_);refine bn ?_;refine aC (y20,(IntKind.wrap .i64 (x19 + 1))) () hm ?_;exact ls
   ·rw [iN h7] at hm;refine ai rfl (dF h7) ?_;refine bq ?_;have ho10:=aA hm hr2;subst ho10;replace hm:iD p1 l18 = some r:=hm2;refine bb (aQ (aF ?_));refine ax l18 () hm ?_;exact ls
 ·rintro l1 _ hm;replace hm:iD p1 l1 = some r:=hm;refine aJ ?_;unfold iD at hm;refine aK (S:=(List Int)) (V:=Unit) [1,3,5,20,21,22,23,24,25,26,27,28,29,30,31,32,33,34,35,36,37,38,39,40] (fun l2 _=>[(3,.c (.tree 1 (l2.map (eK .i64))))]) (fun l2 _=>[.box [.int .i64 p1.op,.int .i64 p1.k,.int .i64 p1.out_,.int .i64 p1.n,.tree 1 (p1.a.map (eK .i64)),.tree 4 (p1.e.map ay.enc)]]) (fun l2=>jt l2 = some r) ?_ ?_
  ·skip;refine am [] ?_
   refine az ?_;obtain ⟨o1,hl1,hm1⟩:=bd hm;refine be (S:=((List Int)×Int)) (V:=Unit) (O:=(List Int)) [3,5,20,21,22,23,24,25,26,27,28,29,30,31,32,33,34,35,36,37,38,39,40] (fun (l7,x8) _=>[(3,.c (.tree 1 (l7.map (eK .i64)))),(5,.c (.int .i64 x8))]) (fun (l7,x8) _=>[.box [.int .i64 p1.op,.int .i64 p1.k,.int .i64 p1.out_,.int .i64 p1.n,.tree 1 (p1.a.map (eK .i64)),.tree 4 (p1.e.map ay.enc)]]) _ _ () hl1 ?_ ?_
   ·exact ls
   ·rintro ⟨l7,x8⟩ _ r1 hm hr1;replace hm:fP p1 l7 x8 = some r1:=hm;refine aJ ?_;unfold fP at hm;refine ap fun k1 hk1=>?_;refine am [20,21,22,23] ?_
    by_cases h1:x8 < (p1.e.length:Int)
    ·rw [iP h1] at hm;refine ag rfl (dT h1) ?_;refine aq ?_;refine ak (hk1 _ _ ?_);refine ap fun k2 hk2=>?_;refine az ?_;obtain ⟨hg2a,hm⟩:=gd hm;refine aI [24,27,28,29,30,31] fun k kp hk hp=>?_;refine gox (em ay.enc p1.e x8.toNat) ?_;obtain ⟨y9,hc3,hm⟩:=bd hm;refine RP (fun _=>uF (p1.e.getD x8.toNat default) _ hc3) ?_;refine aa ?_;refine gox (em ay.enc p1.e x8.toNat) ?_;refine hk _ _ ?_;clear hk hp k kp
     by_cases h4:y9 = true
     ·rw [iP h4] at hm;refine ag rfl (h4) ?_;refine e8 fun k kp hk hp=>?_;refine gox (em ay.enc p1.e x8.toNat) ?_;obtain ⟨y10,hc5,hm⟩:=bd hm;refine RP (fun _=>pf l7 ((p1.e.getD x8.toNat default).v) _ hc5) ?_;refine aa ?_;refine go ?_;refine hk _ _ ?_;clear hk hp k kp;refine au ?_;refine ak (hk2 _ _ ?_);refine bn ?_;refine aC (y10,(IntKind.wrap .i64 (x8 + 1))) () hm ?_;exact ls
     ·rw [iN h4] at hm;refine ai rfl (fB h4) ?_;refine aq ?_;refine au ?_;refine ak (hk2 _ _ ?_);refine bn ?_;refine aC (l7,(IntKind.wrap .i64 (x8 + 1))) () hm ?_;exact ls
    ·rw [iN h1] at hm;refine ai rfl (dF h1) ?_;refine bq ?_;have ho6:=aA hm hr1;subst ho6;replace hm:jt l7 = some r:=hm1;refine bb (aQ (aF ?_));refine ax l7 () hm ?_;exact ls
  ·rintro l2 _ hm;replace hm:jt l2 = some r:=hm;refine aJ ?_;unfold jt at hm;refine am [3,41] ?_;refine aj ?_
   cases hm
   exact kr 0
theorem n9 (p1:af) (r:(List Int)) (hm:lI p1 = some r):cd Try.prog 67 [.a [.int .i64 p1.op,.int .i64 p1.k,.int .i64 p1.out_,.int .i64 p1.n,.tree 1 (p1.a.map (eK .i64)),.tree 4 (p1.e.map ay.enc)]] (.c (.tree 1 (r.map (eK .i64)))):=by
 refine aM 9 [.tmp 2] Try.func67 rfl rfl rfl (by kernel_rfl) (by simp) ?_;refine bP ?_;unfold lI at hm;refine am [0,2] ?_;refine aK (S:=(List ay)) (V:=Unit) [3,4,5,6] (fun l1 _=>[]) (fun l1 _=>[.box [.int .i64 p1.op,.int .i64 p1.k,.int .i64 p1.out_,.int .i64 p1.n,.tree 1 (p1.a.map (eK .i64)),.tree 4 (l1.map ay.enc)]]) (fun l1=>iE p1 l1 = some r) ?_ ?_
 ·skip;refine am [3,4] ?_
  by_cases h2:p1.op < 14
  ·rw [iP h2] at hm;refine ag rfl (dT h2) ?_;refine bn ?_
   refine vn (mD 0 [.int .i64 p1.op,.int .i64 p1.k,.int .i64 p1.out_,.int .i64 p1.n,.tree 1 (p1.a.map (eK .i64)),.tree 4 []] rfl (by and_intros <;> trivial)) ?_
   refine gz ?_;refine ax [] () hm ?_;exact ls
  ·rw [iN h2] at hm;refine ai rfl (dF h2) ?_;refine aq ?_;refine ax p1.e () hm ?_;exact ls
 ·rintro l1 _ hm;replace hm:iE p1 l1 = some r:=hm;refine aJ ?_;unfold iE at hm;refine aI [1,7,8] fun k kp hk hp=>?_;refine go ?_;obtain ⟨y2,hc1,hm⟩:=bd hm;refine RP (fun _=>vA (af.mk p1.op p1.k p1.out_ p1.n p1.a l1) _ hc1) ?_;refine aa ?_;refine go ?_;refine hk _ _ ?_;clear hk hp k kp;refine aj ?_
  cases hm
  exact kr 0
theorem mb (p1:Int) (r:(Int×Int×Int)) (hm:kC p1 = some r):cd Try.prog 83 [.c (.int .i64 p1)] (.t [.c (.int .u8 r.1),.c (.int .u8 r.2.1),.c (.int .i64 r.2.2)]):=by
 refine aM 23 [.tmp 2,.tmp 3,.tmp 4] Try.func83 rfl rfl rfl (by kernel_rfl) (by simp) ?_;refine bP ?_;unfold kC at hm;refine am [2,3,4] ?_;refine am [] ?_;refine am [] ?_;refine ap fun k1 hk1=>?_
 by_cases h1:p1 < 1
 ·rw [iP h1] at hm;have h1b:=dT h1;refine bj h1b [8,9,10,11,12] ?_;refine ag rfl rfl ?_;refine am [0,5,6,13] ?_;refine aj ?_;refine ah ?_
  cases hm
  exact kr 0
 ·rw [iN h1] at hm;have h1b:=dF h1;refine bj h1b [8,9,10,11,12] ?_
  by_cases h2:p1 > 14
  ·rw [iP h2] at hm;refine ag rfl (dT h2) ?_;refine am [0,5,6,13] ?_;refine aj ?_;refine ah ?_
   cases hm
   exact kr 0
  ·rw [iN h2] at hm;refine ai rfl (dF h2) ?_;refine aq ?_;refine ak (hk1 _ _ ?_);refine am [13] ?_;refine aK (S:=Int) (V:=Unit) [7,14,15] (fun x1 _=>[(7,.c (.int .i64 x1))]) (fun x1 _=>[]) (fun x1=>kB p1 x1 = some r) ?_ ?_
   ·skip;refine am [14] ?_
    by_cases h4:p1 ≥ 13
    ·rw [iP h4] at hm;refine ag rfl (dT h4) ?_;refine bn ?_;refine ax 1 () hm ?_;exact ls
    ·rw [iN h4] at hm;refine ai rfl (dF h4) ?_;refine aq ?_;refine ax 2 () hm ?_;exact ls
   ·rintro x1 _ hm;replace hm:kB p1 x1 = some r:=hm;refine aJ ?_;unfold kB at hm;obtain ⟨⟨hg3a,hg3b⟩,hm⟩:=gd hm;refine zw [0,5,6,7,16,17,18,19,20,21,22] [0,0,3,0,0,24,0,7,191,511] [false,false,false,false,false,false,false,false,false,true] ?_;refine aj ?_
    cases hm
    exact kr 0
theorem lc (p1:Int) (r:Bool) (hm:ju p1 = some r):cd Try.prog 84 [.c (.int .i64 p1)] (.c (.bool r)):=by
 refine aM 19 [.tmp 2] Try.func84 rfl rfl rfl (by kernel_rfl) (by simp) ?_;refine bP ?_;unfold ju at hm;refine am [2] ?_;refine aI [0,6,7,8,9,10,11] fun k kp hk hp=>?_;refine go ?_;obtain ⟨y1,hc1,hm⟩:=bd hm;refine RP (fun _=>mb p1 _ hc1) ?_;refine aa ?_;refine go ?_;refine hk _ _ ?_;clear hk hp k kp
 by_cases h2:y1.2.2 = 2
 ·rw [iP h2] at hm;have h2b:=eQ h2;refine bj h2b [3,4,5,12,13,14,15,16,17,18] ?_;refine aj ?_
  cases hm
  exact kr 0
 ·rw [iN h2] at hm;have h2b:=nB h2;refine bj h2b [3,4,5,12,13,14,15,16,17,18] ?_;refine aj ?_
  cases hm
  exact kr 0
theorem tn (p1:Int) (r:Bool) (hm:lJ p1 = some r):cd Try.prog 98 [.c (.int .i64 p1)] (.c (.bool r)):=by
 refine aM 9 [.tmp 2] Try.func98 rfl rfl rfl (by kernel_rfl) (by simp) ?_;refine bP ?_;unfold lJ at hm;refine am [2] ?_
 by_cases h1:p1 ≥ (-1000000)
 ·rw [iP h1] at hm;have h1b:=dT h1;refine bj h1b [0,3,4,5,6,7,8] ?_;refine aj ?_
  cases hm
  exact kr 0
 ·rw [iN h1] at hm;have h1b:=dF h1;refine bj h1b [0,3,4,5,6,7,8] ?_;refine aj ?_
  cases hm
  exact kr 0
theorem oa (p1:ae) (p2:List ay) (p3:Int) (r:Int) (hm:jP p1 p2 p3 = some r):cd Try.prog 85 [.a [.tree 2 (p1.vars.map ao.enc),.tree 1 (p1.in_.map (eK .i64)),.tree 1 (p1.out_.map (eK .i64)),.tree 6 (p1.rules.map af.enc)],.c (.tree 4 (p2.map ay.enc)),.c (.int .i64 p3)] (.c (.int .u8 r)):=by
 refine aM 277 [.tmp 6] Try.func85 rfl rfl rfl (by kernel_rfl) (by simp) ?_;refine bP ?_;unfold jP at hm;refine am [0,6] ?_;refine am [] ?_;refine cG (fc 7 1 5 (by decide) rfl (Nat.le_of_ble_eq_true rfl)) ?_;refine nE ?_;refine aK (S:=(List Int)) (V:=Nat) [1,2,3,6,7,8,9,10,11,12,13,14,15,16,17,18,19,20,21,22,23,24,25,26,27,28,29,30,31,32,33,34,35,36,37,38,39,40,41,42,43,44,45,46,47,48,49,50,51,52,53,54,55,56,57,58,59,60,61,62,63,64,65,66,67,68,69,70,71,72,73,74,75,76,77,78,79,80,81,82,83,84,85,86,87,88,89,90,91,92,93,94,95,96,97,98,99,100,101,102,103,104,105,106,107,108,109,110,111,112,113,114,115,116,117,118,119,120,121,122,123,124,125,126,127,128,129,130,131,132,133,134,135,136,137,138,139,140,141,142,143,144,145,146,147,148,149,150,151,152,153,154,155,156,157,158,159,160,161,162,163,164,165,166,167,168,169,170,171,172,173,174,175,176,177,178,179,180,181,182,183,184,185,186,187,188,189,190,191,192,193,194,195,196,197,198,199,200,201,202,203,204,205,206,207,208,209,210,211,212,213,214,215,216,217,218,219,220,221,222,223,224,225,226,227,228,229,230,231,232,233,234,235,236,237,238,239,240,241,242,243,244,245,246,247,248,249,250,251,252,253,254,255,256,257,258,259,260,261,262,263,264,265,266,267,268,269,270] (fun l3 v4=>[(7,.c (.osl 1 v4 0 l3.length))]) (fun l3 v4=>[.box [.tree 2 (p1.vars.map ao.enc),.tree 1 (p1.in_.map (eK .i64)),.tree 1 (p1.out_.map (eK .i64)),.tree 6 (p1.rules.map af.enc)],.arr 1 v4 5 (l3.map (eK .u8))]) (fun l3=>fR l3 = some r) ?_ ?_
 ·skip;refine am [] ?_
  refine az ?_;obtain ⟨o1,hl1,hm1⟩:=bd hm;refine be (S:=((List Int)×Int)) (V:=Nat) (O:=(List Int) ⊕ Int) [6,7,8,9,10,11,12,13,14,15,16,17,18,19,20,21,22,23,24,25,26,27,28,29,30,31,32,33,34,35,36,37,38,39,40,41,42,43,44,45,46,47,48,49,50,51,52,53,54,55,56,57,58,59,60,61,62,63,64,65,66,67,68,69,70,71,72,73,74,75,76,77,78,79,80,81,82,83,84,85,86,87,88,89,90,91,92,93,94,95,96,97,98,99,100,101,102,103,104,105,106,107,108,109,110,111,112,113,114,115,116,117,118,119,120,121,122,123,124,125,126,127,128,129,130,131,132,133,134,135,136,137,138,139,140,141,142,143,144,145,146,147,148,149,150,151,152,153,154,155,156,157,158,159,160,161,162,163,164,165,166,167,168,169,170,171,172,173,174,175,176,177,178,179,180,181,182,183,184,185,186,187,188,189,190,191,192,193,194,195,196,197,198,199,200,201,202,203,204,205,206,207,208,209,210,211,212,213,214,215,216,217,218,219,220,221,222,223,224,225,226,227,228,229,230,231,232,233,234,235,236,237,238,239,240,241,242,243,244,245,246,247,248,249,250,251,252,253,254,255,256,257,258,259,260,261,262,263,264,265,266,267,268,269,270] (fun (l17,x19) v18=>[(7,.c (.osl 1 v18 0 l17.length)),(8,.c (.int .i64 x19))]) (fun (l17,x19) v18=>[.box [.tree 2 (p1.vars.map ao.enc),.tree 1 (p1.in_.map (eK .i64)),.tree 1 (p1.out_.map (eK .i64)),.tree 6 (p1.rules.map af.enc)],.arr 1 v18 5 (l17.map (eK .u8))]) _ _ 0 hl1 ?_ ?_
  ·exact ls
  ·rintro ⟨l17,x19⟩ v18 r1 hm hr1;replace hm:eX p1 p2 p3 l17 x19 = some r1:=hm;refine aJ ?_;unfold eX at hm;refine ap fun k2 hk2=>?_;refine am [19,20,21] ?_
   by_cases h3:x19 < (p2.length:Int)
   ·rw [iP h3] at hm;refine ag rfl (dT h3) ?_;refine aq ?_;refine ak (hk2 _ _ ?_);refine ap fun k3 hk3=>?_;refine az ?_;obtain ⟨hg4a,hm⟩:=gd hm;refine bj (em ay.enc p2 x19.toNat) [22,25,26,27,28] ?_;refine am [29,30] ?_;refine am [31] ?_;refine az ?_;refine am [34] ?_
    by_cases h5:((p2.getD x19.toNat default).op) = 1
    ·rw [iP h5] at hm;refine ag rfl (eQ h5) ?_;refine am [10,32,33,35,36] ?_
     by_cases h6:((p2.getD x19.toNat default).k) = 0
     ·rw [iP h6] at hm;refine ag rfl (eQ h6) ?_;obtain ⟨⟨hg7ax,hg7ay⟩,hm⟩:=gd hm;refine bn ?_;refine au (au ?_);refine ak (hk3 _ _ ?_);refine bn ?_;refine aC ((l17 ++ (lit ([105]:List Int))),(IntKind.wrap .i64 (x19 + 1))) (v18 + 1) hm ?_;exact ls
     ·rw [iN h6] at hm;refine ai rfl (nB h6) ?_;refine bx [9,37,41,42,43,44,45,46,47,48,49,50,51,52] fun k kp hk hp=>?_;refine an 4 ?_;refine go ?_
      by_cases h8:((p2.getD x19.toNat default).k) = 1
      ·rw [iP h8] at hm;have h8b:=eQ h8;refine an 4 ?_;refine gox h8b ?_
       by_cases h9:((p2.getD x19.toNat default).n) = 0
       ·rw [iP h9] at hm;have h9b:=eQ h9;refine aa ?_;refine gox (a2 h8b h9b) ?_;refine hk _ _ ?_;clear hk hp k kp;refine ag rfl rfl ?_;obtain ⟨⟨hg10ax,hg10ay⟩,hm⟩:=gd hm;refine bn ?_;refine au (au ?_);refine ak (hk3 _ _ ?_);refine bn ?_;refine aC ((l17 ++ (lit ([98]:List Int))),(IntKind.wrap .i64 (x19 + 1))) (v18 + 1) hm ?_;exact ls
       ·rw [iN h9] at hm;have h9b:=nB h9;refine aa ?_;refine gox (a2 h8b h9b) ?_;refine hk _ _ ?_;clear hk hp k kp
        by_cases h11:((p2.getD x19.toNat default).n) = 1
        ·rw [iP h11] at hm;refine ag rfl (eQ h11) ?_;obtain ⟨⟨hg12ax,hg12ay⟩,hm⟩:=gd hm;refine bn ?_;refine au (au ?_);refine ak (hk3 _ _ ?_);refine bn ?_;refine aC ((l17 ++ (lit ([98]:List Int))),(IntKind.wrap .i64 (x19 + 1))) (v18 + 1) hm ?_;exact ls
        ·rw [iN h11] at hm;refine ai rfl (nB h11) ?_;refine am [1,2,3,7,8,53] ?_;have ho13:=aA hm hr1;subst ho13;replace hm:some 0 = some r:=hm1;refine aj ?_;refine ab (ab (ah (aG (ab (av ?_)))))
         cases hm
         exact kr 0
      ·rw [iN h8] at hm;have h8b:=nB h8;refine aa ?_;refine gox h8b ?_;refine hk _ _ ?_;clear hk hp k kp;refine ai rfl rfl ?_;refine am [1,2,3,7,8,53] ?_;have ho14:=aA hm hr1;subst ho14;replace hm:some 0 = some r:=hm1;refine aj ?_;refine ab (ab (ah (aG (ab (av ?_)))))
       cases hm
       exact kr 0
    ·rw [iN h5] at hm;refine ai rfl (nB h5) ?_;refine am [33,58] ?_
     by_cases h15:((p2.getD x19.toNat default).op) = 2
     ·rw [iP h15] at hm;refine ag rfl (eQ h15) ?_;refine ap fun k4 hk4=>?_;obtain ⟨hg16a,hm⟩:=gd hm;refine bj (em ao.enc p1.vars (((p2.getD x19.toNat default).v).toNat)) [10,32,57,59,60,61,62,63,64,65] ?_
      by_cases h17:¬ ((p1.vars.getD (((p2.getD x19.toNat default).v).toNat) default).n) = 0
      ·rw [iP h17] at hm;refine ag rfl (bne_iff_ne.2 h17) ?_;refine am [1,2,3,7,8,9,66] ?_;have ho18:=aA hm hr1;subst ho18;replace hm:some 0 = some r:=hm1;refine aj ?_;refine ah (ab (ab (ah (aG (ab (av ?_))))))
       cases hm
       exact kr 0
      ·rw [iN h17] at hm;refine ai rfl (bne_eq_false_iff_eq.2 (Decidable.not_not.1 h17)) ?_;refine aq ?_;refine ak (hk4 _ _ ?_);obtain ⟨⟨hg19ax,hg19ay⟩,hm⟩:=gd hm;refine kv (em ao.enc p1.vars (((p2.getD x19.toNat default).v).toNat)) ?_;refine au (au ?_);refine ak (hk3 _ _ ?_);refine bn ?_;refine aC ((l17 ++ (lit ([(p1.vars.getD (((p2.getD x19.toNat default).v).toNat) default).elem]:List Int))),(IntKind.wrap .i64 (x19 + 1))) (v18 + 1) hm ?_;exact ls
     ·rw [iN h15] at hm;refine ai rfl (nB h15) ?_;refine am [57,78] ?_
      by_cases h20:((p2.getD x19.toNat default).op) = 3
      ·rw [iP h20] at hm;refine ag rfl (eQ h20) ?_;obtain ⟨hg21a,hm⟩:=gd hm;refine bj (em ao.enc p1.vars (((p2.getD x19.toNat default).v).toNat)) [10,32,77,79,80,81,82,83,84,85] ?_;refine ap fun k5 hk5=>?_
       by_cases h22:((p1.vars.getD (((p2.getD x19.toNat default).v).toNat) default).n) = 0
       ·rw [iP h22] at hm;have h22b:=eQ h22;refine bj h22b [11,86,87,88,89,90,91,92,93,94,95,96,97,98,99,100,101,102,103,104] ?_;refine ag rfl rfl ?_;refine am [1,2,3,7,8,9,105] ?_;have ho23:=aA hm hr1;subst ho23;replace hm:some 0 = some r:=hm1;refine aj ?_;refine ah (ab (ab (ah (aG (ab (av ?_))))))
        cases hm
        exact kr 0
       ·rw [iN h22] at hm;have h22b:=nB h22;refine bx [11,86,87,88,89,90,91,92,93,94,95,96,97,98,99,100,101,102,103,104] fun k kp hk hp=>?_;refine an 8 ?_;refine gox h22b ?_
        by_cases h24:((p2.getD x19.toNat default).n) < 0
        ·rw [iP h24] at hm;have h24b:=dT h24;refine aa ?_;refine gox (a2 h22b h24b) ?_;refine hk _ _ ?_;clear hk hp k kp;refine ag rfl rfl ?_;refine am [1,2,3,7,8,9,105] ?_;have ho25:=aA hm hr1;subst ho25;replace hm:some 0 = some r:=hm1;refine aj ?_;refine ah (ab (ab (ah (aG (ab (av ?_))))))
         cases hm
         exact kr 0
        ·rw [iN h24] at hm;have h24b:=dF h24;refine an 5 ?_;refine gox (a2 h22b h24b) ?_
         by_cases h26:((p1.vars.getD (((p2.getD x19.toNat default).v).toNat) default).n) < p3
         ·rw [iP h26] at hm;have h26b:=dT h26;refine aa ?_;refine gox (a2 h22b (a2 h24b h26b)) ?_;refine hk _ _ ?_;clear hk hp k kp;refine ag rfl rfl ?_;refine am [1,2,3,7,8,9,105] ?_;have ho27:=aA hm hr1;subst ho27;replace hm:some 0 = some r:=hm1;refine aj ?_;refine ah (ab (ab (ah (aG (ab (av ?_))))))
          cases hm
          exact kr 0
         ·rw [iN h26] at hm;have h26b:=dF h26;refine aa ?_;refine gox (a2 h22b (a2 h24b h26b)) ?_;refine hk _ _ ?_;clear hk hp k kp
          by_cases h28:((p2.getD x19.toNat default).n) > (IntKind.wrap .i64 (((p1.vars.getD (((p2.getD x19.toNat default).v).toNat) default).n) - p3))
          ·rw [iP h28] at hm;refine ag rfl (dT h28) ?_;refine am [1,2,3,7,8,9,105] ?_;have ho29:=aA hm hr1;subst ho29;replace hm:some 0 = some r:=hm1;refine aj ?_;refine ah (ab (ab (ah (aG (ab (av ?_))))))
           cases hm
           exact kr 0
          ·rw [iN h28] at hm;refine ai rfl (dF h28) ?_;refine aq ?_;refine ak (hk5 _ _ ?_);obtain ⟨⟨hg30ax,hg30ay⟩,hm⟩:=gd hm;refine kv (em ao.enc p1.vars (((p2.getD x19.toNat default).v).toNat)) ?_;refine au (au ?_);refine ak (hk3 _ _ ?_);refine bn ?_;refine aC ((l17 ++ (lit ([(p1.vars.getD (((p2.getD x19.toNat default).v).toNat) default).elem]:List Int))),(IntKind.wrap .i64 (x19 + 1))) (v18 + 1) hm ?_;exact ls
      ·rw [iN h20] at hm;refine ai rfl (nB h20) ?_;refine am [77,117] ?_
       by_cases h31:((p2.getD x19.toNat default).op) = 4
       ·rw [iP h31] at hm;refine ag rfl (eQ h31) ?_;refine ap fun k6 hk6=>?_;refine aI [9,10,32,116,118,119,120] fun k kp hk hp=>?_;refine go ?_;obtain ⟨y20,hc32,hm⟩:=bd hm;refine RP (fun _=>tn ((p2.getD x19.toNat default).n) _ hc32) ?_;refine aa ?_;refine go ?_;refine hk _ _ ?_;clear hk hp k kp
        by_cases h33:y20 = true
        ·rw [iP h33] at hm;refine ai rfl (by rw [show y20 = true from (h33)];rfl) ?_;refine aq ?_;refine ak (hk6 _ _ ?_);obtain ⟨⟨hg34ax,hg34ay⟩,hm⟩:=gd hm;refine bn ?_;refine au (au ?_);refine ak (hk3 _ _ ?_);refine bn ?_;refine aC ((l17 ++ (lit ([105]:List Int))),(IntKind.wrap .i64 (x19 + 1))) (v18 + 1) hm ?_;exact ls
        ·rw [iN h33] at hm;refine ag rfl (by rw [show y20 = false from (fB h33)];rfl) ?_;refine am [1,2,3,7,8,121] ?_;have ho35:=aA hm hr1;subst ho35;replace hm:some 0 = some r:=hm1;refine aj ?_;refine ah (ab (ab (ah (aG (ab (av ?_))))))
         cases hm
         exact kr 0
       ·rw [iN h31] at hm;refine ai rfl (nB h31) ?_;refine am [116,126] ?_
        by_cases h36:((p2.getD x19.toNat default).op) = 5
        ·rw [iP h36] at hm;refine ag rfl (eQ h36) ?_;refine aI [9,32,125,127,128,129,130,131,132,133] fun k kp hk hp=>?_;refine go ?_;obtain ⟨y21,hc37,hm⟩:=bd hm;refine RP (fun _=>mb ((p2.getD x19.toNat default).k) _ hc37) ?_;refine aa ?_;refine go ?_;refine hk _ _ ?_;clear hk hp k kp;refine ap fun k7 hk7=>?_
         by_cases h38:¬ y21.2.2 = 1
         ·rw [iP h38] at hm;have h38b:=bne_iff_ne.2 h38;refine bj h38b [12,14,134,135,136,137,138,139,140,141,142,143,144,145,146,147] ?_;refine ag rfl rfl ?_;refine am [1,2,3,7,8,10,13,148] ?_;have ho39:=aA hm hr1;subst ho39;replace hm:some 0 = some r:=hm1;refine aj ?_;refine ah (ab (ab (ah (aG (ab (av ?_))))))
          cases hm
          exact kr 0
         ·rw [iN h38] at hm;have h38b:(y21.2.2 != 1) = false:=bne_eq_false_iff_eq.2 (Decidable.not_not.1 h38);refine bx [12,14,134,135,136,137,138,139,140,141,142,143,144,145,146,147] fun k kp hk hp=>?_;refine an 7 ?_;refine gox h38b ?_
          by_cases h40:(l17.length:Int) < 1
          ·rw [iP h40] at hm;have h40b:=dT h40;refine aa ?_;refine gox (a2 h38b h40b) ?_;refine hk _ _ ?_;clear hk hp k kp;refine ag rfl rfl ?_;refine am [1,2,3,7,8,10,13,148] ?_;have ho41:=aA hm hr1;subst ho41;replace hm:some 0 = some r:=hm1;refine aj ?_;refine ah (ab (ab (ah (aG (ab (av ?_))))))
           cases hm
           exact kr 0
          ·rw [iN h40] at hm;have h40b:=dF h40;obtain ⟨hg42a,hm⟩:=gd hm;refine aa ?_;refine gox (a2 (em (eK .u8) l17 ((IntKind.wrap .i64 ((l17.length:Int) - 1)).toNat)) (a2 h38b h40b)) ?_;refine hk _ _ ?_;clear hk hp k kp
           by_cases h43:¬ (l17.getD ((IntKind.wrap .i64 ((l17.length:Int) - 1)).toNat) default) = y21.1
           ·rw [iP h43] at hm;refine ag rfl (bne_iff_ne.2 h43) ?_;refine am [1,2,3,7,8,10,13,148] ?_;have ho44:=aA hm hr1;subst ho44;replace hm:some 0 = some r:=hm1;refine aj ?_;refine ah (ab (ab (ah (aG (ab (av ?_))))))
            cases hm
            exact kr 0
           ·rw [iN h43] at hm;refine ai rfl (bne_eq_false_iff_eq.2 (Decidable.not_not.1 h43)) ?_;refine aq ?_;refine ak (hk7 _ _ ?_);refine kv (em (eK .u8) l17 ((IntKind.wrap .i64 ((l17.length:Int) - 1)).toNat)) ?_;refine au (au ?_);refine ak (hk3 _ _ ?_);refine bn ?_;refine aC ((l17.set ((IntKind.wrap .i64 ((l17.length:Int) - 1)).toNat) y21.2.1),(IntKind.wrap .i64 (x19 + 1))) v18 hm ?_;exact ls
        ·rw [iN h36] at hm;refine ai rfl (nB h36) ?_;refine am [125,155] ?_
         by_cases h45:((p2.getD x19.toNat default).op) = 6
         ·rw [iP h45] at hm;refine ag rfl (eQ h45) ?_;refine aI [9,32,154,156,157,158,159,160,161,162] fun k kp hk hp=>?_;refine go ?_;obtain ⟨y22,hc46,hm⟩:=bd hm;refine RP (fun _=>mb ((p2.getD x19.toNat default).k) _ hc46) ?_;refine aa ?_;refine go ?_;refine hk _ _ ?_;clear hk hp k kp;refine ap fun k8 hk8=>?_
          by_cases h47:¬ y22.2.2 = 2
          ·rw [iP h47] at hm;have h47b:=bne_iff_ne.2 h47;refine bj h47b [15,17,163,164,165,166,167,168,169,170,171,172,173,174,175,176,177,178,179,180,181,182,183,184,185] ?_;refine ag rfl rfl ?_;refine am [1,2,3,7,8,10,16,186] ?_;have ho48:=aA hm hr1;subst ho48;replace hm:some 0 = some r:=hm1;refine aj ?_;refine ah (ab (ab (ah (aG (ab (av ?_))))))
           cases hm
           exact kr 0
          ·rw [iN h47] at hm;have h47b:(y22.2.2 != 2) = false:=bne_eq_false_iff_eq.2 (Decidable.not_not.1 h47);refine bx [15,17,163,164,165,166,167,168,169,170,171,172,173,174,175,176,177,178,179,180,181,182,183,184,185] fun k kp hk hp=>?_;refine an 7 ?_;refine gox h47b ?_
           by_cases h49:(l17.length:Int) < 2
           ·rw [iP h49] at hm;have h49b:=dT h49;refine aa ?_;refine gox (a2 h47b h49b) ?_;refine hk _ _ ?_;clear hk hp k kp;refine ag rfl rfl ?_;refine am [1,2,3,7,8,10,16,186] ?_;have ho50:=aA hm hr1;subst ho50;replace hm:some 0 = some r:=hm1;refine aj ?_;refine ah (ab (ab (ah (aG (ab (av ?_))))))
            cases hm
            exact kr 0
           ·rw [iN h49] at hm;have h49b:=dF h49;obtain ⟨hg51a,hm⟩:=gd hm;refine an 9 ?_;refine gox (a2 (em (eK .u8) l17 ((IntKind.wrap .i64 ((l17.length:Int) - 1)).toNat)) (a2 h47b h49b)) ?_
            by_cases h52:¬ (l17.getD ((IntKind.wrap .i64 ((l17.length:Int) - 1)).toNat) default) = y22.1
            ·rw [iP h52] at hm;have h52b:=bne_iff_ne.2 h52;refine aa ?_;refine gox (a2 h47b (a2 h49b h52b)) ?_;refine hk _ _ ?_;clear hk hp k kp;refine ag rfl rfl ?_;refine am [1,2,3,7,8,10,16,186] ?_;have ho53:=aA hm hr1;subst ho53;replace hm:some 0 = some r:=hm1;refine aj ?_;refine ah (ab (ab (ah (aG (ab (av ?_))))))
             cases hm
             exact kr 0
            ·rw [iN h52] at hm;have h52b:((l17.getD ((IntKind.wrap .i64 ((l17.length:Int) - 1)).toNat) default) != y22.1) = false:=bne_eq_false_iff_eq.2 (Decidable.not_not.1 h52);obtain ⟨hg54a,hm⟩:=gd hm;refine aa ?_;refine gox (a2 (em (eK .u8) l17 ((IntKind.wrap .i64 ((l17.length:Int) - 2)).toNat)) (a2 h47b (a2 h49b h52b))) ?_;refine hk _ _ ?_;clear hk hp k kp
             by_cases h55:¬ (l17.getD ((IntKind.wrap .i64 ((l17.length:Int) - 2)).toNat) default) = y22.1
             ·rw [iP h55] at hm;refine ag rfl (bne_iff_ne.2 h55) ?_;refine am [1,2,3,7,8,10,16,186] ?_;have ho56:=aA hm hr1;subst ho56;replace hm:some 0 = some r:=hm1;refine aj ?_;refine ah (ab (ab (ah (aG (ab (av ?_))))))
              cases hm
              exact kr 0
             ·rw [iN h55] at hm;refine ai rfl (bne_eq_false_iff_eq.2 (Decidable.not_not.1 h55)) ?_;refine aq ?_;refine ak (hk8 _ _ ?_);obtain ⟨⟨hg57a,⟨hg57bx,hg57by⟩⟩,hm⟩:=gd hm;refine bn ?_;refine au (au ?_);refine ak (hk3 _ _ ?_);refine bn ?_;refine aC (((l17.take ((IntKind.wrap .i64 ((l17.length:Int) - 2)).toNat)) ++ (lit ([y22.2.1]:List Int))),(IntKind.wrap .i64 (x19 + 1))) (v18 + 1) hm ?_;exact ls
         ·rw [iN h45] at hm;refine ai rfl (nB h45) ?_;refine am [154,195] ?_
          by_cases h58:((p2.getD x19.toNat default).op) = 7
          ·rw [iP h58] at hm;refine ag rfl (eQ h58) ?_;refine ap fun k9 hk9=>?_
           by_cases h59:(l17.length:Int) < 3
           ·rw [iP h59] at hm;have h59b:=dT h59;refine eg [9,32,194,196,197,198,199,200,201,202,203,204,205,206,207,208,209,210,211,212,213,214,215,216,217] (by kernel_rfl) [0,1,3,7,7,23,63,127,255,511,1023,2047,2047,6143,16383,32767,2047,2047,133119,460799,985087,2097151,4194303] [true,true,true,false,false,false,true,true,true,true,true,false,false,false,false,false,false,false,false,false,false,true,true] (by kernel_rfl) fun k hk=>?_;refine aT ?_;refine gax h59b ?_;refine hk _ _ ?_;clear hk k;refine ag rfl rfl ?_;refine am [1,2,3,7,8,10,218] ?_;have ho60:=aA hm hr1;subst ho60;replace hm:some 0 = some r:=hm1;refine aj ?_;refine ah (ab (ab (ah (aG (ab (av ?_))))))
            cases hm
            exact kr 0
           ·rw [iN h59] at hm;have h59b:=dF h59;obtain ⟨hg61a,hm⟩:=gd hm;refine eg [9,32,194,196,197,198,199,200,201,202,203,204,205,206,207,208,209,210,211,212,213,214,215,216,217] (by kernel_rfl) [0,1,3,7,7,23,63,127,255,511,1023,2047,2047,6143,16383,32767,2047,2047,133119,460799,985087,2097151,4194303] [true,true,true,false,false,false,true,true,true,true,true,false,false,false,false,false,false,false,false,false,false,true,true] (by kernel_rfl) fun k hk=>?_;refine eA 11 rfl ?_;refine gax (a2 (em (eK .u8) l17 ((IntKind.wrap .i64 ((l17.length:Int) - 3)).toNat)) h59b) ?_
            by_cases h62:¬ (l17.getD ((IntKind.wrap .i64 ((l17.length:Int) - 3)).toNat) default) = 98
            ·rw [iP h62] at hm;have h62b:=bne_iff_ne.2 h62;refine aT ?_;refine gax (a2 h59b h62b) ?_;refine hk _ _ ?_;clear hk k;refine ag rfl rfl ?_;refine am [1,2,3,7,8,10,218] ?_;have ho63:=aA hm hr1;subst ho63;replace hm:some 0 = some r:=hm1;refine aj ?_;refine ah (ab (ab (ah (aG (ab (av ?_))))))
             cases hm
             exact kr 0
            ·rw [iN h62] at hm;have h62b:((l17.getD ((IntKind.wrap .i64 ((l17.length:Int) - 3)).toNat) default) != 98) = false:=bne_eq_false_iff_eq.2 (Decidable.not_not.1 h62);obtain ⟨⟨hg64a,hg64b⟩,hm⟩:=gd hm;refine aT ?_;refine gax (a2 (em (eK .u8) l17 ((IntKind.wrap .i64 ((l17.length:Int) - 2)).toNat)) (a2 (em (eK .u8) l17 ((IntKind.wrap .i64 ((l17.length:Int) - 1)).toNat)) (a2 h59b h62b))) ?_;refine hk _ _ ?_;clear hk k
             by_cases h65:¬ (l17.getD ((IntKind.wrap .i64 ((l17.length:Int) - 2)).toNat) default) = (l17.getD ((IntKind.wrap .i64 ((l17.length:Int) - 1)).toNat) default)
             ·rw [iP h65] at hm;refine ag rfl (bne_iff_ne.2 h65) ?_;refine am [1,2,3,7,8,10,218] ?_;have ho66:=aA hm hr1;subst ho66;replace hm:some 0 = some r:=hm1;refine aj ?_;refine ah (ab (ab (ah (aG (ab (av ?_))))))
              cases hm
              exact kr 0
             ·rw [iN h65] at hm;refine ai rfl (bne_eq_false_iff_eq.2 (Decidable.not_not.1 h65)) ?_;refine aq ?_;refine ak (hk9 _ _ ?_);obtain ⟨⟨hg67a,⟨hg67bx,hg67by⟩⟩,hm⟩:=gd hm;refine xz (em (eK .u8) l17 ((IntKind.wrap .i64 ((l17.length:Int) - 1)).toNat)) [0,0,2,7,0,0,32,112,240,496,1023,2047] [false,false,false,false,false,false,false,false,false,false,true,true] ?_;refine au (au ?_);refine ak (hk3 _ _ ?_);refine bn ?_;refine aC (((l17.take ((IntKind.wrap .i64 ((l17.length:Int) - 3)).toNat)) ++ (lit ([(l17.getD ((IntKind.wrap .i64 ((l17.length:Int) - 1)).toNat) default)]:List Int))),(IntKind.wrap .i64 (x19 + 1))) (v18 + 1) hm ?_;exact ls
          ·rw [iN h58] at hm;refine ai rfl (nB h58) ?_;refine am [32,194,231] ?_
           by_cases h68:((p2.getD x19.toNat default).op) = 8
           ·rw [iP h68] at hm;refine ag rfl (eQ h68) ?_;obtain ⟨hg69a,hm⟩:=gd hm;refine bj (em ao.enc p1.vars (((p2.getD x19.toNat default).v).toNat)) [9,230,232,233,234,235,236,237] ?_;refine ap fun k10 hk10=>?_;refine eg [238,239,240,241,242,243,244,245,246,247,248,249,250,251,252,253,254,255,256,257,258,259,260,261] (by kernel_rfl) [0,1,3,7,15,31,63,127,255,255,767,2047,4095,8191,16383,32767,65535,65535,196607,524287,1048575,65535,2162687,8388607,16777215] [true,true,true,true,true,true,true,true,false,false,false,true,true,true,true,true,false,false,false,false,false,false,false,true,true] (by kernel_rfl) fun k hk=>?_;refine eA 4 rfl ?_;refine ga ?_
            by_cases h70:((p1.vars.getD (((p2.getD x19.toNat default).v).toNat) default).n) = 0
            ·rw [iP h70] at hm;have h70b:=eQ h70;refine aT ?_;refine gax h70b ?_;refine hk _ _ ?_;clear hk k;refine ag rfl rfl ?_;refine am [1,2,3,7,8,10,18,262] ?_;have ho71:=aA hm hr1;subst ho71;replace hm:some 0 = some r:=hm1;refine aj ?_;refine ah (ab (ab (ah (aG (ab (av ?_))))))
             cases hm
             exact kr 0
            ·rw [iN h70] at hm;have h70b:=nB h70;refine eA 4 rfl ?_;refine gax h70b ?_
             by_cases h72:(l17.length:Int) < 2
             ·rw [iP h72] at hm;have h72b:=dT h72;refine aT ?_;refine gax (a2 h70b h72b) ?_;refine hk _ _ ?_;clear hk k;refine ag rfl rfl ?_;refine am [1,2,3,7,8,10,18,262] ?_;have ho73:=aA hm hr1;subst ho73;replace hm:some 0 = some r:=hm1;refine aj ?_;refine ah (ab (ab (ah (aG (ab (av ?_))))))
              cases hm
              exact kr 0
             ·rw [iN h72] at hm;have h72b:=dF h72;obtain ⟨hg74a,hm⟩:=gd hm;refine eA 8 rfl ?_;refine gax (a2 (em (eK .u8) l17 ((IntKind.wrap .i64 ((l17.length:Int) - 2)).toNat)) (a2 h70b h72b)) ?_
              by_cases h75:¬ (l17.getD ((IntKind.wrap .i64 ((l17.length:Int) - 2)).toNat) default) = 105
              ·rw [iP h75] at hm;have h75b:=bne_iff_ne.2 h75;refine aT ?_;refine gax (a2 h70b (a2 h72b h75b)) ?_;refine hk _ _ ?_;clear hk k;refine ag rfl rfl ?_;refine am [1,2,3,7,8,10,18,262] ?_;have ho76:=aA hm hr1;subst ho76;replace hm:some 0 = some r:=hm1;refine aj ?_;refine ah (ab (ab (ah (aG (ab (av ?_))))))
               cases hm
               exact kr 0
              ·rw [iN h75] at hm;have h75b:((l17.getD ((IntKind.wrap .i64 ((l17.length:Int) - 2)).toNat) default) != 105) = false:=bne_eq_false_iff_eq.2 (Decidable.not_not.1 h75);obtain ⟨hg77a,hm⟩:=gd hm;refine aT ?_;refine gax (a2 (em (eK .u8) l17 ((IntKind.wrap .i64 ((l17.length:Int) - 1)).toNat)) (a2 h70b (a2 h72b h75b))) ?_;refine hk _ _ ?_;clear hk k
               by_cases h78:¬ (l17.getD ((IntKind.wrap .i64 ((l17.length:Int) - 1)).toNat) default) = ((p1.vars.getD (((p2.getD x19.toNat default).v).toNat) default).elem)
               ·rw [iP h78] at hm;refine ag rfl (bne_iff_ne.2 h78) ?_;refine am [1,2,3,7,8,10,18,262] ?_;have ho79:=aA hm hr1;subst ho79;replace hm:some 0 = some r:=hm1;refine aj ?_;refine ah (ab (ab (ah (aG (ab (av ?_))))))
                cases hm
                exact kr 0
               ·rw [iN h78] at hm;refine ai rfl (bne_eq_false_iff_eq.2 (Decidable.not_not.1 h78)) ?_;refine aq ?_;refine ak (hk10 _ _ ?_);obtain ⟨⟨hg80a,⟨hg80bx,hg80by⟩⟩,hm⟩:=gd hm;refine Db [0,0,2,7,0,16,48,127,255] [false,false,false,false,false,false,false,true,true] ?_;refine au (au ?_);refine ak (hk3 _ _ ?_);refine bn ?_;refine aC (((l17.take ((IntKind.wrap .i64 ((l17.length:Int) - 2)).toNat)) ++ (lit ([(p1.vars.getD (((p2.getD x19.toNat default).v).toNat) default).elem]:List Int))),(IntKind.wrap .i64 (x19 + 1))) (v18 + 1) hm ?_;exact ls
           ·rw [iN h68] at hm;refine ai rfl (nB h68) ?_;refine am [1,2,3,7,8,9,10,230] ?_;have ho81:=aA hm hr1;subst ho81;replace hm:some 0 = some r:=hm1;refine aj ?_;refine ab (ab (ah (aG (ab (av ?_)))))
            cases hm
            exact kr 0
   ·rw [iN h3] at hm;refine ai rfl (dF h3) ?_;refine bq ?_;have ho82:=aA hm hr1;subst ho82;replace hm:fR l17 = some r:=hm1;refine bb (aQ (aF ?_));refine ax l17 v18 hm ?_;exact ls
 ·rintro l3 v4 hm;replace hm:fR l3 = some r:=hm;refine aJ ?_;unfold fR at hm;refine ap fun k1 hk1=>?_;refine am [271,272] ?_
  by_cases h1:¬ (l3.length:Int) = 1
  ·rw [iP h1] at hm;refine ag rfl (bne_iff_ne.2 h1) ?_;refine am [7,273] ?_;refine aj ?_;refine ah ?_
   cases hm
   exact kr 0
  ·rw [iN h1] at hm;refine ai rfl (bne_eq_false_iff_eq.2 (Decidable.not_not.1 h1)) ?_;refine aq ?_;refine ak (hk1 _ _ ?_);obtain ⟨hg2a,hm⟩:=gd hm;refine bj (em (eK .u8) l3 0) [7,273,274,275,276] ?_;refine aj ?_
   cases hm
   exact kr 0
theorem rx (p1:ae) (p2:af) (r:Bool) (hm:aD p1 p2 = some r):cd Try.prog 68 [.a [.tree 2 (p1.vars.map ao.enc),.tree 1 (p1.in_.map (eK .i64)),.tree 1 (p1.out_.map (eK .i64)),.tree 6 (p1.rules.map af.enc)],.a [.int .i64 p2.op,.int .i64 p2.k,.int .i64 p2.out_,.int .i64 p2.n,.tree 1 (p2.a.map (eK .i64)),.tree 4 (p2.e.map ay.enc)]] (.c (.bool r)):=by
 refine aM 443 [.tmp 4] Try.func68 rfl rfl rfl (by kernel_rfl) (by simp) ?_;refine bP ?_;unfold aD at hm;refine am [0,1,4] ?_;obtain ⟨hg1a,hm⟩:=gd hm;refine bj (em ao.enc p1.vars p2.out_.toNat) [12,13,14,15,16,17] ?_;refine bx [] fun k kp hk hp=>?_;refine an 0 ?_;refine go ?_
 refine RS (wJ 2 ((List.replicate 3 (ao.mk 0 0)).map ao.enc) rfl (by first | kernel_rfl | rfl) (by decide) (by intro e he;simp only [List.mem_map] at he;obtain ⟨x,_,rfl⟩:=he;rfl) (by simp) (by simp)) ?_
 simp only [bR,bT,tab,bX,reduceIte,↓reduceIte,reduceCtorEq,Int.reduceToNat,Nat.reduceDiv,Nat.reduceMod,Nat.reduceLT,Nat.reduceLeDiff,Nat.reduceAdd,Nat.reduceSub,Nat.reduceMul,Nat.reduceEqDiff,Nat.reduceBEq,Nat.reduceBNe,Nat.reduceGT];refine aa ?_;refine go ?_;refine hk _ _ ?_;clear hk hp k kp;refine f9 [.box [.tree 2 (p1.vars.map ao.enc),.tree 1 (p1.in_.map (eK .i64)),.tree 1 (p1.out_.map (eK .i64)),.tree 6 (p1.rules.map af.enc)],.box [.int .i64 p2.op,.int .i64 p2.k,.int .i64 p2.out_,.int .i64 p2.n,.tree 1 (p2.a.map (eK .i64)),.tree 4 (p2.e.map ay.enc)],.box [.int .u8 ((p1.vars.getD p2.out_.toNat default).elem),.int .i64 ((p1.vars.getD p2.out_.toNat default).n)],.arr 2 0 117 ((List.replicate 3 (ao.mk 0 0)).map ao.enc)] ?_;refine aK (S:=(List ao)) (V:=Unit) [7,18,19,20,21,22,23,24,25,26,27,28,29,30,31,32,33,34,35] (fun l2 _=>[]) (fun l2 _=>[.box [.tree 2 (p1.vars.map ao.enc),.tree 1 (p1.in_.map (eK .i64)),.tree 1 (p1.out_.map (eK .i64)),.tree 6 (p1.rules.map af.enc)],.box [.int .i64 p2.op,.int .i64 p2.k,.int .i64 p2.out_,.int .i64 p2.n,.tree 1 (p2.a.map (eK .i64)),.tree 4 (p2.e.map ay.enc)],.box [.int .u8 ((p1.vars.getD p2.out_.toNat default).elem),.int .i64 ((p1.vars.getD p2.out_.toNat default).n)],.arr 2 0 117 (l2.map ao.enc)]) (fun l2=>aE p1 p2 l2 = some r) ?_ ?_
 ·skip;refine am [] ?_
  refine az ?_;obtain ⟨o1,hl1,hm1⟩:=bd hm;refine be (S:=((List ao)×Int)) (V:=Unit) (O:=(List ao)) [7,18,19,20,21,22,23,24,25,26,27,28,29,30,31,32,33,34,35] (fun (l19,x20) _=>[(7,.c (.int .i64 x20))]) (fun (l19,x20) _=>[.box [.tree 2 (p1.vars.map ao.enc),.tree 1 (p1.in_.map (eK .i64)),.tree 1 (p1.out_.map (eK .i64)),.tree 6 (p1.rules.map af.enc)],.box [.int .i64 p2.op,.int .i64 p2.k,.int .i64 p2.out_,.int .i64 p2.n,.tree 1 (p2.a.map (eK .i64)),.tree 4 (p2.e.map ay.enc)],.box [.int .u8 ((p1.vars.getD p2.out_.toNat default).elem),.int .i64 ((p1.vars.getD p2.out_.toNat default).n)],.arr 2 0 117 (l19.map ao.enc)]) _ _ () hl1 ?_ ?_
  ·exact ls
  ·rintro ⟨l19,x20⟩ _ r1 hm hr1;replace hm:cq p1 p2 l19 x20 = some r1:=hm;refine aJ ?_;unfold cq at hm;refine ap fun k2 hk2=>?_;refine am [18,19,20,21] ?_
   by_cases h95:x20 < (p2.a.length:Int)
   ·rw [iP h95] at hm;refine ag rfl (dT h95) ?_;refine aq ?_;refine ak (hk2 _ _ ?_);refine ap fun k3 hk3=>?_;refine az ?_;obtain ⟨⟨hg96a,hg96b,hg96c,hg96d⟩,hm⟩:=gd hm;refine xz (a2 (em (eK .i64) p2.a x20.toNat) (a2 (em ao.enc p1.vars ((p2.a.getD x20.toNat default).toNat)) (em ao.enc l19 x20.toNat))) [0,0,2,0,8,0,56,120,254,510,1023,2047] [false,false,false,false,false,false,false,false,false,false,true,true] ?_;refine au ?_;refine ak (hk3 _ _ ?_);refine bn ?_;refine aC ((l19.set x20.toNat (p1.vars.getD ((p2.a.getD x20.toNat default).toNat) default)),(IntKind.wrap .i64 (x20 + 1))) () hm ?_;exact ls
   ·rw [iN h95] at hm;refine ai rfl (dF h95) ?_;refine bq ?_;have ho97:=aA hm hr1;subst ho97;replace hm:aE p1 p2 l19 = some r:=hm1;refine bb (aQ (aF ?_));refine ax l19 () hm ?_;exact ls
 ·rintro l2 _ hm;replace hm:aE p1 p2 l2 = some r:=hm;refine aJ ?_;unfold aE at hm;refine aI [36,37,38,39,40,41,42] fun k kp hk hp=>?_;refine go ?_;obtain ⟨y3,hc2,hm⟩:=bd hm;refine RP (fun _=>mb p2.k _ hc2) ?_;refine aa ?_;refine go ?_;refine hk _ _ ?_;clear hk hp k kp;refine am [43] ?_;refine ap fun k1 hk1=>?_;refine am [44] ?_;refine az ?_;refine am [47] ?_
  by_cases h3:p2.op = 1
  ·rw [iP h3] at hm;refine ag rfl (eQ h3) ?_;refine bx [2,3,5,6,8,9,10,11,45,46,48,49,50,51,52,53,54,55,56,57,58,59,60,61,62,63,64,65] fun k kp hk hp=>?_;refine an 4 ?_;refine go ?_
   by_cases h4:((p1.vars.getD p2.out_.toNat default).elem) = 105∧((p1.vars.getD p2.out_.toNat default).n) = 0
   ·rw [iP h4] at hm
    have h4b:((((p1.vars.getD p2.out_.toNat default).elem) == 105) && (((p1.vars.getD p2.out_.toNat default).n) == 0)) = true:=by simpa [Bool.and_eq_true] using h4
    refine aa ?_;refine gox h4b ?_;refine hk _ _ ?_;clear hk hp k kp;refine aj ?_;refine ab (ah ?_)
    cases hm
    exact kr 0
   ·rw [iN h4] at hm;have h4b:((((p1.vars.getD p2.out_.toNat default).elem) == 105) && (((p1.vars.getD p2.out_.toNat default).n) == 0)) = false:=fB (fun hh=>h4 (by simpa [Bool.and_eq_true] using hh));refine an 4 ?_;refine gox h4b ?_
    by_cases h5:((p1.vars.getD p2.out_.toNat default).elem) = 98∧((p1.vars.getD p2.out_.toNat default).n) = 0
    ·rw [iP h5] at hm
     have h5b:((((p1.vars.getD p2.out_.toNat default).elem) == 98) && (((p1.vars.getD p2.out_.toNat default).n) == 0)) = true:=by simpa [Bool.and_eq_true] using h5
     refine an 4 ?_;refine gox (a2 h4b h5b) ?_
     by_cases h6:p2.n = 0
     ·rw [iP h6] at hm;have h6b:=eQ h6;refine aa ?_;refine gox (a2 h4b (a2 h5b h6b)) ?_;refine hk _ _ ?_;clear hk hp k kp;refine aj ?_;refine ab (ah ?_)
      cases hm
      exact kr 0
     ·rw [iN h6] at hm;have h6b:=nB h6;refine aa ?_;refine gox (a2 h4b (a2 h5b h6b)) ?_;refine hk _ _ ?_;clear hk hp k kp;refine aj ?_;refine ab (ah ?_)
      cases hm
      exact kr 0
    ·rw [iN h5] at hm;have h5b:((((p1.vars.getD p2.out_.toNat default).elem) == 98) && (((p1.vars.getD p2.out_.toNat default).n) == 0)) = false:=fB (fun hh=>h5 (by simpa [Bool.and_eq_true] using hh));refine aa ?_;refine gox (a2 h4b h5b) ?_;refine hk _ _ ?_;clear hk hp k kp;refine aj ?_;refine ab (ah ?_)
     cases hm
     exact kr 0
  ·rw [iN h3] at hm;refine ai rfl (nB h3) ?_;refine am [46,67] ?_
   by_cases h7:p2.op = 2
   ·rw [iP h7] at hm;refine ag rfl (eQ h7) ?_;obtain ⟨⟨hg8a,hg8b⟩,hm⟩:=gd hm;refine bj (em ao.enc l2 0) [2,3,5,6,8,9,10,11,45,66,68,69,70,71] ?_;refine aj ?_;refine ab (ah ?_)
    cases hm
    exact kr 0
   ·rw [iN h7] at hm;refine ai rfl (nB h7) ?_;refine am [66,73] ?_
    by_cases h9:p2.op = 3
    ·rw [iP h9] at hm;refine ag rfl (eQ h9) ?_
     by_cases h10:y3.2.2 = 1
     ·rw [iP h10] at hm;have h10b:=eQ h10;obtain ⟨⟨hg11a,hg11b⟩,hm⟩:=gd hm;refine bx [2,3,5,6,8,9,10,11,45,72,74,75,76,77,78,79,80,81,82,83,84,85,86,87,88,89,90,91] fun k kp hk hp=>?_;refine an 10 ?_;refine gox (a2 (em ao.enc l2 0) h10b) ?_
      by_cases h12:((l2.getD 0 default).elem) = y3.1
      ·rw [iP h12] at hm;have h12b:=eQ h12;refine aa ?_;refine gox (a2 (em ao.enc l2 0) (a2 h10b h12b)) ?_;refine hk _ _ ?_;clear hk hp k kp;refine aj ?_;refine ab (ah ?_)
       cases hm
       exact kr 0
      ·rw [iN h12] at hm;have h12b:=nB h12;refine aa ?_;refine gox (a2 h10b h12b) ?_;refine hk _ _ ?_;clear hk hp k kp;refine aj ?_;refine ab (ah ?_)
       cases hm
       exact kr 0
     ·rw [iN h10] at hm;have h10b:=nB h10;refine bj h10b [2,3,5,6,8,9,10,11,45,72,74,75,76,77,78,79,80,81,82,83,84,85,86,87,88,89,90,91] ?_;refine aj ?_;refine ab (ah ?_)
      cases hm
      exact kr 0
    ·rw [iN h9] at hm;refine ai rfl (nB h9) ?_;refine am [72,93] ?_
     by_cases h13:p2.op = 4
     ·rw [iP h13] at hm;refine ag rfl (eQ h13) ?_
      by_cases h14:y3.2.2 = 2
      ·rw [iP h14] at hm;have h14b:=eQ h14;obtain ⟨⟨hg15a,hg15b⟩,hm⟩:=gd hm;refine bx [2,3,5,6,8,9,10,11,45,92,94,95,96,97,98,99,100,101,102,103,104,105,106,107,108,109,110,111,112,113,114,115,116,117,118] fun k kp hk hp=>?_;refine an 10 ?_;refine gox (a2 (em ao.enc l2 0) h14b) ?_
       by_cases h16:((l2.getD 0 default).elem) = y3.1
       ·rw [iP h16] at hm;have h16b:=eQ h16;obtain ⟨⟨hg17a,hg17b⟩,hm⟩:=gd hm;refine an 7 ?_;refine gox (a2 (em ao.enc l2 1) (a2 (em ao.enc l2 0) (a2 h14b h16b))) ?_
        by_cases h18:((l2.getD 1 default).elem) = ((l2.getD 0 default).elem)∧((l2.getD 1 default).n) = ((l2.getD 0 default).n)
        ·rw [iP h18] at hm
         have h18b:((((l2.getD 1 default).elem) == ((l2.getD 0 default).elem)) && (((l2.getD 1 default).n) == ((l2.getD 0 default).n))) = true:=by simpa [Bool.and_eq_true] using h18
         refine aa ?_;refine gox (a2 (em ao.enc l2 0) (a2 h14b (a2 h16b h18b))) ?_;refine hk _ _ ?_;clear hk hp k kp;refine aj ?_;refine ab (ah ?_)
         cases hm
         exact kr 0
        ·rw [iN h18] at hm;have h18b:((((l2.getD 1 default).elem) == ((l2.getD 0 default).elem)) && (((l2.getD 1 default).n) == ((l2.getD 0 default).n))) = false:=fB (fun hh=>h18 (by simpa [Bool.and_eq_true] using hh));refine aa ?_;refine gox (a2 h14b (a2 h16b h18b)) ?_;refine hk _ _ ?_;clear hk hp k kp;refine aj ?_;refine ab (ah ?_)
         cases hm
         exact kr 0
       ·rw [iN h16] at hm;have h16b:=nB h16;refine aa ?_;refine gox (a2 h14b h16b) ?_;refine hk _ _ ?_;clear hk hp k kp;refine aj ?_;refine ab (ah ?_)
        cases hm
        exact kr 0
      ·rw [iN h14] at hm;have h14b:=nB h14;refine bj h14b [2,3,5,6,8,9,10,11,45,92,94,95,96,97,98,99,100,101,102,103,104,105,106,107,108,109,110,111,112,113,114,115,116,117,118] ?_;refine aj ?_;refine ab (ah ?_)
       cases hm
       exact kr 0
     ·rw [iN h13] at hm;refine ai rfl (nB h13) ?_;refine am [9,10,92,120] ?_
      by_cases h19:p2.op = 5
      ·rw [iP h19] at hm;refine ag rfl (eQ h19) ?_;obtain ⟨⟨hg20a,hg20b⟩,hm⟩:=gd hm;refine bx [2,3,5,6,8,11,45,119,121,122,123,124,125,126,127,128,129,130,131,132,133,134,135,136] fun k kp hk hp=>?_;refine an 5 ?_;refine gox (em ao.enc l2 0) ?_
       by_cases h21:((l2.getD 0 default).elem) = 98∧((l2.getD 0 default).n) = 0
       ·rw [iP h21] at hm
        have h21b:((((l2.getD 0 default).elem) == 98) && (((l2.getD 0 default).n) == 0)) = true:=by simpa [Bool.and_eq_true] using h21
        obtain ⟨⟨hg22a,hg22b⟩,hm⟩:=gd hm;refine an 6 ?_;refine gox (a2 (em ao.enc l2 1) h21b) ?_
        by_cases h23:((l2.getD 1 default).elem) = ((p1.vars.getD p2.out_.toNat default).elem)∧((l2.getD 1 default).n) = ((p1.vars.getD p2.out_.toNat default).n)
        ·rw [iP h23] at hm
         have h23b:((((l2.getD 1 default).elem) == ((p1.vars.getD p2.out_.toNat default).elem)) && (((l2.getD 1 default).n) == ((p1.vars.getD p2.out_.toNat default).n))) = true:=by simpa [Bool.and_eq_true] using h23
         obtain ⟨⟨hg24a,hg24b⟩,hm⟩:=gd hm;refine aa ?_;refine gox (a2 (em ao.enc l2 2) (a2 h21b h23b)) ?_;refine hk _ _ ?_;clear hk hp k kp;refine aj ?_;refine ab (ah ?_)
         cases hm
         exact kr 0
        ·rw [iN h23] at hm;have h23b:((((l2.getD 1 default).elem) == ((p1.vars.getD p2.out_.toNat default).elem)) && (((l2.getD 1 default).n) == ((p1.vars.getD p2.out_.toNat default).n))) = false:=fB (fun hh=>h23 (by simpa [Bool.and_eq_true] using hh));refine aa ?_;refine gox (a2 h21b h23b) ?_;refine hk _ _ ?_;clear hk hp k kp;refine aj ?_;refine ab (ah ?_)
         cases hm
         exact kr 0
       ·rw [iN h21] at hm;have h21b:((((l2.getD 0 default).elem) == 98) && (((l2.getD 0 default).n) == 0)) = false:=fB (fun hh=>h21 (by simpa [Bool.and_eq_true] using hh));refine aa ?_;refine gox h21b ?_;refine hk _ _ ?_;clear hk hp k kp;refine aj ?_;refine ab (ah ?_)
        cases hm
        exact kr 0
      ·rw [iN h19] at hm;refine ai rfl (nB h19) ?_;refine am [119,138] ?_
       by_cases h25:p2.op = 6
       ·rw [iP h25] at hm;refine ag rfl (eQ h25) ?_;refine aI [2,3,5,6,8,11,45,137,139,140,141,142,143,144,145,146,147,148,149,150,151,152,153,154,155,156,157,158,159,160,161,162,163,164,165,166,167] fun k kp hk hp=>?_;refine go ?_;obtain ⟨y4,hc26,hm⟩:=bd hm;refine RP (fun _=>lc p2.k _ hc26) ?_
        by_cases h27:y4 = true
        ·rw [iP h27] at hm;have h27b:=h27;obtain ⟨⟨hg28a,hg28b⟩,hm⟩:=gd hm;refine an 8 ?_;refine gox (a2 (em ao.enc l2 0) h27b) ?_
         by_cases h29:((l2.getD 0 default).elem) = y3.1∧((l2.getD 0 default).n) = 0
         ·rw [iP h29] at hm
          have h29b:((((l2.getD 0 default).elem) == y3.1) && (((l2.getD 0 default).n) == 0)) = true:=by simpa [Bool.and_eq_true] using h29
          obtain ⟨⟨hg30a,hg30b⟩,hm⟩:=gd hm;refine an 6 ?_;refine gox (a2 (em ao.enc l2 1) (a2 h27b h29b)) ?_
          by_cases h31:((l2.getD 1 default).n) > 0
          ·rw [iP h31] at hm;have h31b:=dT h31;refine an 7 ?_;refine gox (a2 (em ao.enc l2 1) (a2 h27b (a2 h29b h31b))) ?_
           by_cases h32:((l2.getD 1 default).elem) = y3.1
           ·rw [iP h32] at hm;have h32b:=eQ h32;refine aa ?_;refine gox (a2 (em ao.enc l2 0) (a2 h27b (a2 h29b (a2 h31b h32b)))) ?_;refine hk _ _ ?_;clear hk hp k kp;refine aj ?_;refine ab (ah ?_)
            cases hm
            exact kr 0
           ·rw [iN h32] at hm;have h32b:=nB h32;refine aa ?_;refine gox (a2 h27b (a2 h29b (a2 h31b h32b))) ?_;refine hk _ _ ?_;clear hk hp k kp;refine aj ?_;refine ab (ah ?_)
            cases hm
            exact kr 0
          ·rw [iN h31] at hm;have h31b:=dF h31;refine aa ?_;refine gox (a2 h27b (a2 h29b h31b)) ?_;refine hk _ _ ?_;clear hk hp k kp;refine aj ?_;refine ab (ah ?_)
           cases hm
           exact kr 0
         ·rw [iN h29] at hm;have h29b:((((l2.getD 0 default).elem) == y3.1) && (((l2.getD 0 default).n) == 0)) = false:=fB (fun hh=>h29 (by simpa [Bool.and_eq_true] using hh));refine aa ?_;refine gox (a2 h27b h29b) ?_;refine hk _ _ ?_;clear hk hp k kp;refine aj ?_;refine ab (ah ?_)
          cases hm
          exact kr 0
        ·rw [iN h27] at hm;have h27b:=fB h27;refine aa ?_;refine gox h27b ?_;refine hk _ _ ?_;clear hk hp k kp;refine aj ?_;refine ab (ah ?_)
         cases hm
         exact kr 0
       ·rw [iN h25] at hm;refine ai rfl (nB h25) ?_;refine am [137,169] ?_
        by_cases h33:p2.op = 7
        ·rw [iP h33] at hm;refine ag rfl (eQ h33) ?_;refine aI [2,3,5,6,8,11,45,168,170,171,172,173,174,175,176,177,178,179,180,181,182,183,184,185,186,187,188,189,190,191,192,193,194,195,196,197,198] fun k kp hk hp=>?_;refine go ?_;obtain ⟨y5,hc34,hm⟩:=bd hm;refine RP (fun _=>lc p2.k _ hc34) ?_
         by_cases h35:y5 = true
         ·rw [iP h35] at hm;have h35b:=h35;obtain ⟨⟨hg36a,hg36b⟩,hm⟩:=gd hm;refine an 8 ?_;refine gox (a2 (em ao.enc l2 0) h35b) ?_
          by_cases h37:((l2.getD 0 default).elem) = y3.1∧((l2.getD 0 default).n) = 0
          ·rw [iP h37] at hm
           have h37b:((((l2.getD 0 default).elem) == y3.1) && (((l2.getD 0 default).n) == 0)) = true:=by simpa [Bool.and_eq_true] using h37
           obtain ⟨⟨hg38a,hg38b⟩,hm⟩:=gd hm;refine an 6 ?_;refine gox (a2 (em ao.enc l2 1) (a2 h35b h37b)) ?_
           by_cases h39:((l2.getD 1 default).n) > 0
           ·rw [iP h39] at hm;have h39b:=dT h39;refine an 7 ?_;refine gox (a2 (em ao.enc l2 1) (a2 h35b (a2 h37b h39b))) ?_
            by_cases h40:((l2.getD 1 default).elem) = y3.1
            ·rw [iP h40] at hm;have h40b:=eQ h40;refine aa ?_;refine gox (a2 (em ao.enc l2 1) (a2 h35b (a2 h37b (a2 h39b h40b)))) ?_;refine hk _ _ ?_;clear hk hp k kp;refine aj ?_;refine ab (ah ?_)
             cases hm
             exact kr 0
            ·rw [iN h40] at hm;have h40b:=nB h40;refine aa ?_;refine gox (a2 h35b (a2 h37b (a2 h39b h40b))) ?_;refine hk _ _ ?_;clear hk hp k kp;refine aj ?_;refine ab (ah ?_)
             cases hm
             exact kr 0
           ·rw [iN h39] at hm;have h39b:=dF h39;refine aa ?_;refine gox (a2 h35b (a2 h37b h39b)) ?_;refine hk _ _ ?_;clear hk hp k kp;refine aj ?_;refine ab (ah ?_)
            cases hm
            exact kr 0
          ·rw [iN h37] at hm;have h37b:((((l2.getD 0 default).elem) == y3.1) && (((l2.getD 0 default).n) == 0)) = false:=fB (fun hh=>h37 (by simpa [Bool.and_eq_true] using hh));refine aa ?_;refine gox (a2 h35b h37b) ?_;refine hk _ _ ?_;clear hk hp k kp;refine aj ?_;refine ab (ah ?_)
           cases hm
           exact kr 0
         ·rw [iN h35] at hm;have h35b:=fB h35;refine aa ?_;refine gox h35b ?_;refine hk _ _ ?_;clear hk hp k kp;refine aj ?_;refine ab (ah ?_)
          cases hm
          exact kr 0
        ·rw [iN h33] at hm;refine ai rfl (nB h33) ?_;refine am [168,200] ?_
         by_cases h41:p2.op = 8
         ·rw [iP h41] at hm;refine ag rfl (eQ h41) ?_;obtain ⟨⟨hg42a,hg42b⟩,hm⟩:=gd hm;refine bx [2,3,5,6,8,11,45,199,201,202,203,204,205,206,207,208,209,210,211,212,213,214,215,216,217] fun k kp hk hp=>?_;refine an 5 ?_;refine gox (em ao.enc l2 0) ?_
          by_cases h43:((l2.getD 0 default).n) = 0
          ·rw [iP h43] at hm;have h43b:=eQ h43;refine an 5 ?_;refine gox h43b ?_
           by_cases h44:((p1.vars.getD p2.out_.toNat default).n) > 0
           ·rw [iP h44] at hm;have h44b:=dT h44;refine aa ?_;refine gox (a2 (em ao.enc l2 0) (a2 h43b h44b)) ?_;refine hk _ _ ?_;clear hk hp k kp;refine aj ?_;refine ab (ah ?_)
            cases hm
            exact kr 0
           ·rw [iN h44] at hm;have h44b:=dF h44;refine aa ?_;refine gox (a2 h43b h44b) ?_;refine hk _ _ ?_;clear hk hp k kp;refine aj ?_;refine ab (ah ?_)
            cases hm
            exact kr 0
          ·rw [iN h43] at hm;have h43b:=nB h43;refine aa ?_;refine gox h43b ?_;refine hk _ _ ?_;clear hk hp k kp;refine aj ?_;refine ab (ah ?_)
           cases hm
           exact kr 0
         ·rw [iN h41] at hm;refine ai rfl (nB h41) ?_;refine am [199,219] ?_
          by_cases h45:p2.op = 9
          ·rw [iP h45] at hm;refine ag rfl (eQ h45) ?_;obtain ⟨⟨hg46a,hg46b⟩,hm⟩:=gd hm;refine bx [2,3,5,6,8,11,45,218,220,221,222,223,224,225,226,227,228,229,230,231,232,233,234,235,236,237,238,239,240,241,242,243,244] fun k kp hk hp=>?_;refine an 5 ?_;refine gox (em ao.enc l2 0) ?_
           by_cases h47:((l2.getD 0 default).n) > 0
           ·rw [iP h47] at hm;have h47b:=dT h47;obtain ⟨⟨hg48a,hg48b⟩,hm⟩:=gd hm;refine an 6 ?_;refine gox (a2 (em ao.enc l2 1) h47b) ?_
            by_cases h49:((l2.getD 1 default).elem) = 105∧((l2.getD 1 default).n) = 0
            ·rw [iP h49] at hm
             have h49b:((((l2.getD 1 default).elem) == 105) && (((l2.getD 1 default).n) == 0)) = true:=by simpa [Bool.and_eq_true] using h49
             obtain ⟨⟨hg50a,hg50b⟩,hm⟩:=gd hm;refine an 9 ?_;refine gox (a2 (em ao.enc l2 2) (a2 (em ao.enc l2 0) (a2 h47b h49b))) ?_
             by_cases h51:((l2.getD 2 default).elem) = ((l2.getD 0 default).elem)∧((l2.getD 2 default).n) = 0
             ·rw [iP h51] at hm
              have h51b:((((l2.getD 2 default).elem) == ((l2.getD 0 default).elem)) && (((l2.getD 2 default).n) == 0)) = true:=by simpa [Bool.and_eq_true] using h51
              refine aa ?_;refine gox (a2 (em ao.enc l2 2) (a2 h47b (a2 h49b h51b))) ?_;refine hk _ _ ?_;clear hk hp k kp;refine aj ?_;refine ab (ah ?_)
              cases hm
              exact kr 0
             ·rw [iN h51] at hm;have h51b:((((l2.getD 2 default).elem) == ((l2.getD 0 default).elem)) && (((l2.getD 2 default).n) == 0)) = false:=fB (fun hh=>h51 (by simpa [Bool.and_eq_true] using hh));refine aa ?_;refine gox (a2 h47b (a2 h49b h51b)) ?_;refine hk _ _ ?_;clear hk hp k kp;refine aj ?_;refine ab (ah ?_)
              cases hm
              exact kr 0
            ·rw [iN h49] at hm;have h49b:((((l2.getD 1 default).elem) == 105) && (((l2.getD 1 default).n) == 0)) = false:=fB (fun hh=>h49 (by simpa [Bool.and_eq_true] using hh));refine aa ?_;refine gox (a2 h47b h49b) ?_;refine hk _ _ ?_;clear hk hp k kp;refine aj ?_;refine ab (ah ?_)
             cases hm
             exact kr 0
           ·rw [iN h47] at hm;have h47b:=dF h47;refine aa ?_;refine gox h47b ?_;refine hk _ _ ?_;clear hk hp k kp;refine aj ?_;refine ab (ah ?_)
            cases hm
            exact kr 0
          ·rw [iN h45] at hm;refine ai rfl (nB h45) ?_;refine am [218,246] ?_
           by_cases h52:p2.op = 10
           ·rw [iP h52] at hm;refine ag rfl (eQ h52) ?_;obtain ⟨⟨hg53a,hg53b⟩,hm⟩:=gd hm;refine bx [2,3,5,6,8,11,45,245,247,248,249,250,251,252,253,254,255,256,257,258,259,260,261,262,263,264,265,266,267,268,269,270,271] fun k kp hk hp=>?_;refine an 5 ?_;refine gox (em ao.enc l2 0) ?_
            by_cases h54:((l2.getD 0 default).n) > 0
            ·rw [iP h54] at hm;have h54b:=dT h54;obtain ⟨⟨hg55a,hg55b⟩,hm⟩:=gd hm;refine an 6 ?_;refine gox (a2 (em ao.enc l2 1) h54b) ?_
             by_cases h56:((l2.getD 1 default).elem) = 105∧((l2.getD 1 default).n) = 0
             ·rw [iP h56] at hm
              have h56b:((((l2.getD 1 default).elem) == 105) && (((l2.getD 1 default).n) == 0)) = true:=by simpa [Bool.and_eq_true] using h56
              obtain ⟨⟨hg57a,hg57b⟩,hm⟩:=gd hm;refine an 9 ?_;refine gox (a2 (em ao.enc l2 2) (a2 (em ao.enc l2 0) (a2 h54b h56b))) ?_
              by_cases h58:((l2.getD 2 default).elem) = ((l2.getD 0 default).elem)∧((l2.getD 2 default).n) = 0
              ·rw [iP h58] at hm
               have h58b:((((l2.getD 2 default).elem) == ((l2.getD 0 default).elem)) && (((l2.getD 2 default).n) == 0)) = true:=by simpa [Bool.and_eq_true] using h58
               refine aa ?_;refine gox (a2 (em ao.enc l2 0) (a2 h54b (a2 h56b h58b))) ?_;refine hk _ _ ?_;clear hk hp k kp;refine aj ?_;refine ab (ah ?_)
               cases hm
               exact kr 0
              ·rw [iN h58] at hm;have h58b:((((l2.getD 2 default).elem) == ((l2.getD 0 default).elem)) && (((l2.getD 2 default).n) == 0)) = false:=fB (fun hh=>h58 (by simpa [Bool.and_eq_true] using hh));refine aa ?_;refine gox (a2 h54b (a2 h56b h58b)) ?_;refine hk _ _ ?_;clear hk hp k kp;refine aj ?_;refine ab (ah ?_)
               cases hm
               exact kr 0
             ·rw [iN h56] at hm;have h56b:((((l2.getD 1 default).elem) == 105) && (((l2.getD 1 default).n) == 0)) = false:=fB (fun hh=>h56 (by simpa [Bool.and_eq_true] using hh));refine aa ?_;refine gox (a2 h54b h56b) ?_;refine hk _ _ ?_;clear hk hp k kp;refine aj ?_;refine ab (ah ?_)
              cases hm
              exact kr 0
            ·rw [iN h54] at hm;have h54b:=dF h54;refine aa ?_;refine gox h54b ?_;refine hk _ _ ?_;clear hk hp k kp;refine aj ?_;refine ab (ah ?_)
             cases hm
             exact kr 0
           ·rw [iN h52] at hm;refine ai rfl (nB h52) ?_;refine am [11,245,273] ?_
            by_cases h59:p2.op = 11
            ·rw [iP h59] at hm;refine ag rfl (eQ h59) ?_;refine bx [2,3,5,6,8,45,272,274,275,276,277,278,279,280,281,282,283,284,285,286,287,288,289,290,291,292,293,294,295,296,297,298,299,300,301,302,303,304,305,306,307,308,309,310,311,312,313,314] fun k kp hk hp=>?_;refine an 4 ?_;refine go ?_
             by_cases h60:((p1.vars.getD p2.out_.toNat default).n) > 0
             ·rw [iP h60] at hm;have h60b:=dT h60;obtain ⟨⟨hg61a,hg61b⟩,hm⟩:=gd hm;refine an 6 ?_;refine gox (a2 (em ao.enc l2 0) h60b) ?_
              by_cases h62:((l2.getD 0 default).n) > 0
              ·rw [iP h62] at hm;have h62b:=dT h62;refine an 8 ?_;refine gox (a2 (em ao.enc l2 0) (a2 h60b h62b)) ?_
               by_cases h63:((p1.vars.getD p2.out_.toNat default).elem) = ((l2.getD 0 default).elem)
               ·rw [iP h63] at hm;have h63b:=eQ h63;refine an 5 ?_;refine gox (a2 h60b (a2 h62b h63b)) ?_
                by_cases h64:p2.n ≥ 0
                ·rw [iP h64] at hm;have h64b:=dT h64;refine an 8 ?_;refine gox (a2 (em ao.enc l2 0) (a2 h60b (a2 h62b (a2 h63b h64b)))) ?_
                 by_cases h65:((p1.vars.getD p2.out_.toNat default).n) ≤ ((l2.getD 0 default).n)
                 ·rw [iP h65] at hm;have h65b:=dT h65;refine aa ?_;refine gox (a2 (em ao.enc l2 0) (a2 h60b (a2 h62b (a2 h63b (a2 h64b h65b))))) ?_;refine hk _ _ ?_;clear hk hp k kp;refine aj ?_;refine ab (ah ?_)
                  cases hm
                  exact kr 0
                 ·rw [iN h65] at hm;have h65b:=dF h65;refine aa ?_;refine gox (a2 h60b (a2 h62b (a2 h63b (a2 h64b h65b)))) ?_;refine hk _ _ ?_;clear hk hp k kp;refine aj ?_;refine ab (ah ?_)
                  cases hm
                  exact kr 0
                ·rw [iN h64] at hm;have h64b:=dF h64;refine aa ?_;refine gox (a2 h60b (a2 h62b (a2 h63b h64b))) ?_;refine hk _ _ ?_;clear hk hp k kp;refine aj ?_;refine ab (ah ?_)
                 cases hm
                 exact kr 0
               ·rw [iN h63] at hm;have h63b:=nB h63;refine aa ?_;refine gox (a2 h60b (a2 h62b h63b)) ?_;refine hk _ _ ?_;clear hk hp k kp;refine aj ?_;refine ab (ah ?_)
                cases hm
                exact kr 0
              ·rw [iN h62] at hm;have h62b:=dF h62;refine aa ?_;refine gox (a2 h60b h62b) ?_;refine hk _ _ ?_;clear hk hp k kp;refine aj ?_;refine ab (ah ?_)
               cases hm
               exact kr 0
             ·rw [iN h60] at hm;have h60b:=dF h60;refine aa ?_;refine gox h60b ?_;refine hk _ _ ?_;clear hk hp k kp;refine aj ?_;refine ab (ah ?_)
              cases hm
              exact kr 0
            ·rw [iN h59] at hm;refine ai rfl (nB h59) ?_;refine am [272,316] ?_
             by_cases h66:p2.op = 12
             ·rw [iP h66] at hm;refine ag rfl (eQ h66) ?_;obtain ⟨⟨hg67a,hg67b⟩,hm⟩:=gd hm;refine bx [2,3,5,6,8,45,315,317,318,319,320,321,322,323,324,325,326,327,328,329,330,331,332,333,334,335,336,337,338,339,340,341,342,343,344,345,346,347,348,349,350] fun k kp hk hp=>?_;refine an 5 ?_;refine gox (em ao.enc l2 0) ?_
              by_cases h68:((l2.getD 0 default).n) > 0
              ·rw [iP h68] at hm;have h68b:=dT h68;obtain ⟨⟨hg69a,hg69b⟩,hm⟩:=gd hm;refine an 6 ?_;refine gox (a2 (em ao.enc l2 1) h68b) ?_
               by_cases h70:((l2.getD 1 default).n) > 0
               ·rw [iP h70] at hm;have h70b:=dT h70;refine an 9 ?_;refine gox (a2 (em ao.enc l2 0) (a2 (em ao.enc l2 1) (a2 h68b h70b))) ?_
                by_cases h71:((l2.getD 0 default).elem) = ((l2.getD 1 default).elem)
                ·rw [iP h71] at hm;have h71b:=eQ h71;refine aa ?_;refine gox (a2 (em ao.enc l2 0) (a2 (em ao.enc l2 1) (a2 h68b (a2 h70b h71b)))) ?_;refine hk _ _ ?_;clear hk hp k kp;refine aj ?_;refine ab (ah ?_)
                 cases hm
                 exact kr 0
                ·rw [iN h71] at hm;have h71b:=nB h71;refine aa ?_;refine gox (a2 h68b (a2 h70b h71b)) ?_;refine hk _ _ ?_;clear hk hp k kp;refine aj ?_;refine ab (ah ?_)
                 cases hm
                 exact kr 0
               ·rw [iN h70] at hm;have h70b:=dF h70;refine aa ?_;refine gox (a2 h68b h70b) ?_;refine hk _ _ ?_;clear hk hp k kp;refine aj ?_;refine ab (ah ?_)
                cases hm
                exact kr 0
              ·rw [iN h68] at hm;have h68b:=dF h68;refine aa ?_;refine gox h68b ?_;refine hk _ _ ?_;clear hk hp k kp;refine aj ?_;refine ab (ah ?_)
               cases hm
               exact kr 0
             ·rw [iN h66] at hm;refine ai rfl (nB h66) ?_;refine am [315,352] ?_
              by_cases h72:p2.op = 13
              ·rw [iP h72] at hm;refine ag rfl (eQ h72) ?_;obtain ⟨⟨hg73a,hg73b⟩,hm⟩:=gd hm;refine bx [2,3,5,6,8,45,351,353,354,355,356,357,358,359,360,361,362] fun k kp hk hp=>?_;refine an 5 ?_;refine gox (em ao.enc l2 0) ?_
               by_cases h74:((l2.getD 0 default).elem) = ((p1.vars.getD p2.out_.toNat default).elem)∧((l2.getD 0 default).n) = ((p1.vars.getD p2.out_.toNat default).n)
               ·rw [iP h74] at hm
                have h74b:((((l2.getD 0 default).elem) == ((p1.vars.getD p2.out_.toNat default).elem)) && (((l2.getD 0 default).n) == ((p1.vars.getD p2.out_.toNat default).n))) = true:=by simpa [Bool.and_eq_true] using h74
                obtain ⟨⟨hg75a,hg75b⟩,hm⟩:=gd hm;refine aa ?_;refine gox (a2 (em ao.enc l2 1) h74b) ?_;refine hk _ _ ?_;clear hk hp k kp;refine aj ?_;refine ab (ah ?_)
                cases hm
                exact kr 0
               ·rw [iN h74] at hm;have h74b:((((l2.getD 0 default).elem) == ((p1.vars.getD p2.out_.toNat default).elem)) && (((l2.getD 0 default).n) == ((p1.vars.getD p2.out_.toNat default).n))) = false:=fB (fun hh=>h74 (by simpa [Bool.and_eq_true] using hh));refine aa ?_;refine gox h74b ?_;refine hk _ _ ?_;clear hk hp k kp;refine aj ?_;refine ab (ah ?_)
                cases hm
                exact kr 0
              ·rw [iN h72] at hm;refine ai rfl (nB h72) ?_;refine am [351,364] ?_
               by_cases h76:p2.op = 14
               ·rw [iP h76] at hm;refine ag rfl (eQ h76) ?_;refine kP [2,3,5,6,8,45,363,365,366,367,368,369,370,371,372,373,374] (by kernel_rfl) [0,0,2,0,8,24,63,0,128,511,1023] [false,false,false,false,false,false,false,false,false,true,true] (by kernel_rfl) fun k hk=>?_;refine ga ?_;obtain ⟨y6,hc77,hm⟩:=bd hm;refine AP (fun _=>iW ((p1.vars.getD p2.out_.toNat default).n) _ hc77) ?_;refine ga ?_;obtain ⟨y7,hc78,hm⟩:=bd hm;refine AP (fun _=>oa p1 p2.e y6 _ hc78) ?_;refine ga ?_;refine hk _ _ ?_;clear hk k;refine aj ?_;refine ab (ah ?_)
                cases hm
                exact kr 0
               ·rw [iN h76] at hm;refine ai rfl (nB h76) ?_;refine am [45,363,376] ?_
                by_cases h79:p2.op = 15
                ·rw [iP h79] at hm;refine ag rfl (eQ h79) ?_;refine aI [2,3,5,6,8,375,377,378,379,380,381,382,383,384,385,386,387,388,389,390,391,392,393,394,395,396,397,398,399,400,401,402,403,404,405,406,407,408,409,410,411] fun k kp hk hp=>?_;refine go ?_;obtain ⟨y8,hc80,hm⟩:=bd hm;refine RP (fun _=>lc p2.k _ hc80) ?_
                 by_cases h81:y8 = true
                 ·rw [iP h81] at hm;have h81b:=h81;refine an 7 ?_;refine gox h81b ?_
                  by_cases h82:((p1.vars.getD p2.out_.toNat default).elem) = y3.1∧((p1.vars.getD p2.out_.toNat default).n) = 0
                  ·rw [iP h82] at hm
                   have h82b:((((p1.vars.getD p2.out_.toNat default).elem) == y3.1) && (((p1.vars.getD p2.out_.toNat default).n) == 0)) = true:=by simpa [Bool.and_eq_true] using h82
                   obtain ⟨⟨hg83a,hg83b⟩,hm⟩:=gd hm;refine an 6 ?_;refine gox (a2 (em ao.enc l2 0) (a2 h81b h82b)) ?_
                   by_cases h84:((l2.getD 0 default).elem) = ((p1.vars.getD p2.out_.toNat default).elem)∧((l2.getD 0 default).n) = ((p1.vars.getD p2.out_.toNat default).n)
                   ·rw [iP h84] at hm
                    have h84b:((((l2.getD 0 default).elem) == ((p1.vars.getD p2.out_.toNat default).elem)) && (((l2.getD 0 default).n) == ((p1.vars.getD p2.out_.toNat default).n))) = true:=by simpa [Bool.and_eq_true] using h84
                    refine an 5 ?_;refine gox (a2 h81b (a2 h82b h84b)) ?_
                    by_cases h85:p2.n ≥ 1
                    ·rw [iP h85] at hm;have h85b:=dT h85;refine an 5 ?_;refine gox (a2 h81b (a2 h82b (a2 h84b h85b))) ?_
                     by_cases h86:p2.n ≤ 300
                     ·rw [iP h86] at hm;have h86b:=dT h86;refine aa ?_;refine gox (a2 h81b (a2 h82b (a2 h84b (a2 h85b h86b)))) ?_;obtain ⟨y9,hc87,hm⟩:=bd hm;refine RP (fun _=>oa p1 p2.e p2.n _ hc87) ?_;refine aa ?_;refine gox (a2 h81b (a2 h82b (a2 h84b (a2 h85b h86b)))) ?_;refine hk _ _ ?_;clear hk hp k kp;refine aj ?_;refine ab (ah ?_)
                      cases hm
                      exact kr 0
                     ·rw [iN h86] at hm;have h86b:=dF h86;refine aa ?_;refine gox (a2 h81b (a2 h82b (a2 h84b (a2 h85b h86b)))) ?_;refine hk _ _ ?_;clear hk hp k kp;refine aj ?_;refine ab (ah ?_)
                      cases hm
                      exact kr 0
                    ·rw [iN h85] at hm;have h85b:=dF h85;refine aa ?_;refine gox (a2 h81b (a2 h82b (a2 h84b h85b))) ?_;refine hk _ _ ?_;clear hk hp k kp;refine aj ?_;refine ab (ah ?_)
                     cases hm
                     exact kr 0
                   ·rw [iN h84] at hm;have h84b:((((l2.getD 0 default).elem) == ((p1.vars.getD p2.out_.toNat default).elem)) && (((l2.getD 0 default).n) == ((p1.vars.getD p2.out_.toNat default).n))) = false:=fB (fun hh=>h84 (by simpa [Bool.and_eq_true] using hh));refine aa ?_;refine gox (a2 h81b (a2 h82b h84b)) ?_;refine hk _ _ ?_;clear hk hp k kp;refine aj ?_;refine ab (ah ?_)
                    cases hm
                    exact kr 0
                  ·rw [iN h82] at hm;have h82b:((((p1.vars.getD p2.out_.toNat default).elem) == y3.1) && (((p1.vars.getD p2.out_.toNat default).n) == 0)) = false:=fB (fun hh=>h82 (by simpa [Bool.and_eq_true] using hh));refine aa ?_;refine gox (a2 h81b h82b) ?_;refine hk _ _ ?_;clear hk hp k kp;refine aj ?_;refine ab (ah ?_)
                   cases hm
                   exact kr 0
                 ·rw [iN h81] at hm;have h81b:=fB h81;refine aa ?_;refine gox h81b ?_;refine hk _ _ ?_;clear hk hp k kp;refine aj ?_;refine ab (ah ?_)
                  cases hm
                  exact kr 0
                ·rw [iN h79] at hm;refine ai rfl (nB h79) ?_;refine aq ?_;refine au ?_;refine ak (hk1 _ _ ?_);refine aI [2,3,5,6,8,375,412,413,414,415,416,417,418,419,420,421,422,423,424,425,426,427,428,429,430,431,432,433,434,435,436,437,438,439,440,441,442] fun k kp hk hp=>?_;refine go ?_;obtain ⟨y10,hc88,hm⟩:=bd hm;refine RP (fun _=>lc p2.k _ hc88) ?_
                 by_cases h89:y10 = true
                 ·rw [iP h89] at hm;have h89b:=h89;refine an 6 ?_;refine gox h89b ?_
                  by_cases h90:((p1.vars.getD p2.out_.toNat default).n) > 0
                  ·rw [iP h90] at hm;have h90b:=dT h90;refine an 6 ?_;refine gox (a2 h89b h90b) ?_
                   by_cases h91:((p1.vars.getD p2.out_.toNat default).elem) = y3.1
                   ·rw [iP h91] at hm;have h91b:=eQ h91;obtain ⟨⟨hg92a,hg92b⟩,hm⟩:=gd hm;refine an 7 ?_;refine gox (a2 (em ao.enc l2 0) (a2 h89b (a2 h90b h91b))) ?_
                    by_cases h93:((l2.getD 0 default).elem) = y3.1∧((l2.getD 0 default).n) = 0
                    ·rw [iP h93] at hm
                     have h93b:((((l2.getD 0 default).elem) == y3.1) && (((l2.getD 0 default).n) == 0)) = true:=by simpa [Bool.and_eq_true] using h93
                     refine aa ?_;refine gox (a2 h89b (a2 h90b (a2 h91b h93b))) ?_;obtain ⟨y11,hc94,hm⟩:=bd hm;refine RP (fun _=>oa p1 p2.e ((p1.vars.getD p2.out_.toNat default).n) _ hc94) ?_;refine aa ?_;refine gox (a2 h89b (a2 h90b (a2 h91b h93b))) ?_;refine hk _ _ ?_;clear hk hp k kp;refine aj ?_
                     cases hm
                     exact kr 0
                    ·rw [iN h93] at hm;have h93b:((((l2.getD 0 default).elem) == y3.1) && (((l2.getD 0 default).n) == 0)) = false:=fB (fun hh=>h93 (by simpa [Bool.and_eq_true] using hh));refine aa ?_;refine gox (a2 h89b (a2 h90b (a2 h91b h93b))) ?_;refine hk _ _ ?_;clear hk hp k kp;refine aj ?_
                     cases hm
                     exact kr 0
                   ·rw [iN h91] at hm;have h91b:=nB h91;refine aa ?_;refine gox (a2 h89b (a2 h90b h91b)) ?_;refine hk _ _ ?_;clear hk hp k kp;refine aj ?_
                    cases hm
                    exact kr 0
                  ·rw [iN h90] at hm;have h90b:=dF h90;refine aa ?_;refine gox (a2 h89b h90b) ?_;refine hk _ _ ?_;clear hk hp k kp;refine aj ?_
                   cases hm
                   exact kr 0
                 ·rw [iN h89] at hm;have h89b:=fB h89;refine aa ?_;refine gox h89b ?_;refine hk _ _ ?_;clear hk hp k kp;refine aj ?_
                  cases hm
                  exact kr 0
theorem ry (p1:ae) (r:aw) (hm:jQ p1 = some r):cd Try.prog 31 [.a [.tree 2 (p1.vars.map ao.enc),.tree 1 (p1.in_.map (eK .i64)),.tree 1 (p1.out_.map (eK .i64)),.tree 6 (p1.rules.map af.enc)]] (.a [.int .i64 ((r).code),.int .i64 ((r).at_)]):=by
 refine aM 182 [.cell 2 35] Try.func31 rfl rfl rfl (by kernel_rfl) (by simp) ?_;refine bP ?_;unfold jQ at hm;refine am [0] ?_;refine ap fun k1 hk1=>?_;refine aI [13,14] fun k kp hk hp=>?_;refine go ?_;obtain ⟨y1,hc1,hm⟩:=bd hm;refine RP (fun _=>tm p1 _ hc1) ?_;refine aa ?_;refine go ?_;refine hk _ _ ?_;clear hk hp k kp;refine am [15,16] ?_
 by_cases h2:¬ ((y1).code) = 0
 ·rw [iP h2] at hm;refine ag rfl (bne_iff_ne.2 h2) ?_;refine am [1,3,17,18] ?_;refine aj ?_;refine ah ?_
  cases hm
  exact kr 0
 ·rw [iN h2] at hm;refine ai rfl (bne_eq_false_iff_eq.2 (Decidable.not_not.1 h2)) ?_;refine aq ?_;refine ak (hk1 _ _ ?_);refine aK (S:=Unit) (V:=Unit) [3,4,5,6,7,17,19,20,21,22,23,24,25,26,27,28,29,30,31,32,33,34,35,36,37,38,39,40,41,42,43,44,45,46,47,48,49,50,51,52,53,54,55,56,57,58,59,60,61,62,63,64,65,66,67,68,69,70,71,72,73,74,75,76,77,78,79,80,81,82,83,84,85,86,87,88,89,90,91,92,93,94,95,96,97,98,99,100,101,102,103,104,105,106,107,108,109,110] (fun _ _=>[]) (fun _ _=>[.box [.tree 2 (p1.vars.map ao.enc),.tree 1 (p1.in_.map (eK .i64)),.tree 1 (p1.out_.map (eK .i64)),.tree 6 (p1.rules.map af.enc)],.box [.int .i64 0,.int .i64 0],.box [.int .i64 ((y1).code),.int .i64 ((y1).at_)]]) (fun _=>fh p1 = some r) ?_ ?_
  ·skip;refine am [3,17] ?_
   refine az ?_;obtain ⟨o4,hl4,hm4⟩:=bd hm;refine be (S:=Int) (V:=Unit) (O:=Unit ⊕ aw) [4,5,6,7,19,20,21,22,23,24,25,26,27,28,29,30,31,32,33,34,35,36,37,38,39,40,41,42,43,44,45,46,47,48,49,50,51,52,53,54,55,56,57,58,59,60,61,62,63,64,65,66,67,68,69,70,71,72,73,74,75,76,77,78,79,80,81,82,83,84,85,86,87,88,89,90,91,92,93,94,95,96,97,98,99,100,101,102,103,104,105,106,107,108,109,110] (fun x24 _=>[(4,.c (.int .i64 x24))]) (fun x24 _=>[.box [.tree 2 (p1.vars.map ao.enc),.tree 1 (p1.in_.map (eK .i64)),.tree 1 (p1.out_.map (eK .i64)),.tree 6 (p1.rules.map af.enc)],.box [.int .i64 0,.int .i64 0],.box [.int .i64 ((y1).code),.int .i64 ((y1).at_)]]) _ _ () hl4 ?_ ?_
   ·exact ls
   ·rintro x24 _ r4 hm hr4;replace hm:fm p1 x24 = some r4:=hm;refine aJ ?_;unfold fm at hm;refine ap fun k7 hk7=>?_;refine am [19,20,21,22] ?_
    by_cases h27:x24 < (p1.rules.length:Int)
    ·rw [iP h27] at hm;refine ag rfl (dT h27) ?_;refine aq ?_;refine ak (hk7 _ _ ?_);refine aK (S:=Unit) (V:=Unit) [5,6,7,23,26,27,28,29,30,31,32,33,34,35,36,37,38,39,40,41,42,43,44,45,46,47,48,49,50,51,52,53,54,55,56,57,58,59,60,61,62,63,64,65,66,67,68,69,70,71,72,73,74,75,76,77,78,79,80,81,82,83,84,85,86,87,88,89,90,91,92,93,94,95,96,97,98,99,100,101,102,103,104,105,106,107,108,109,110] (fun _ _=>[]) (fun _ _=>[.box [.tree 2 (p1.vars.map ao.enc),.tree 1 (p1.in_.map (eK .i64)),.tree 1 (p1.out_.map (eK .i64)),.tree 6 (p1.rules.map af.enc)],.box [.int .i64 0,.int .i64 0],.box [.int .i64 ((y1).code),.int .i64 ((y1).at_)]]) (fun _=>hQ x24 = some r4) ?_ ?_
     ·skip;refine az ?_
      obtain ⟨hg28a,hm⟩:=gd hm;refine bj (em af.enc p1.rules x24.toNat) [23,26,27,28,29,30] ?_;refine ap fun k8 hk8=>?_;refine bx [31,32,33,34,35,36,37,38,39,40] fun k kp hk hp=>?_;refine an 4 ?_;refine go ?_
      by_cases h29:((p1.rules.getD x24.toNat default).out_) < 0
      ·rw [iP h29] at hm;have h29b:=dT h29;refine aa ?_;refine gox h29b ?_;refine hk _ _ ?_;clear hk hp k kp;refine ag rfl rfl ?_;refine aI [1,4,5,41,42,43] fun k kp hk hp=>?_;refine go ?_;obtain ⟨y25,hc30,hm⟩:=bd hm;refine RP (fun _=>cx 16 x24 _ hc30) ?_;refine aa ?_;refine go ?_;refine hk _ _ ?_;clear hk hp k kp;have ho31:=aA hm hr4;subst ho31;replace hm:some (y25) = some r:=hm4;refine aj ?_;refine ah (ab (av (aG (ab (av ?_)))))
       cases hm
       exact kr 0
      ·rw [iN h29] at hm;have h29b:=dF h29;refine aa ?_;refine gox h29b ?_;refine hk _ _ ?_;clear hk hp k kp
       by_cases h32:((p1.rules.getD x24.toNat default).out_) ≥ (p1.vars.length:Int)
       ·rw [iP h32] at hm;refine ag rfl (dT h32) ?_;refine aI [1,4,5,41,42,43] fun k kp hk hp=>?_;refine go ?_;obtain ⟨y26,hc33,hm⟩:=bd hm;refine RP (fun _=>cx 16 x24 _ hc33) ?_;refine aa ?_;refine go ?_;refine hk _ _ ?_;clear hk hp k kp;have ho34:=aA hm hr4;subst ho34;replace hm:some (y26) = some r:=hm4;refine aj ?_;refine ah (ab (av (aG (ab (av ?_)))))
        cases hm
        exact kr 0
       ·rw [iN h32] at hm;refine ai rfl (dF h32) ?_;refine aq ?_;refine ak (hk8 _ _ ?_);refine ap fun k9 hk9=>?_;refine eg [41,44,45,46,47,48,49,50,51,52,53,54,55] (by kernel_rfl) [0,1,0,4,15,31,63,63,255,63,575,2047,4095] [false,false,false,false,true,true,false,false,false,false,false,true,true] (by kernel_rfl) fun k hk=>?_;refine aT ?_;refine ga ?_;obtain ⟨y27,hc35,hm⟩:=bd hm;refine pat (fun _=>iX p1.in_ ((p1.rules.getD x24.toNat default).out_) _ hc35) ?_
        by_cases h36:y27 = true
        ·rw [iP h36] at hm;have h36b:=h36;refine aT ?_;refine gax h36b ?_;refine hk _ _ ?_;clear hk k;refine ag rfl rfl ?_;refine aI [1,4,5,56,57,58] fun k kp hk hp=>?_;refine go ?_;obtain ⟨y28,hc37,hm⟩:=bd hm;refine RP (fun _=>cx 8 x24 _ hc37) ?_;refine aa ?_;refine go ?_;refine hk _ _ ?_;clear hk hp k kp;have ho38:=aA hm hr4;subst ho38;replace hm:some (y28) = some r:=hm4;refine aj ?_;refine ah (ab (av (aG (ab (av ?_)))))
         cases hm
         exact kr 0
        ·rw [iN h36] at hm;have h36b:=fB h36;refine aT ?_;refine gax h36b ?_;obtain ⟨y29,hc39,hm⟩:=bd hm;refine pat (fun _=>rg p1 x24 _ hc39) ?_;refine aT ?_;refine gax h36b ?_;obtain ⟨y30,hc40,hm⟩:=bd hm;refine pat (fun _=>iX y29 ((p1.rules.getD x24.toNat default).out_) _ hc40) ?_;refine aT ?_;refine gax h36b ?_;refine hk _ _ ?_;clear hk k
         by_cases h41:y30 = true
         ·rw [iP h41] at hm;refine ag rfl (h41) ?_;refine aI [1,4,5,56,57,58] fun k kp hk hp=>?_;refine go ?_;obtain ⟨y31,hc42,hm⟩:=bd hm;refine RP (fun _=>cx 8 x24 _ hc42) ?_;refine aa ?_;refine go ?_;refine hk _ _ ?_;clear hk hp k kp;have ho43:=aA hm hr4;subst ho43;replace hm:some (y31) = some r:=hm4;refine aj ?_;refine ah (ab (av (aG (ab (av ?_)))))
          cases hm
          exact kr 0
         ·rw [iN h41] at hm;refine ai rfl (fB h41) ?_;refine aq ?_;refine ak (hk9 _ _ ?_);refine ap fun k10 hk10=>?_;refine eg [56,59,60,61,62,63,64,65,66,67,68,69,70] (by kernel_rfl) [0,1,3,7,15,31,63,127,31,287,799,2047,4095] [true,true,true,true,true,false,false,false,false,false,false,true,true] (by kernel_rfl) fun k hk=>?_;refine aT ?_;refine ga ?_;obtain ⟨y32,hc44,hm⟩:=bd hm;refine pat (fun _=>n8 ((p1.rules.getD x24.toNat default).op) _ hc44) ?_
          by_cases h45:y32 < 0
          ·rw [iP h45] at hm;have h45b:=dT h45;refine aT ?_;refine gax h45b ?_;refine hk _ _ ?_;clear hk k;refine ag rfl rfl ?_;refine aI [1,4,5,71,72,73] fun k kp hk hp=>?_;refine go ?_;obtain ⟨y33,hc46,hm⟩:=bd hm;refine RP (fun _=>cx 4 x24 _ hc46) ?_;refine aa ?_;refine go ?_;refine hk _ _ ?_;clear hk hp k kp;have ho47:=aA hm hr4;subst ho47;replace hm:some (y33) = some r:=hm4;refine aj ?_;refine ah (ab (av (aG (ab (av ?_)))))
           cases hm
           exact kr 0
          ·rw [iN h45] at hm;have h45b:=dF h45;refine aT ?_;refine gax h45b ?_;obtain ⟨y34,hc48,hm⟩:=bd hm;refine pat (fun _=>n8 ((p1.rules.getD x24.toNat default).op) _ hc48) ?_;refine aT ?_;refine gax h45b ?_;refine hk _ _ ?_;clear hk k
           by_cases h49:¬ y34 = (((p1.rules.getD x24.toNat default).a).length:Int)
           ·rw [iP h49] at hm;refine ag rfl (bne_iff_ne.2 h49) ?_;refine aI [1,4,5,71,72,73] fun k kp hk hp=>?_;refine go ?_;obtain ⟨y35,hc50,hm⟩:=bd hm;refine RP (fun _=>cx 4 x24 _ hc50) ?_;refine aa ?_;refine go ?_;refine hk _ _ ?_;clear hk hp k kp;have ho51:=aA hm hr4;subst ho51;replace hm:some (y35) = some r:=hm4;refine aj ?_;refine ah (ab (av (aG (ab (av ?_)))))
            cases hm
            exact kr 0
           ·rw [iN h49] at hm;refine ai rfl (bne_eq_false_iff_eq.2 (Decidable.not_not.1 h49)) ?_;refine aq ?_;refine ak (hk10 _ _ ?_);refine ap fun k11 hk11=>?_;refine am [71,74,75,76] ?_
            by_cases h52:(((p1.rules.getD x24.toNat default).e).length:Int) > 24
            ·rw [iP h52] at hm;refine ag rfl (dT h52) ?_;refine aI [1,4,5,77,78,79] fun k kp hk hp=>?_;refine go ?_;obtain ⟨y36,hc53,hm⟩:=bd hm;refine RP (fun _=>cx 7 x24 _ hc53) ?_;refine aa ?_;refine go ?_;refine hk _ _ ?_;clear hk hp k kp;have ho54:=aA hm hr4;subst ho54;replace hm:some (y36) = some r:=hm4;refine aj ?_;refine ah (ab (av (aG (ab (av ?_)))))
             cases hm
             exact kr 0
            ·rw [iN h52] at hm;refine ai rfl (dF h52) ?_;refine aq ?_;refine ak (hk11 _ _ ?_);refine aI [77,80,81] fun k kp hk hp=>?_;refine go ?_;obtain ⟨y37,hc55,hm⟩:=bd hm;refine RP (fun _=>n9 (p1.rules.getD x24.toNat default) _ hc55) ?_;refine aa ?_;refine go ?_;refine hk _ _ ?_;clear hk hp k kp;refine aK (S:=Unit) (V:=Unit) [6,7,82,83,84,85,86,87,88,89,90,91,92,93,94,95,96,97,98,99,100,101,102,103,104] (fun _ _=>[]) (fun _ _=>[.box [.tree 2 (p1.vars.map ao.enc),.tree 1 (p1.in_.map (eK .i64)),.tree 1 (p1.out_.map (eK .i64)),.tree 6 (p1.rules.map af.enc)],.box [.int .i64 0,.int .i64 0],.box [.int .i64 ((y1).code),.int .i64 ((y1).at_)],.box [.int .i64 ((p1.rules.getD x24.toNat default).op),.int .i64 ((p1.rules.getD x24.toNat default).k),.int .i64 ((p1.rules.getD x24.toNat default).out_),.int .i64 ((p1.rules.getD x24.toNat default).n),.tree 1 (((p1.rules.getD x24.toNat default).a).map (eK .i64)),.tree 4 (((p1.rules.getD x24.toNat default).e).map ay.enc)]]) (fun _=>fj p1 x24 = some r4) ?_ ?_
             ·skip;refine am [] ?_
              refine az ?_;obtain ⟨o5,hl5,hm5⟩:=bd hm;refine be (S:=Int) (V:=Unit) (O:=Unit ⊕ aw) [7,82,83,84,85,86,87,88,89,90,91,92,93,94,95,96,97,98,99,100,101,102,103,104] (fun x42 _=>[(7,.c (.int .i64 x42))]) (fun x42 _=>[.box [.tree 2 (p1.vars.map ao.enc),.tree 1 (p1.in_.map (eK .i64)),.tree 1 (p1.out_.map (eK .i64)),.tree 6 (p1.rules.map af.enc)],.box [.int .i64 0,.int .i64 0],.box [.int .i64 ((y1).code),.int .i64 ((y1).at_)],.box [.int .i64 ((p1.rules.getD x24.toNat default).op),.int .i64 ((p1.rules.getD x24.toNat default).k),.int .i64 ((p1.rules.getD x24.toNat default).out_),.int .i64 ((p1.rules.getD x24.toNat default).n),.tree 1 (((p1.rules.getD x24.toNat default).a).map (eK .i64)),.tree 4 (((p1.rules.getD x24.toNat default).e).map ay.enc)]]) _ _ () hl5 ?_ ?_
              ·exact ls
              ·rintro x42 _ r5 hm hr5;replace hm:hU p1 x24 y37 x42 = some r5:=hm;refine aJ ?_;unfold hU at hm;refine ap fun k12 hk12=>?_;refine am [82,83,84] ?_
               by_cases h60:x42 < (y37.length:Int)
               ·rw [iP h60] at hm;refine ag rfl (dT h60) ?_;refine aq ?_;refine ak (hk12 _ _ ?_);refine ap fun k13 hk13=>?_;refine az ?_;obtain ⟨hg61a,hm⟩:=gd hm;refine eg [85,88,89,90,91,92,93,94,95,96,97,98,99,100,101] (by kernel_rfl) [0,0,3,7,15,31,63,63,255,511,63,1087,3135,8191,16383] [false,false,true,true,true,true,false,false,false,false,false,false,false,true,true] (by kernel_rfl) fun k hk=>?_;refine eA 6 rfl ?_;refine gax (em (eK .i64) y37 x42.toNat) ?_
                by_cases h62:(y37.getD x42.toNat default) < 0
                ·rw [iP h62] at hm;have h62b:=dT h62;refine aT ?_;refine gax h62b ?_;refine hk _ _ ?_;clear hk k;refine ag rfl rfl ?_;refine aI [1,4,5,6,7,102,103,104] fun k kp hk hp=>?_;refine go ?_;obtain ⟨y43,hc63,hm⟩:=bd hm;refine RP (fun _=>cx 16 x24 _ hc63) ?_;refine aa ?_;refine go ?_;refine hk _ _ ?_;clear hk hp k kp;have ho64:=aA hm hr5;subst ho64;replace hm:some (.inr (.inr (y43))) = some r4:=hm5;have ho65:=aA hm hr4;subst ho65;replace hm:some (y43) = some r:=hm4;refine aj ?_;refine ab (ah (aG (ab (av (ab (av (aG (ab (av ?_)))))))))
                 cases hm
                 exact kr 0
                ·rw [iN h62] at hm;have h62b:=dF h62;refine aT ?_;refine gax (a2 (em (eK .i64) y37 x42.toNat) h62b) ?_;refine hk _ _ ?_;clear hk k
                 by_cases h66:(y37.getD x42.toNat default) ≥ (p1.vars.length:Int)
                 ·rw [iP h66] at hm;refine ag rfl (dT h66) ?_;refine aI [1,4,5,6,7,102,103,104] fun k kp hk hp=>?_;refine go ?_;obtain ⟨y44,hc67,hm⟩:=bd hm;refine RP (fun _=>cx 16 x24 _ hc67) ?_;refine aa ?_;refine go ?_;refine hk _ _ ?_;clear hk hp k kp;have ho68:=aA hm hr5;subst ho68;replace hm:some (.inr (.inr (y44))) = some r4:=hm5;have ho69:=aA hm hr4;subst ho69;replace hm:some (y44) = some r:=hm4;refine aj ?_;refine ab (ah (aG (ab (av (ab (av (aG (ab (av ?_)))))))))
                  cases hm
                  exact kr 0
                 ·rw [iN h66] at hm;refine ai rfl (dF h66) ?_;refine aq ?_;refine au ?_;refine ak (hk13 _ _ ?_);refine bn ?_;refine aC (IntKind.wrap .i64 (x42 + 1)) () hm ?_;exact ls
               ·rw [iN h60] at hm;refine ai rfl (dF h60) ?_;refine bq ?_;have ho70:=aA hm hr5;subst ho70;replace hm:fj p1 x24 = some r4:=hm5;refine bb (aQ (aF ?_));refine ax () () hm ?_;exact ls
             ·rintro _ _ hm;replace hm:fj p1 x24 = some r4:=hm;refine aJ ?_;unfold fj at hm;refine aI [5,105,106,107] fun k kp hk hp=>?_;refine go ?_;obtain ⟨y38,hc56,hm⟩:=bd hm;refine RP (fun _=>rx p1 (p1.rules.getD x24.toNat default) _ hc56) ?_;refine aa ?_;refine go ?_;refine hk _ _ ?_;clear hk hp k kp
              by_cases h57:y38 = true
              ·rw [iP h57] at hm;refine ai rfl (by rw [show y38 = true from (h57)];rfl) ?_;refine aq ?_;refine au ?_;refine ax () () hm ?_;exact ls
              ·rw [iN h57] at hm;refine ag rfl (by rw [show y38 = false from (fB h57)];rfl) ?_;refine aI [1,4,108,109,110] fun k kp hk hp=>?_;refine go ?_;obtain ⟨y39,hc58,hm⟩:=bd hm;refine RP (fun _=>cx 10 x24 _ hc58) ?_;refine aa ?_;refine go ?_;refine hk _ _ ?_;clear hk hp k kp;have ho59:=aA hm hr4;subst ho59;replace hm:some (y39) = some r:=hm4;refine aj ?_;refine ab (av (aG (ab (av ?_))))
               cases hm
               exact kr 0
     ·rintro _ _ hm;replace hm:hQ x24 = some r4:=hm;refine aJ ?_;unfold hQ at hm;refine bn ?_;refine aC (IntKind.wrap .i64 (x24 + 1)) () hm ?_;exact ls
    ·rw [iN h27] at hm;refine ai rfl (dF h27) ?_;refine bq ?_;have ho71:=aA hm hr4;subst ho71;replace hm:fh p1 = some r:=hm4;refine bb (aQ (aF ?_));refine ax () () hm ?_;exact ls
  ·rintro _ _ hm;replace hm:fh p1 = some r:=hm;refine aJ ?_;unfold fh at hm;refine aI [111,112,113,114,115] fun k kp hk hp=>?_;refine go ?_;obtain ⟨y2,hc3,hm⟩:=bd hm;refine RP (fun _=>rg p1 (p1.rules.length:Int) _ hc3) ?_;refine aa ?_;refine go ?_;refine hk _ _ ?_;clear hk hp k kp;refine aK (S:=Unit) (V:=Unit) [9,10,11,116,117,118,119,120,121,122,123,124,125,126,127,128,129,130,131,132,133,134,135,136,137,138,139,140,141,142,143,144,145,146,147,148,149,150,151,152,153] (fun _ _=>[]) (fun _ _=>[.box [.tree 2 (p1.vars.map ao.enc),.tree 1 (p1.in_.map (eK .i64)),.tree 1 (p1.out_.map (eK .i64)),.tree 6 (p1.rules.map af.enc)],.box [.int .i64 0,.int .i64 0],.box [.int .i64 ((y1).code),.int .i64 ((y1).at_)]]) (fun _=>fe p1 y2 = some r) ?_ ?_
   ·skip;refine am [] ?_
    refine az ?_;obtain ⟨o2,hl2,hm2⟩:=bd hm;refine be (S:=Int) (V:=Unit) (O:=Unit ⊕ aw) [9,10,11,116,117,118,119,120,121,122,123,124,125,126,127,128,129,130,131,132,133,134,135,136,137,138,139,140,141,142,143,144,145,146,147,148,149,150,151,152,153] (fun x12 _=>[(9,.c (.int .i64 x12))]) (fun x12 _=>[.box [.tree 2 (p1.vars.map ao.enc),.tree 1 (p1.in_.map (eK .i64)),.tree 1 (p1.out_.map (eK .i64)),.tree 6 (p1.rules.map af.enc)],.box [.int .i64 0,.int .i64 0],.box [.int .i64 ((y1).code),.int .i64 ((y1).at_)]]) _ _ () hl2 ?_ ?_
    ·exact ls
    ·rintro x12 _ r2 hm hr2;replace hm:fg p1 y2 x12 = some r2:=hm;refine aJ ?_;unfold fg at hm;refine ap fun k4 hk4=>?_;refine am [116,117,118,119] ?_
     by_cases h13:x12 < (p1.rules.length:Int)
     ·rw [iP h13] at hm;refine ag rfl (dT h13) ?_;refine aq ?_;refine ak (hk4 _ _ ?_);refine aK (S:=Unit) (V:=Unit) [10,11,120,123,124,125,126,127,128,129,130,131,132,133,134,135,136,137,138,139,140,141,142,143,144,145,146,147,148,149,150,151,152,153] (fun _ _=>[]) (fun _ _=>[.box [.tree 2 (p1.vars.map ao.enc),.tree 1 (p1.in_.map (eK .i64)),.tree 1 (p1.out_.map (eK .i64)),.tree 6 (p1.rules.map af.enc)],.box [.int .i64 0,.int .i64 0],.box [.int .i64 ((y1).code),.int .i64 ((y1).at_)]]) (fun _=>ff x12 = some r2) ?_ ?_
      ·skip;refine az ?_
       obtain ⟨hg14a,hm⟩:=gd hm;refine aI [120,123,124,125,126,127,128] fun k kp hk hp=>?_;refine gox (em af.enc p1.rules x12.toNat) ?_;obtain ⟨y13,hc15,hm⟩:=bd hm;refine RP (fun _=>n9 (p1.rules.getD x12.toNat default) _ hc15) ?_;refine aa ?_;refine go ?_;refine hk _ _ ?_;clear hk hp k kp;refine am [] ?_;refine az ?_;obtain ⟨o3,hl3,hm3⟩:=bd hm;refine be (S:=Int) (V:=Unit) (O:=Unit ⊕ aw) [11,129,130,131,132,133,134,135,136,137,138,139,140,141,142,143,144,145,146,147,148,149,150,151,152,153] (fun x16 _=>[(11,.c (.int .i64 x16))]) (fun x16 _=>[.box [.tree 2 (p1.vars.map ao.enc),.tree 1 (p1.in_.map (eK .i64)),.tree 1 (p1.out_.map (eK .i64)),.tree 6 (p1.rules.map af.enc)],.box [.int .i64 0,.int .i64 0],.box [.int .i64 ((y1).code),.int .i64 ((y1).at_)]]) _ _ () hl3 ?_ ?_
       ·exact ls
       ·rintro x16 _ r3 hm hr3;replace hm:gZ p1 y2 x12 y13 x16 = some r3:=hm;refine aJ ?_;unfold gZ at hm;refine ap fun k5 hk5=>?_;refine am [129,130,131] ?_
        by_cases h16:x16 < (y13.length:Int)
        ·rw [iP h16] at hm;refine ag rfl (dT h16) ?_;refine aq ?_;refine ak (hk5 _ _ ?_);refine ap fun k6 hk6=>?_;refine az ?_;obtain ⟨hg17a,hm⟩:=gd hm;refine eg [132,135,136,137,138,139,140,141,142,143,144,145,146,147,148,149,150] (by kernel_rfl) [0,1,0,0,12,28,63,127,255,511,511,511,3583,7679,16383,32767,65535] [false,false,false,false,false,false,true,true,true,false,false,false,false,false,true,true,true] (by kernel_rfl) fun k hk=>?_;refine aT ?_;refine gax (em (eK .i64) y13 x16.toNat) ?_;obtain ⟨y17,hc18,hm⟩:=bd hm;refine pat (fun _=>iX p1.in_ (y13.getD x16.toNat default) _ hc18) ?_
         by_cases h19:y17 = true
         ·rw [iP h19] at hm;have h19b:=h19
          have h19c:(!y17) = false:=by rw [h19b];rfl
          refine aT ?_;refine gax (a2 h19b h19c) ?_;refine hk _ _ ?_;clear hk k;refine ai rfl rfl ?_;refine aq ?_;refine au ?_;refine ak (hk6 _ _ ?_);refine bn ?_;refine aC (IntKind.wrap .i64 (x16 + 1)) () hm ?_;exact la
         ·rw [iN h19] at hm;have h19b:=fB h19
          have h19c:(!y17) = true:=by rw [h19b];rfl
          refine aT ?_;refine gax (a2 (em (eK .i64) y13 x16.toNat) (a2 h19b h19c)) ?_;obtain ⟨y18,hc20,hm⟩:=bd hm;refine pat (fun _=>iX y2 (y13.getD x16.toNat default) _ hc20) ?_;refine aT ?_;refine gax (a2 h19b h19c) ?_;refine hk _ _ ?_;clear hk k
          by_cases h21:y18 = true
          ·rw [iP h21] at hm;refine ai rfl (by rw [show y18 = true from (h21)];rfl) ?_;refine aq ?_;refine au ?_;refine ak (hk6 _ _ ?_);refine bn ?_;refine aC (IntKind.wrap .i64 (x16 + 1)) () hm ?_;exact la
          ·rw [iN h21] at hm;refine ag rfl (by rw [show y18 = false from (fB h21)];rfl) ?_;refine aI [1,8,9,10,11,151,152,153] fun k kp hk hp=>?_;refine go ?_;obtain ⟨y19,hc22,hm⟩:=bd hm;refine RP (fun _=>cx 9 x12 _ hc22) ?_;refine aa ?_;refine go ?_;refine hk _ _ ?_;clear hk hp k kp;have ho23:=aA hm hr3;subst ho23;replace hm:some (.inr (.inr (y19))) = some r2:=hm3;have ho24:=aA hm hr2;subst ho24;replace hm:some (y19) = some r:=hm2;refine aj ?_;refine ab (ah (aG (ab (ab (av (aG (ab (av ?_))))))))
           cases hm
           exact kr 0
        ·rw [iN h16] at hm;refine ai rfl (dF h16) ?_;refine bq ?_;have ho25:=aA hm hr3;subst ho25;replace hm:ff x12 = some r2:=hm3;refine bb (aQ (aF (au ?_)));refine ax () () hm ?_;exact ls
      ·rintro _ _ hm;replace hm:ff x12 = some r2:=hm;refine aJ ?_;unfold ff at hm;refine bn ?_;refine aC (IntKind.wrap .i64 (x12 + 1)) () hm ?_;exact ls
     ·rw [iN h13] at hm;refine ai rfl (dF h13) ?_;refine bq ?_;have ho26:=aA hm hr2;subst ho26;replace hm:fe p1 y2 = some r:=hm2;refine bb (aQ (aF ?_));refine ax () () hm ?_;exact ls
   ·rintro _ _ hm;replace hm:fe p1 y2 = some r:=hm;refine aJ ?_;unfold fe at hm;refine aK (S:=Unit) (V:=Unit) [1,8,12,154,155,156,157,158,159,160,161,162,163,164,165,166,167,168,169,170,171,172,173,174,175,176,177,178,179,180] (fun _ _=>[]) (fun _ _=>[.box [.tree 2 (p1.vars.map ao.enc),.tree 1 (p1.in_.map (eK .i64)),.tree 1 (p1.out_.map (eK .i64)),.tree 6 (p1.rules.map af.enc)],.box [.int .i64 0,.int .i64 0],.box [.int .i64 ((y1).code),.int .i64 ((y1).at_)]]) (fun _=>gY = some r) ?_ ?_
    ·skip;refine am [] ?_
     refine az ?_;obtain ⟨o1,hl1,hm1⟩:=bd hm;refine be (S:=Int) (V:=Unit) (O:=Unit ⊕ aw) [12,154,155,156,157,158,159,160,161,162,163,164,165,166,167,168,169,170,171,172,173,174,175,176,177,178,179,180] (fun x5 _=>[(12,.c (.int .i64 x5))]) (fun x5 _=>[.box [.tree 2 (p1.vars.map ao.enc),.tree 1 (p1.in_.map (eK .i64)),.tree 1 (p1.out_.map (eK .i64)),.tree 6 (p1.rules.map af.enc)],.box [.int .i64 0,.int .i64 0],.box [.int .i64 ((y1).code),.int .i64 ((y1).at_)]]) _ _ () hl1 ?_ ?_
     ·exact ls
     ·rintro x5 _ r1 hm hr1;replace hm:fd p1 y2 x5 = some r1:=hm;refine aJ ?_;unfold fd at hm;refine ap fun k2 hk2=>?_;refine am [154,155,156,157] ?_
      by_cases h4:x5 < (p1.out_.length:Int)
      ·rw [iP h4] at hm;refine ag rfl (dT h4) ?_;refine aq ?_;refine ak (hk2 _ _ ?_);refine ap fun k3 hk3=>?_;refine az ?_;obtain ⟨hg5a,hm⟩:=gd hm;refine eg [158,161,162,163,164,165,166,167,168,169,170,171,172,173,174,175,176,177,178] (by kernel_rfl) [0,1,0,4,0,28,60,127,255,511,1023,1023,3071,1023,15359,31743,65535,131071,262143] [false,false,false,false,false,false,false,true,true,true,false,false,false,false,false,false,true,true,true] (by kernel_rfl) fun k hk=>?_;refine aT ?_;refine gax (em (eK .i64) p1.out_ x5.toNat) ?_;obtain ⟨y6,hc6,hm⟩:=bd hm;refine pat (fun _=>iX p1.in_ (p1.out_.getD x5.toNat default) _ hc6) ?_
       by_cases h7:y6 = true
       ·rw [iP h7] at hm;have h7b:=h7
        have h7c:(!y6) = false:=by rw [h7b];rfl
        refine aT ?_;refine gax (a2 h7b h7c) ?_;refine hk _ _ ?_;clear hk k;refine ai rfl rfl ?_;refine aq ?_;refine au ?_;refine ak (hk3 _ _ ?_);refine bn ?_;refine aC (IntKind.wrap .i64 (x5 + 1)) () hm ?_;exact la
       ·rw [iN h7] at hm;have h7b:=fB h7
        have h7c:(!y6) = true:=by rw [h7b];rfl
        refine aT ?_;refine gax (a2 (em (eK .i64) p1.out_ x5.toNat) (a2 h7b h7c)) ?_;obtain ⟨y7,hc8,hm⟩:=bd hm;refine pat (fun _=>iX y2 (p1.out_.getD x5.toNat default) _ hc8) ?_;refine aT ?_;refine gax (a2 h7b h7c) ?_;refine hk _ _ ?_;clear hk k
        by_cases h9:y7 = true
        ·rw [iP h9] at hm;refine ai rfl (by rw [show y7 = true from (h9)];rfl) ?_;refine aq ?_;refine au ?_;refine ak (hk3 _ _ ?_);refine bn ?_;refine aC (IntKind.wrap .i64 (x5 + 1)) () hm ?_;exact la
        ·rw [iN h9] at hm;refine ag rfl (by rw [show y7 = false from (fB h9)];rfl) ?_;refine aI [1,8,12,179,180] fun k kp hk hp=>?_;refine go ?_;obtain ⟨y8,hc10,hm⟩:=bd hm;refine RP (fun _=>cx 9 (-1) _ hc10) ?_;refine aa ?_;refine go ?_;refine hk _ _ ?_;clear hk hp k kp;have ho11:=aA hm hr1;subst ho11;replace hm:some (y8) = some r:=hm1;refine aj ?_;refine ab (ah (aG (ab (av ?_))))
         cases hm
         exact kr 0
      ·rw [iN h4] at hm;refine ai rfl (dF h4) ?_;refine bq ?_;have ho12:=aA hm hr1;subst ho12;replace hm:gY = some r:=hm1;refine bb (aQ (aF ?_));refine ax () () hm ?_;exact ls
    ·rintro _ _ hm;replace hm:gY = some r:=hm;refine aJ ?_;unfold gY at hm;refine am [181] ?_;refine aj ?_
     cases hm
     exact kr 0
theorem vB (p1:Int) (p2:List Int) (v0_:Nat) (r:Bool) (hm:n6 p1 p2 = some r):eD Try.prog 33 [.c (.osl 0 v0_ 0 p2.length),.c (.int .i64 p1)] [.arr 1 v0_ 3 (p2.map (eK .i64))] (fun p σ=>(p = .c (.bool r)∧σ = [.arr 1 v0_ 3 (p2.map (eK .i64))])) (fun _ _=>False):=by
 refine aM 18 [.tmp 4] Try.func33 rfl rfl rfl (by kernel_rfl) (by simp) ?_;refine bP ?_;unfold n6 at hm;refine am [4] ?_;refine aK (S:=Unit) (V:=Unit) [0,1,4,5,6,7,8,9,10,11,12,13,14,15,16,17] (fun _ _=>[]) (fun _ _=>[.arr 1 v0_ 3 (p2.map (eK .i64))]) (fun _=>kD = some r) ?_ ?_
 ·skip;refine am [] ?_
  refine az ?_;obtain ⟨o1,hl1,hm1⟩:=bd hm;refine be (S:=Int) (V:=Unit) (O:=Unit ⊕ Bool) [0,4,5,6,7,8,9,10,11,12,13,14,15,16,17] (fun x3 _=>[(0,.c (.osl 0 v0_ 0 p2.length)),(5,.c (.int .i64 x3))]) (fun x3 _=>[.arr 1 v0_ 3 (p2.map (eK .i64))]) _ _ () hl1 ?_ ?_
  ·exact ls
  ·rintro x3 _ r1 hm hr1;replace hm:kE p1 p2 x3 = some r1:=hm;refine aJ ?_;unfold kE at hm;refine ap fun k1 hk1=>?_;refine am [6,7,8] ?_
   by_cases h1:x3 < (p2.length:Int)
   ·rw [iP h1] at hm;refine ag rfl (dT h1) ?_;refine aq ?_;refine ak (hk1 _ _ ?_);refine ap fun k2 hk2=>?_;refine az ?_;obtain ⟨hg2a,hm⟩:=gd hm;refine bj (em (eK .i64) p2 x3.toNat) [9,12,13,14,15,16] ?_
    by_cases h3:(p2.getD x3.toNat default) = p1
    ·rw [iP h3] at hm;refine ag rfl (eQ h3) ?_;refine am [0,1,5,17] ?_;have ho4:=aA hm hr1;subst ho4;replace hm:some true = some r:=hm1;refine aj ?_;refine ab (ah (aG (ab (av ?_))))
     cases hm
     exact kr 1
    ·rw [iN h3] at hm;refine ai rfl (nB h3) ?_;refine aq ?_;refine au ?_;refine ak (hk2 _ _ ?_);refine bn ?_;refine aC (IntKind.wrap .i64 (x3 + 1)) () hm ?_;exact ls
   ·rw [iN h1] at hm;refine ai rfl (dF h1) ?_;refine bq ?_;have ho5:=aA hm hr1;subst ho5;replace hm:kD = some r:=hm1;refine bb (aQ (aF ?_));refine ax () () hm ?_;exact ls
 ·rintro _ _ hm;replace hm:kD = some r:=hm;refine aJ ?_;unfold kD at hm;refine am [] ?_;refine aj ?_
  cases hm
  exact kr 1
theorem uG (p1:af) (r:(List Int)) (hm:mM p1 = some r):cd Try.prog 86 [.a [.int .i64 p1.op,.int .i64 p1.k,.int .i64 p1.out_,.int .i64 p1.n,.tree 1 (p1.a.map (eK .i64)),.tree 4 (p1.e.map ay.enc)]] (.c (.tree 1 (r.map (eK .i64)))):=by
 refine aM 19 [.tmp 2] Try.func86 rfl rfl rfl (by kernel_rfl) (by simp) ?_;refine bP ?_;unfold mM at hm;refine am [0,2] ?_;refine aK (S:=Unit) (V:=Unit) [2,3,4,5,6,7,8,9,10,11,12,13,14,15,16] (fun _ _=>[]) (fun _ _=>[.box [.int .i64 p1.op,.int .i64 p1.k,.int .i64 p1.out_,.int .i64 p1.n,.tree 1 (p1.a.map (eK .i64)),.tree 4 (p1.e.map ay.enc)]]) (fun _=>gQ p1 = some r) ?_ ?_
 ·skip;refine bx [3,4,5,6,7,8,9,10] fun k kp hk hp=>?_
  refine an 4 ?_;refine go ?_
  by_cases h2:p1.op = 13
  ·rw [iP h2] at hm;have h2b:=eQ h2;refine aa ?_;refine gox h2b ?_;refine hk _ _ ?_;clear hk hp k kp
   by_cases h3:(p1.a.length:Int) = 2
   ·rw [iP h3] at hm;refine ag rfl (eQ h3) ?_;obtain ⟨hg4a,hm⟩:=gd hm;refine bj (em (eK .i64) p1.a 0) [1,11,12,13,14,15,16] ?_;refine f9 [.box [.int .i64 p1.op,.int .i64 p1.k,.int .i64 p1.out_,.int .i64 p1.n,.tree 1 (p1.a.map (eK .i64)),.tree 4 (p1.e.map ay.enc)],.arr 1 0 3 ((lit ([(p1.a.getD 0 default)]:List Int)).map (eK .i64))] ?_;refine eP (bJ 1 rfl) ?_;refine aj ?_;refine av ?_
    cases hm
    exact kr 0
   ·rw [iN h3] at hm;refine ai rfl (nB h3) ?_;refine aq ?_;refine ax () () hm ?_;exact ls
  ·rw [iN h2] at hm;have h2b:=nB h2;refine aa ?_;refine gox h2b ?_;refine hk _ _ ?_;clear hk hp k kp;refine ai rfl rfl ?_;refine aq ?_;refine ax () () hm ?_;exact ls
 ·rintro _ _ hm;replace hm:gQ p1 = some r:=hm;refine aJ ?_;unfold gQ at hm;refine aI [1,17,18] fun k kp hk hp=>?_;refine go ?_;obtain ⟨y1,hc1,hm⟩:=bd hm;refine RP (fun _=>n9 p1 _ hc1) ?_;refine aa ?_;refine go ?_;refine hk _ _ ?_;clear hk hp k kp;refine aj ?_
  cases hm
  exact kr 0
theorem uH (p1:ae) (p2:af) (p3:List Int) (v0_:Nat) (r:Bool) (hm:mN p1 p2 p3 = some r):eD Try.prog 69 [.a [.tree 2 (p1.vars.map ao.enc),.tree 1 (p1.in_.map (eK .i64)),.tree 1 (p1.out_.map (eK .i64)),.tree 6 (p1.rules.map af.enc)],.a [.int .i64 p2.op,.int .i64 p2.k,.int .i64 p2.out_,.int .i64 p2.n,.tree 1 (p2.a.map (eK .i64)),.tree 4 (p2.e.map ay.enc)],.c (.osl 0 v0_ 0 p3.length)] [.arr 1 v0_ 3 (p3.map (eK .i64))] (fun p σ=>(p = .c (.bool r)∧σ = [.arr 1 v0_ 3 (p3.map (eK .i64))])) (fun _ _=>False):=by
 refine aM 51 [.tmp 6] Try.func69 rfl rfl rfl (by kernel_rfl) (by simp) ?_;refine bP ?_;unfold mN at hm;refine am [0,1,6] ?_;refine aI [4,11,12] fun k kp hk hp=>?_;refine go ?_;obtain ⟨y1,hc1,hm⟩:=bd hm;refine RP (fun _=>uG p2 _ hc1) ?_;refine aa ?_;refine go ?_;refine hk _ _ ?_;clear hk hp k kp;refine aK (S:=Unit) (V:=Unit) [2,3,6,7,8,9,10,13,14,15,16,17,18,19,20,21,22,23,24,25,26,27,28,29,30,31,32,33,34,35,36,37,38,39,40,41,42,43,44,45,46,47,48,49,50] (fun _ _=>[]) (fun _ _=>[.arr 1 v0_ 3 (p3.map (eK .i64)),.box [.tree 2 (p1.vars.map ao.enc),.tree 1 (p1.in_.map (eK .i64)),.tree 1 (p1.out_.map (eK .i64)),.tree 6 (p1.rules.map af.enc)],.box [.int .i64 p2.op,.int .i64 p2.k,.int .i64 p2.out_,.int .i64 p2.n,.tree 1 (p2.a.map (eK .i64)),.tree 4 (p2.e.map ay.enc)]]) (fun _=>jR = some r) ?_ ?_
 ·skip;refine am [] ?_
  refine az ?_;obtain ⟨o1,hl1,hm1⟩:=bd hm;refine be (S:=Int) (V:=Unit) (O:=Unit ⊕ Bool) [2,6,8,9,10,13,14,15,16,17,18,19,20,21,22,23,24,25,26,27,28,29,30,31,32,33,34,35,36,37,38,39,40,41,42,43,44,45,46,47,48,49,50] (fun x4 _=>[(2,.c (.osl 0 v0_ 0 p3.length)),(8,.c (.int .i64 x4))]) (fun x4 _=>[.arr 1 v0_ 3 (p3.map (eK .i64)),.box [.tree 2 (p1.vars.map ao.enc),.tree 1 (p1.in_.map (eK .i64)),.tree 1 (p1.out_.map (eK .i64)),.tree 6 (p1.rules.map af.enc)],.box [.int .i64 p2.op,.int .i64 p2.k,.int .i64 p2.out_,.int .i64 p2.n,.tree 1 (p2.a.map (eK .i64)),.tree 4 (p2.e.map ay.enc)]]) _ _ () hl1 ?_ ?_
  ·exact ls
  ·rintro x4 _ r1 hm hr1;replace hm:jT p1 p3 y1 x4 = some r1:=hm;refine aJ ?_;unfold jT at hm;refine ap fun k1 hk1=>?_;refine am [13,14,15] ?_
   by_cases h2:x4 < (y1.length:Int)
   ·rw [iP h2] at hm;refine ag rfl (dT h2) ?_;refine aq ?_;refine ak (hk1 _ _ ?_);refine aK (S:=Unit) (V:=Unit) [2,6,9,10,16,19,20,21,22,23,24,25,26,27,28,29,30,31,32,33,34,35,36,37,38,39,40,41,42,43,44,45,46,47,48,49,50] (fun _ _=>[(2,.c (.osl 0 v0_ 0 p3.length))]) (fun _ _=>[.arr 1 v0_ 3 (p3.map (eK .i64)),.box [.tree 2 (p1.vars.map ao.enc),.tree 1 (p1.in_.map (eK .i64)),.tree 1 (p1.out_.map (eK .i64)),.tree 6 (p1.rules.map af.enc)],.box [.int .i64 p2.op,.int .i64 p2.k,.int .i64 p2.out_,.int .i64 p2.n,.tree 1 (p2.a.map (eK .i64)),.tree 4 (p2.e.map ay.enc)]]) (fun _=>jS x4 = some r1) ?_ ?_
    ·skip;refine az ?_
     obtain ⟨hg3a,hm⟩:=gd hm;refine kP [16,19,20,21,22,23,24,25] (by kernel_rfl) [0,1,0,0,12,28,63,127] [false,false,false,false,false,false,true,true] (by kernel_rfl) fun k hk=>?_;refine gax (em (eK .i64) y1 x4.toNat) ?_;obtain ⟨y5,hc4,hm⟩:=bd hm;refine AP (fun _=>iX p1.in_ (y1.getD x4.toNat default) _ hc4) ?_;refine ga ?_;refine hk _ _ ?_;clear hk k;refine aK (S:=Bool) (V:=Unit) [2,9,10,26,27,28,29,30,31,32,33,34,35,36,37,38,39,40,41,42,43,44,45,46,47,48] (fun b6 _=>[(2,.c (.osl 0 v0_ 0 p3.length)),(9,.c (.bool b6))]) (fun b6 _=>[.arr 1 v0_ 3 (p3.map (eK .i64)),.box [.tree 2 (p1.vars.map ao.enc),.tree 1 (p1.in_.map (eK .i64)),.tree 1 (p1.out_.map (eK .i64)),.tree 6 (p1.rules.map af.enc)],.box [.int .i64 p2.op,.int .i64 p2.k,.int .i64 p2.out_,.int .i64 p2.n,.tree 1 (p2.a.map (eK .i64)),.tree 4 (p2.e.map ay.enc)]]) (fun b6=>gR x4 b6 = some r1) ?_ ?_
     ·skip;refine am [] ?_
      refine az ?_;obtain ⟨o2,hl2,hm2⟩:=bd hm;refine be (S:=(Bool×Int)) (V:=Unit) (O:=Bool) [2,9,10,26,27,28,29,30,31,32,33,34,35,36,37,38,39,40,41,42,43,44,45,46,47,48] (fun (b11,x12) _=>[(2,.c (.osl 0 v0_ 0 p3.length)),(9,.c (.bool b11)),(10,.c (.int .i64 x12))]) (fun (b11,x12) _=>[.arr 1 v0_ 3 (p3.map (eK .i64)),.box [.tree 2 (p1.vars.map ao.enc),.tree 1 (p1.in_.map (eK .i64)),.tree 1 (p1.out_.map (eK .i64)),.tree 6 (p1.rules.map af.enc)],.box [.int .i64 p2.op,.int .i64 p2.k,.int .i64 p2.out_,.int .i64 p2.n,.tree 1 (p2.a.map (eK .i64)),.tree 4 (p2.e.map ay.enc)]]) _ _ () hl2 ?_ ?_
      ·exact ls
      ·rintro ⟨b11,x12⟩ _ r2 hm hr2;replace hm:d6 p1 p3 y1 x4 b11 x12 = some r2:=hm;refine aJ ?_;unfold d6 at hm;refine ap fun k2 hk2=>?_;refine am [26,27,28] ?_
       by_cases h7:x12 < (p3.length:Int)
       ·rw [iP h7] at hm;refine ag rfl (dT h7) ?_;refine aq ?_;refine ak (hk2 _ _ ?_);refine ap fun k3 hk3=>?_;refine az ?_
        by_cases h8:b11 = true
        ·rw [iP h8] at hm;have h8b:=h8;refine uz (by kernel_rfl) [0,1,3,7,3,3,51,115,255,511,1023,3,3,6147,14339,32767,65535,131071] [true,true,false,false,false,false,false,false,false,false,false,false,false,false,false,true,true,true] (by kernel_rfl) fun k hk=>?_;refine aT ?_;refine gax h8b ?_;refine hk _ _ ?_;clear hk k;refine au ?_;refine ak (hk3 _ _ ?_);refine bn ?_;refine aC (true,(IntKind.wrap .i64 (x12 + 1))) () hm ?_;exact la
        ·rw [iN h8] at hm;have h8b:=fB h8;obtain ⟨⟨hg9a,hg9b⟩,hm⟩:=gd hm;refine uz (by kernel_rfl) [0,1,3,7,3,3,51,115,255,511,1023,3,3,6147,14339,32767,65535,131071] [true,true,false,false,false,false,false,false,false,false,false,false,false,false,false,true,true,true] (by kernel_rfl) fun k hk=>?_;refine aT ?_;refine gax (a2 (em (eK .i64) p3 x12.toNat) (a2 (em af.enc p1.rules ((p3.getD x12.toNat default).toNat)) (a2 (em (eK .i64) y1 x4.toNat) h8b))) ?_;refine hk _ _ ?_;clear hk k;refine au ?_;refine ak (hk3 _ _ ?_);refine bn ?_;refine aC ((((p1.rules.getD ((p3.getD x12.toNat default).toNat) default).out_) == (y1.getD x4.toNat default)),(IntKind.wrap .i64 (x12 + 1))) () hm ?_;exact la
       ·rw [iN h7] at hm;refine ai rfl (dF h7) ?_;refine bq ?_;have ho10:=aA hm hr2;subst ho10;replace hm:gR x4 b11 = some r1:=hm2;refine bb (aQ (aF ?_));refine ax b11 () hm ?_;exact ls
     ·rintro b6 _ hm;replace hm:gR x4 b6 = some r1:=hm;refine aJ ?_;unfold gR at hm;refine am [9,49] ?_
      by_cases h5:b6 = true
      ·rw [iP h5] at hm;refine ai rfl (by rw [show b6 = true from (h5)];rfl) ?_;refine aq ?_;refine au ?_;refine ax () () hm ?_;exact ls
      ·rw [iN h5] at hm;refine ag rfl (by rw [show b6 = false from (fB h5)];rfl) ?_;refine am [2,3,7,8,50] ?_;have ho6:=aA hm hr1;subst ho6;replace hm:some false = some r:=hm1;refine aj ?_;refine ab (av (aG (ab (av ?_))))
       cases hm
       exact kr 1
    ·rintro _ _ hm;replace hm:jS x4 = some r1:=hm;refine aJ ?_;unfold jS at hm;refine bn ?_;refine aC (IntKind.wrap .i64 (x4 + 1)) () hm ?_;exact ls
   ·rw [iN h2] at hm;refine ai rfl (dF h2) ?_;refine bq ?_;have ho11:=aA hm hr1;subst ho11;replace hm:jR = some r:=hm1;refine bb (aQ (aF ?_));refine ax () () hm ?_;exact ls
 ·rintro _ _ hm;replace hm:jR = some r:=hm;refine aJ ?_;unfold jR at hm;refine am [] ?_;refine aj ?_
  cases hm
  exact kr 1
theorem uI (p1:ae) (r:(List Int)) (hm:mO p1 = some r):cd Try.prog 32 [.a [.tree 2 (p1.vars.map ao.enc),.tree 1 (p1.in_.map (eK .i64)),.tree 1 (p1.out_.map (eK .i64)),.tree 6 (p1.rules.map af.enc)]] (.c (.tree 1 (r.map (eK .i64)))):=by
 refine aM 33 [.tmp 2] Try.func32 rfl rfl rfl (by kernel_rfl) (by simp) ?_;refine bP ?_;unfold mO at hm;refine am [0,2] ?_;refine am [] ?_;refine cG (fc 3 1 3 (by decide) rfl (Nat.le_of_ble_eq_true rfl)) ?_;refine nE ?_;refine aK (S:=(List Int)) (V:=Nat) [1,3,4,5,6,7,8,9,10,11,12,13,14,15,16,17,18,19,20,21,22,23,24,25,26,27,28,29,30,31] (fun l3 v4=>[(3,.c (.osl 1 v4 0 l3.length))]) (fun l3 v4=>[.box [.tree 2 (p1.vars.map ao.enc),.tree 1 (p1.in_.map (eK .i64)),.tree 1 (p1.out_.map (eK .i64)),.tree 6 (p1.rules.map af.enc)],.arr 1 v4 3 (l3.map (eK .i64))]) (fun l3=>jU l3 = some r) ?_ ?_
 ·skip;refine am [] ?_
  refine az ?_;obtain ⟨o1,hl1,hm1⟩:=bd hm;refine be (S:=((List Int)×Bool)) (V:=Nat) (O:=(List Int)) [3,4,5,6,7,8,9,10,11,12,13,14,15,16,17,18,19,20,21,22,23,24,25,26,27,28,29,30,31] (fun (l17,b19) v18=>[(3,.c (.osl 1 v18 0 l17.length)),(4,.c (.bool b19))]) (fun (l17,b19) v18=>[.box [.tree 2 (p1.vars.map ao.enc),.tree 1 (p1.in_.map (eK .i64)),.tree 1 (p1.out_.map (eK .i64)),.tree 6 (p1.rules.map af.enc)],.arr 1 v18 3 (l17.map (eK .i64))]) _ _ 0 hl1 ?_ ?_
  ·exact ls
  ·rintro ⟨l17,b19⟩ v18 r1 hm hr1;replace hm:eT p1 l17 b19 = some r1:=hm;refine aJ ?_;unfold eT at hm;refine ap fun k1 hk1=>?_;refine am [4] ?_
   by_cases h1:b19 = true
   ·rw [iP h1] at hm;refine ag rfl (h1) ?_;refine aq ?_;refine ak (hk1 _ _ ?_);refine az ?_;refine am [6] ?_;refine am [] ?_;refine az ?_;obtain ⟨o2,hl2,hm2⟩:=bd hm;refine be (S:=Int) (V:=Nat) (O:=((List Int)×Bool)) [3,4,5,7,8,9,10,11,12,13,14,15,16,17,18,19,20,21,22,23,24,25,26,27,28,29,30,31] (fun x30 v29=>[(3,.c (.osl 1 v29 0 l17.length)),(4,.c (.bool false)),(5,.c (.int .i64 x30))]) (fun x30 v29=>[.box [.tree 2 (p1.vars.map ao.enc),.tree 1 (p1.in_.map (eK .i64)),.tree 1 (p1.out_.map (eK .i64)),.tree 6 (p1.rules.map af.enc)],.arr 1 v29 3 (l17.map (eK .i64))]) _ _ v18 hl2 ?_ ?_
    ·exact ls
    ·rintro x30 v29 r2 hm hr2;replace hm:d7 p1 l17 x30 = some r2:=hm;refine aJ ?_;unfold d7 at hm;refine ap fun k2 hk2=>?_;refine am [7,8,9,10] ?_
     by_cases h2:x30 < (p1.rules.length:Int)
     ·rw [iP h2] at hm;refine ag rfl (dT h2) ?_;refine aq ?_;refine ak (hk2 _ _ ?_);refine ap fun k3 hk3=>?_;refine az ?_;refine eg [11,14,15,16,17,18,19,20,21,22,23,24,25,26] (by kernel_rfl) [0,0,3,7,15,31,31,95,31,479,991,31,4095,8191] [false,false,true,true,true,false,false,false,false,false,false,false,true,true] (by kernel_rfl) fun k hk=>?_;refine aT ?_;refine ga ?_;obtain ⟨y31,hc3,hm⟩:=bd hm;refine cat (σ2:=[.box [.tree 2 (p1.vars.map ao.enc),.tree 1 (p1.in_.map (eK .i64)),.tree 1 (p1.out_.map (eK .i64)),.tree 6 (p1.rules.map af.enc)],.arr 1 v29 3 (l17.map (eK .i64))]) (res:=.c (.bool y31)) (ct [1] (vB x30 l17 v29 _ hc3)) ?_
      by_cases h4:y31 = true
      ·rw [iP h4] at hm;have h4b:=h4
       have h4c:(!y31) = false:=by rw [h4b];rfl
       refine aT ?_;refine gax (a2 h4b h4c) ?_;refine hk _ _ ?_;clear hk k;refine ai rfl rfl ?_;refine aq ?_;refine au ?_;refine ak (hk3 _ _ ?_);refine bn ?_;refine aC (IntKind.wrap .i64 (x30 + 1)) v29 hm ?_;exact la
      ·rw [iN h4] at hm;have h4b:=fB h4
       have h4c:(!y31) = true:=by rw [h4b];rfl
       obtain ⟨hg5a,hm⟩:=gd hm;refine aT ?_;refine gax (a2 (em af.enc p1.rules x30.toNat) (a2 h4b h4c)) ?_;obtain ⟨y32,hc6,hm⟩:=bd hm;refine cat (σ2:=[.box [.tree 2 (p1.vars.map ao.enc),.tree 1 (p1.in_.map (eK .i64)),.tree 1 (p1.out_.map (eK .i64)),.tree 6 (p1.rules.map af.enc)],.arr 1 v29 3 (l17.map (eK .i64))]) (res:=.c (.bool y32)) (ct [1] (uH p1 (p1.rules.getD x30.toNat default) l17 v29 _ hc6)) ?_;refine aT ?_;refine gax (a2 h4b h4c) ?_;refine hk _ _ ?_;clear hk k
       by_cases h7:y32 = true
       ·rw [iP h7] at hm;refine ag rfl (h7) ?_;obtain ⟨⟨hg8ax,hg8ay⟩,hm⟩:=gd hm;refine am [4,5,27,28,29,30,31] ?_;refine f9 [.box [.tree 2 (p1.vars.map ao.enc),.tree 1 (p1.in_.map (eK .i64)),.tree 1 (p1.out_.map (eK .i64)),.tree 6 (p1.rules.map af.enc)],.arr 1 (v29 + 1) 3 ((l17 ++ (lit ([x30]:List Int))).map (eK .i64)),.arr 1 0 3 ((lit ([x30]:List Int)).map (eK .i64))] ?_;refine am [] ?_;refine bq ?_;have ho9:=aA hm hr2;subst ho9;replace hm:some (.inl ((l17 ++ (lit ([x30]:List Int))),true)) = some r1:=hm2;refine zk (by decide) ?_;refine bb (aQ (aF (au ?_)));refine aC ((l17 ++ (lit ([x30]:List Int))),true) (v29 + 1) hm ?_;exact la
       ·rw [iN h7] at hm;refine ai rfl (fB h7) ?_;refine aq ?_;refine au ?_;refine ak (hk3 _ _ ?_);refine bn ?_;refine aC (IntKind.wrap .i64 (x30 + 1)) v29 hm ?_;exact la
     ·rw [iN h2] at hm;refine ai rfl (dF h2) ?_;refine bq ?_;have ho10:=aA hm hr2;subst ho10;replace hm:some (.inl (l17,false)) = some r1:=hm2;refine bb (aQ (aF (au ?_)));refine aC (l17,false) v29 hm ?_;exact ls
   ·rw [iN h1] at hm;refine ai rfl (fB h1) ?_;refine bq ?_;have ho11:=aA hm hr1;subst ho11;replace hm:jU l17 = some r:=hm1;refine bb (aQ (aF ?_));refine ax l17 v18 hm ?_;exact ls
 ·rintro l3 v4 hm;replace hm:jU l3 = some r:=hm;refine aJ ?_;unfold jU at hm;refine am [3,32] ?_;refine eP (bJ 1 rfl) ?_;refine aj ?_
  cases hm
  exact kr 0
theorem oR (p1:ae) (r:((List ao)×(List Int)×(List Int)×(List af))) (hm:gv p1 = some r):eD Try.prog 9 [.a [.tree 2 (p1.vars.map ao.enc),.tree 1 (p1.in_.map (eK .i64)),.tree 1 (p1.out_.map (eK .i64)),.tree 6 (p1.rules.map af.enc)]] [] (fun p σ=>(p = .a [.tree 2 (r.1.map ao.enc),.tree 1 (r.2.1.map (eK .i64)),.tree 1 (r.2.2.1.map (eK .i64)),.osl 0 1 0 r.2.2.2.length]∧σ = [.arr 6 1 53 (r.2.2.2.map af.enc)])) (fun _ _=>False):=by
 refine aM 40 [.cell 2 26] Try.func9 rfl rfl rfl (by kernel_rfl) (by simp) ?_;refine bP ?_;unfold gv at hm;refine am [0] ?_;refine am [] ?_;refine am [] ?_;obtain ⟨⟨⟨hg1ax,hg1ay⟩,⟨hg1bx,hg1by⟩,⟨hg1cx,hg1cy⟩⟩,hm⟩:=gd hm;refine xG [3,4,5,8,9,10,11,12,13,14,15,16,17,18,19,20] [6] [0,0,2,7,0,0,32,127,0,0,512,2047,4095,0,16383] [false,false,false,false,false,false,false,false,false,false,false,false,false,false,true] (by kernel_rfl) (by kernel_rfl) (by decide) fun k kp hk=>?_;simp only [fb,mP,rt,pC];refine ga ?_;refine go ?_;refine hk _ _ ?_;clear hk k kp;refine f9 [.box [.tree 2 (p1.vars.map ao.enc),.tree 1 (p1.in_.map (eK .i64)),.tree 1 (p1.out_.map (eK .i64)),.tree 6 (p1.rules.map af.enc)],.box [.nils,.nils,.nils,.nils],.arr 2 0 50 (p1.vars.map ao.enc),.arr 1 0 3 (p1.in_.map (eK .i64)),.arr 1 0 3 (p1.out_.map (eK .i64)),.box [.osl 2 0 0 p1.vars.length,.osl 3 0 0 p1.in_.length,.osl 4 0 0 p1.out_.length,.nils]] ?_;refine eP (pA 5 3 6 53 (by decide) rfl rfl) ?_;refine aK (S:=(List af)) (V:=Nat) [1,7,21,22,23,24,25,26,27,28,29,30,31,32,33,34,35,36,37,38] (fun l3 v4=>[]) (fun l3 v4=>[.box [.tree 2 (p1.vars.map ao.enc),.tree 1 (p1.in_.map (eK .i64)),.tree 1 (p1.out_.map (eK .i64)),.tree 6 (p1.rules.map af.enc)],.box [.nils,.nils,.nils,.nils],.arr 2 0 50 (p1.vars.map ao.enc),.arr 1 0 3 (p1.in_.map (eK .i64)),.arr 1 0 3 (p1.out_.map (eK .i64)),.box [.osl 2 0 0 p1.vars.length,.osl 3 0 0 p1.in_.length,.osl 4 0 0 p1.out_.length,.osl 6 v4 0 l3.length],.arr 6 v4 53 (l3.map af.enc)]) (fun l3=>dG p1 l3 = some r) ?_ ?_
 ·skip;refine am [] ?_
  refine az ?_;obtain ⟨o1,hl1,hm1⟩:=bd hm;refine be (S:=((List af)×Int)) (V:=Nat) (O:=(List af)) [7,21,22,23,24,25,26,27,28,29,30,31,32,33,34,35,36,37,38] (fun (l17,x19) v18=>[(7,.c (.int .i64 x19))]) (fun (l17,x19) v18=>[.box [.tree 2 (p1.vars.map ao.enc),.tree 1 (p1.in_.map (eK .i64)),.tree 1 (p1.out_.map (eK .i64)),.tree 6 (p1.rules.map af.enc)],.box [.nils,.nils,.nils,.nils],.arr 2 0 50 (p1.vars.map ao.enc),.arr 1 0 3 (p1.in_.map (eK .i64)),.arr 1 0 3 (p1.out_.map (eK .i64)),.box [.osl 2 0 0 p1.vars.length,.osl 3 0 0 p1.in_.length,.osl 4 0 0 p1.out_.length,.osl 6 v18 0 l17.length],.arr 6 v18 53 (l17.map af.enc)]) _ _ 0 hl1 ?_ ?_
  ·exact ls
  ·rintro ⟨l17,x19⟩ v18 r1 hm hr1;replace hm:cn p1 l17 x19 = some r1:=hm;refine aJ ?_;unfold cn at hm;refine ap fun k1 hk1=>?_;refine am [21,22,23,24] ?_
   by_cases h2:x19 < (p1.rules.length:Int)
   ·rw [iP h2] at hm;refine ag rfl (dT h2) ?_;refine aq ?_;refine ak (hk1 _ _ ?_);refine ap fun k2 hk2=>?_;refine az ?_;obtain ⟨hg3a,hm⟩:=gd hm;refine ra (by kernel_rfl) [0,1,0,4,0,28,60,124,252,511,1023,2047] [false,false,false,false,false,false,false,false,false,true,true,true] (by kernel_rfl) fun k hk=>?_;refine gax (em af.enc p1.rules x19.toNat) ?_;obtain ⟨y20,hc4,hm⟩:=bd hm;refine AP (fun _=>nH (p1.rules.getD x19.toNat default) _ hc4) ?_;obtain ⟨⟨hg5ax,hg5ay⟩,hm⟩:=gd hm;refine ga ?_;refine hk _ _ ?_;clear hk k;refine au ?_;refine ak (hk2 _ _ ?_);refine bn ?_;refine aC ((l17 ++ (lit ([(y20)]:List af))),(IntKind.wrap .i64 (x19 + 1))) (v18 + 1) hm ?_;exact ls
   ·rw [iN h2] at hm;refine ai rfl (dF h2) ?_;refine bq ?_;have ho6:=aA hm hr1;subst ho6;replace hm:dG p1 l17 = some r:=hm1;refine bb (aQ (aF ?_));refine ax l17 v18 hm ?_;exact ls
 ·rintro l3 v4 hm;replace hm:dG p1 l3 = some r:=hm;refine aJ ?_;unfold dG at hm;refine am [6,39] ?_;refine eP (bJ 2 rfl) ?_;refine eP (bJ 3 rfl) ?_;refine eP (bJ 4 rfl) ?_;refine cG (li 6 53 (by decide)) ?_;simp only [bZ,bL,reduceIte,↓reduceIte,reduceCtorEq,Int.reduceToNat,Nat.reduceDiv,Nat.reduceMod,Nat.reduceLT,Nat.reduceLeDiff,Nat.reduceAdd,Nat.reduceSub,Nat.reduceMul,Nat.reduceEqDiff,Nat.reduceBEq,Nat.reduceBNe,Nat.reduceGT,List.length_cons,List.length_nil,List.length_append,List.cons_append,List.nil_append];refine eP (ku 7 6 (by decide) rfl rfl) ?_;refine eP (sj 0 (by simp)) ?_;refine eP (lD 0 7 (by decide) (Nat.le_of_ble_eq_true rfl) (Nat.le_of_ble_eq_true rfl) rfl rfl) ?_;refine aj ?_
  cases hm
  exact kr 1
theorem oc (p1:ae) (r:(ae×aw)) (hm:lK p1 = some r):cd Try.prog 16 [.a [.tree 2 (p1.vars.map ao.enc),.tree 1 (p1.in_.map (eK .i64)),.tree 1 (p1.out_.map (eK .i64)),.tree 6 (p1.rules.map af.enc)]] (.t [.a [.tree 2 (((r.1).vars).map ao.enc),.tree 1 (((r.1).in_).map (eK .i64)),.tree 1 (((r.1).out_).map (eK .i64)),.tree 6 (((r.1).rules).map af.enc)],.a [.int .i64 ((r.2).code),.int .i64 ((r.2).at_)]]):=by
 refine aM 56 [.cell 2 26,.cell 3 35] Try.func16 rfl rfl rfl (by kernel_rfl) (by simp) ?_;refine bP ?_;unfold lK at hm;refine am [0] ?_;refine ap fun k1 hk1=>?_;refine aI [9,10] fun k kp hk hp=>?_;refine go ?_;obtain ⟨y1,hc1,hm⟩:=bd hm;refine RP (fun _=>ry p1 _ hc1) ?_;refine aa ?_;refine go ?_;refine hk _ _ ?_;clear hk hp k kp;refine am [11,12] ?_
 by_cases h2:¬ ((y1).code) = 0
 ·rw [iP h2] at hm;refine ag rfl (bne_iff_ne.2 h2) ?_;refine rH [1,4,13,14,15] (by kernel_rfl) [1] [0,0,1,7] [false,false,false,true] [false,false,true,false] [[],[4],[],[]] (by kernel_rfl) fun k hk=>?_;refine gp ?_;refine hk _ _ ?_;clear hk k
  refine cG (mD 1 [.tree 2 ([].map ao.enc),.tree 1 ([].map (eK .i64)),.tree 1 ([].map (eK .i64)),.tree 6 ([].map af.enc)] rfl (by and_intros <;> trivial)) ?_
  refine nC rfl (by simp only [bZ,bL,reduceIte,↓reduceIte,reduceCtorEq,Int.reduceToNat,Nat.reduceDiv,Nat.reduceMod,Nat.reduceLT,Nat.reduceLeDiff,Nat.reduceAdd,Nat.reduceSub,Nat.reduceMul,Nat.reduceEqDiff,Nat.reduceBEq,Nat.reduceBNe,Nat.reduceGT];rfl) ?_;refine aj ?_;refine ah ?_
  cases hm
  exact kr 0
 ·rw [iN h2] at hm;refine ai rfl (bne_eq_false_iff_eq.2 (Decidable.not_not.1 h2)) ?_;refine aq ?_;refine ak (hk1 _ _ ?_);refine aI [4,13,16,17] fun k kp hk hp=>?_;refine go ?_;obtain ⟨y2,hc3,hm⟩:=bd hm;refine RP (fun _=>uI p1 _ hc3) ?_;refine aa ?_;refine go ?_;refine hk _ _ ?_;clear hk hp k kp;refine aK (S:=Unit) (V:=Unit) [6,18,19,20,21,22,23,24,25,26,27,28,29,30,31,32] (fun _ _=>[]) (fun _ _=>[.box [.tree 2 (p1.vars.map ao.enc),.tree 1 (p1.in_.map (eK .i64)),.tree 1 (p1.out_.map (eK .i64)),.tree 6 (p1.rules.map af.enc)],.box [.nils,.nils,.nils,.nils],.box [.int .i64 0,.int .i64 0],.box [.int .i64 ((y1).code),.int .i64 ((y1).at_)]]) (fun _=>kG p1 y2 = some r) ?_ ?_
  ·skip;refine am [18,19,20,21,22] ?_
   by_cases h11:(y2.length:Int) < (p1.rules.length:Int)
   ·rw [iP h11] at hm;refine ag rfl (dT h11) ?_;refine am [1,23] ?_;refine az ?_;obtain ⟨o2,hl2,hm2⟩:=bd hm;refine be (S:=Int) (V:=Unit) (O:=(ae×aw)) [6,24,25,26,27,28,29,30,31,32] (fun x19 _=>[(6,.c (.int .i64 x19))]) (fun x19 _=>[.box [.tree 2 (p1.vars.map ao.enc),.tree 1 (p1.in_.map (eK .i64)),.tree 1 (p1.out_.map (eK .i64)),.tree 6 (p1.rules.map af.enc)],.box [.nils,.nils,.nils,.nils],.box [.int .i64 0,.int .i64 0],.box [.int .i64 ((y1).code),.int .i64 ((y1).at_)]]) _ _ () hl2 ?_ ?_
    ·exact ls
    ·rintro x19 _ r2 hm hr2;replace hm:gI y2 x19 = some r2:=hm;refine aJ ?_;unfold gI at hm;refine ap fun k4 hk4=>?_;refine az ?_;refine aI [26,27,28] fun k kp hk hp=>?_;refine go ?_;obtain ⟨y20,hc12,hm⟩:=bd hm;refine RP (fun _=>iX y2 x19 _ hc12) ?_;refine aa ?_;refine go ?_;refine hk _ _ ?_;clear hk hp k kp
     by_cases h13:y20 = true
     ·rw [iP h13] at hm;refine ai rfl (by rw [show y20 = true from (h13)];rfl) ?_;refine aq ?_;refine au ?_;refine ak (hk4 _ _ ?_);refine bn ?_;refine aC (IntKind.wrap .i64 (x19 + 1)) () hm ?_;exact ls
     ·rw [iN h13] at hm;refine ag rfl (by rw [show y20 = false from (fB h13)];rfl) ?_;refine aI [5,6,29,30,31,32] fun k kp hk hp=>?_;refine go ?_;obtain ⟨y21,hc14,hm⟩:=bd hm;refine RP (fun _=>cx 15 x19 _ hc14) ?_;refine aa ?_;refine go ?_;refine hk _ _ ?_;clear hk hp k kp
      refine cG (mD 1 [.tree 2 ([].map ao.enc),.tree 1 ([].map (eK .i64)),.tree 1 ([].map (eK .i64)),.tree 6 ([].map af.enc)] rfl (by and_intros <;> trivial)) ?_
      refine nC rfl (by simp only [bZ,bL,reduceIte,↓reduceIte,reduceCtorEq,Int.reduceToNat,Nat.reduceDiv,Nat.reduceMod,Nat.reduceLT,Nat.reduceLeDiff,Nat.reduceAdd,Nat.reduceSub,Nat.reduceMul,Nat.reduceEqDiff,Nat.reduceBEq,Nat.reduceBNe,Nat.reduceGT];rfl) ?_;have ho15:=aA hm hr2;subst ho15;replace hm:some ((ae.mk [] [] [] []),(y21)) = some r:=hm2;refine aj ?_;refine ab (ah (aG (ab (av ?_))))
      cases hm
      exact kr 0
   ·rw [iN h11] at hm;refine ai rfl (dF h11) ?_;refine aq ?_;refine ax () () hm ?_;exact ls
  ·rintro _ _ hm;replace hm:kG p1 y2 = some r:=hm;refine aJ ?_;unfold kG at hm;refine aI [33,34] fun k kp hk hp=>?_;refine go ?_;obtain ⟨y3,hc4,hm⟩:=bd hm;refine RA (oR p1  _ hc4) [] ?_;rintro p σ' ⟨rfl,rfl⟩ _;refine aa ?_;refine go ?_;refine hk _ _ ?_;clear hk hp k kp;refine aK (S:=(List af)) (V:=Unit) [1,5,8,35,36,37,38,39,40,41,42,43,44,45,46,47,48,49,50,51,52,53] (fun l5 _=>[]) (fun l5 _=>[.box [.tree 2 (p1.vars.map ao.enc),.tree 1 (p1.in_.map (eK .i64)),.tree 1 (p1.out_.map (eK .i64)),.tree 6 (p1.rules.map af.enc)],.box [.nils,.nils,.nils,.nils],.box [.int .i64 0,.int .i64 0],.box [.int .i64 ((y1).code),.int .i64 ((y1).at_)],.arr 6 1 53 (l5.map af.enc),.box [.tree 2 (y3.1.map ao.enc),.tree 1 (y3.2.1.map (eK .i64)),.tree 1 (y3.2.2.1.map (eK .i64)),.osl 4 1 0 l5.length]]) (fun l5=>kF y3 l5 = some r) ?_ ?_
   ·skip;refine am [] ?_
    refine az ?_;obtain ⟨o1,hl1,hm1⟩:=bd hm;refine be (S:=((List af)×Int)) (V:=Unit) (O:=(List af)) [8,35,36,37,38,39,40,41,42,43,44,45,46,47,48,49,50,51,52,53] (fun (l13,x14) _=>[(8,.c (.int .i64 x14))]) (fun (l13,x14) _=>[.box [.tree 2 (p1.vars.map ao.enc),.tree 1 (p1.in_.map (eK .i64)),.tree 1 (p1.out_.map (eK .i64)),.tree 6 (p1.rules.map af.enc)],.box [.nils,.nils,.nils,.nils],.box [.int .i64 0,.int .i64 0],.box [.int .i64 ((y1).code),.int .i64 ((y1).at_)],.arr 6 1 53 (l13.map af.enc),.box [.tree 2 (y3.1.map ao.enc),.tree 1 (y3.2.1.map (eK .i64)),.tree 1 (y3.2.2.1.map (eK .i64)),.osl 4 1 0 l13.length]]) _ _ () hl1 ?_ ?_
    ·exact ls
    ·rintro ⟨l13,x14⟩ _ r1 hm hr1;replace hm:eY p1 y2 l13 x14 = some r1:=hm;refine aJ ?_;unfold eY at hm;refine ap fun k2 hk2=>?_;refine am [35,36,37] ?_
     by_cases h6:x14 < (y2.length:Int)
     ·rw [iP h6] at hm;refine ag rfl (dT h6) ?_;refine aq ?_;refine ak (hk2 _ _ ?_);refine ap fun k3 hk3=>?_;refine az ?_;obtain ⟨⟨hg7a,hg7b⟩,hm⟩:=gd hm;refine ra (by kernel_rfl) [0,1,0,0,8,0,0,96,224,504,1016,2040,4095,8191] [false,false,false,false,false,false,false,false,false,false,false,false,true,true] (by kernel_rfl) fun k hk=>?_;refine gax (a2 (em (eK .i64) y2 x14.toNat) (em af.enc p1.rules ((y2.getD x14.toNat default).toNat))) ?_;obtain ⟨y15,hc8,hm⟩:=bd hm;refine AP (fun _=>nH (p1.rules.getD ((y2.getD x14.toNat default).toNat) default) _ hc8) ?_;obtain ⟨hg9a,hm⟩:=gd hm;refine gax (em af.enc l13 x14.toNat) ?_;refine hk _ _ ?_;clear hk k;refine au ?_;refine ak (hk3 _ _ ?_);refine bn ?_;refine aC ((l13.set x14.toNat (y15)),(IntKind.wrap .i64 (x14 + 1))) () hm ?_;exact ls
     ·rw [iN h6] at hm;refine ai rfl (dF h6) ?_;refine bq ?_;have ho10:=aA hm hr1;subst ho10;replace hm:kF y3 l13 = some r:=hm1;refine bb (aQ (aF ?_));refine ax l13 () hm ?_;exact ls
   ·rintro l5 _ hm;replace hm:kF y3 l5 = some r:=hm;refine aJ ?_;unfold kF at hm;refine am [7,54,55] ?_;refine eP (bJ 4 rfl) ?_;refine aj ?_
    cases hm
    exact kr 0
theorem qG (p1:List Int) (p2:List Int) (r:Bool) (hm:jc p1 p2 = some r):cd Try.prog 12 [.c (.tree 1 (p1.map (eK .i64))),.c (.tree 1 (p2.map (eK .i64)))] (.c (.bool r)):=by
 refine aM 26 [.tmp 4] Try.func12 rfl rfl rfl (by kernel_rfl) (by simp) ?_;refine bP ?_;unfold jc at hm;refine am [4] ?_;refine ap fun k1 hk1=>?_;refine am [6,7,8,9] ?_
 by_cases h1:¬ (p1.length:Int) = (p2.length:Int)
 ·rw [iP h1] at hm;refine ag rfl (bne_iff_ne.2 h1) ?_;refine am [0,1,10] ?_;refine aj ?_;refine ah ?_
  cases hm
  exact kr 0
 ·rw [iN h1] at hm;refine ai rfl (bne_eq_false_iff_eq.2 (Decidable.not_not.1 h1)) ?_;refine aq ?_;refine ak (hk1 _ _ ?_);refine aK (S:=Unit) (V:=Unit) [0,1,4,5,10,11,12,13,14,15,16,17,18,19,20,21,22,23,24,25] (fun _ _=>[]) (fun _ _=>[]) (fun _=>gw = some r) ?_ ?_
  ·skip;refine am [10] ?_
   refine az ?_;obtain ⟨o1,hl1,hm1⟩:=bd hm;refine be (S:=Int) (V:=Unit) (O:=Unit ⊕ Bool) [4,5,11,12,13,14,15,16,17,18,19,20,21,22,23,24,25] (fun x3 _=>[(5,.c (.int .i64 x3))]) (fun x3 _=>[]) _ _ () hl1 ?_ ?_
   ·exact ls
   ·rintro x3 _ r1 hm hr1;replace hm:gC p1 p2 x3 = some r1:=hm;refine aJ ?_;unfold gC at hm;refine ap fun k2 hk2=>?_;refine am [11,12,13] ?_
    by_cases h2:x3 < (p1.length:Int)
    ·rw [iP h2] at hm;refine ag rfl (dT h2) ?_;refine aq ?_;refine ak (hk2 _ _ ?_);refine ap fun k3 hk3=>?_;refine az ?_;obtain ⟨⟨hg3a,hg3b⟩,hm⟩:=gd hm;refine lE (a2 (em (eK .i64) p1 x3.toNat) (em (eK .i64) p2 x3.toNat)) [14,17,18,19,20,21,22,23,24] [0,0,3,7,0,0,48,112,255] [false,false,false,false,false,false,false,false,true] ?_
     by_cases h4:¬ (p1.getD x3.toNat default) = (p2.getD x3.toNat default)
     ·rw [iP h4] at hm;refine ag rfl (bne_iff_ne.2 h4) ?_;refine am [0,1,5,25] ?_;have ho5:=aA hm hr1;subst ho5;replace hm:some false = some r:=hm1;refine aj ?_;refine ab (ah (aG (ab (av ?_))))
      cases hm
      exact kr 0
     ·rw [iN h4] at hm;refine ai rfl (bne_eq_false_iff_eq.2 (Decidable.not_not.1 h4)) ?_;refine aq ?_;refine au ?_;refine ak (hk3 _ _ ?_);refine bn ?_;refine aC (IntKind.wrap .i64 (x3 + 1)) () hm ?_;exact ls
    ·rw [iN h2] at hm;refine ai rfl (dF h2) ?_;refine bq ?_;have ho6:=aA hm hr1;subst ho6;replace hm:gw = some r:=hm1;refine bb (aQ (aF ?_));refine ax () () hm ?_;exact ls
  ·rintro _ _ hm;replace hm:gw = some r:=hm;refine aJ ?_;unfold gw at hm;refine am [] ?_;refine aj ?_
   cases hm
   exact kr 0
theorem qk (p1:ae) (r:((List ao)×(List Int)×(List Int)×(List af)×Int×(List (List Int))×(List (List Int)))) (hm:ll p1 = some r):eD Try.prog 35 [.a [.tree 2 (p1.vars.map ao.enc),.tree 1 (p1.in_.map (eK .i64)),.tree 1 (p1.out_.map (eK .i64)),.tree 6 (p1.rules.map af.enc)]] [] (fun p σ=>(p = .c (.optr 0 0)∧σ = [.box [.tree 2 (r.1.map ao.enc),.tree 1 (r.2.1.map (eK .i64)),.tree 1 (r.2.2.1.map (eK .i64)),.tree 6 (r.2.2.2.1.map af.enc),.osl 1 1 0 r.2.2.2.2.2.1.length,.osl 2 1 0 r.2.2.2.2.2.2.length,.int .i64 r.2.2.2.2.1],.arr 1 1 38 (r.2.2.2.2.2.1.map (eN 1 (eK .i64))),.arr 1 1 38 (r.2.2.2.2.2.2.map (eN 1 (eK .i64)))])) (fun _ _=>False):=by
 refine aM 10 [.tmp 2] Try.func35 rfl rfl rfl (by kernel_rfl) (by simp) ?_;refine bP ?_;unfold ll at hm;refine am [0,2] ?_;obtain ⟨⟨hg1a,⟨hg1bx,hg1by⟩⟩,hm⟩:=gd hm;refine zw [1,3,4,5,6,7,8,9] [0,0,2,6,14,31,63,127] [false,false,false,false,false,true,true,true] ?_;refine f9 [.box [.tree 2 (p1.vars.map ao.enc),.tree 1 (p1.in_.map (eK .i64)),.tree 1 (p1.out_.map (eK .i64)),.tree 6 (p1.rules.map af.enc)],.arr 1 0 38 ((List.replicate p1.rules.length []).map (eN 1 (eK .i64))),.box [.tree 2 (p1.vars.map ao.enc),.tree 1 (p1.in_.map (eK .i64)),.tree 1 (p1.out_.map (eK .i64)),.tree 6 (p1.rules.map af.enc),.osl 1 0 0 p1.rules.length,.nils,.int .i64 0]] ?_;refine cG (pA 2 5 1 38 (by decide) rfl rfl) ?_;simp only [bZ,bL,reduceIte,↓reduceIte,reduceCtorEq,Int.reduceToNat,Nat.reduceDiv,Nat.reduceMod,Nat.reduceLT,Nat.reduceLeDiff,Nat.reduceAdd,Nat.reduceSub,Nat.reduceMul,Nat.reduceEqDiff,Nat.reduceBEq,Nat.reduceBNe,Nat.reduceGT,List.length_cons,List.length_nil,List.length_append,List.cons_append,List.nil_append];refine cG (li 1 38 (by decide)) ?_;simp only [bZ,bL,reduceIte,↓reduceIte,reduceCtorEq,Int.reduceToNat,Nat.reduceDiv,Nat.reduceMod,Nat.reduceLT,Nat.reduceLeDiff,Nat.reduceAdd,Nat.reduceSub,Nat.reduceMul,Nat.reduceEqDiff,Nat.reduceBEq,Nat.reduceBNe,Nat.reduceGT,List.length_cons,List.length_nil,List.length_append,List.cons_append,List.nil_append];refine eP (ku 4 1 (by decide) rfl rfl) ?_;refine cG (li 1 38 (by decide)) ?_;simp only [bZ,bL,reduceIte,↓reduceIte,reduceCtorEq,Int.reduceToNat,Nat.reduceDiv,Nat.reduceMod,Nat.reduceLT,Nat.reduceLeDiff,Nat.reduceAdd,Nat.reduceSub,Nat.reduceMul,Nat.reduceEqDiff,Nat.reduceBEq,Nat.reduceBNe,Nat.reduceGT,List.length_cons,List.length_nil,List.length_append,List.cons_append,List.nil_append];refine eP (ku 5 3 (by decide) rfl rfl) ?_;refine eP (sj 0 (by simp)) ?_;refine eP (lD 0 2 (by decide) (Nat.le_of_ble_eq_true rfl) (Nat.le_of_ble_eq_true rfl) rfl rfl) ?_;refine eP (lD 1 4 (by decide) (Nat.le_of_ble_eq_true rfl) (Nat.le_of_ble_eq_true rfl) rfl rfl) ?_;refine eP (lD 2 5 (by decide) (Nat.le_of_ble_eq_true rfl) (Nat.le_of_ble_eq_true rfl) rfl rfl) ?_;refine aj ?_
 cases hm
 exact kr 3
theorem sx (p1:ae) (p2:List Int) (r:Int) (hm:kH p1 p2 = some r):cd Try.prog 87 [.a [.tree 2 (p1.vars.map ao.enc),.tree 1 (p1.in_.map (eK .i64)),.tree 1 (p1.out_.map (eK .i64)),.tree 6 (p1.rules.map af.enc)],.c (.tree 1 (p2.map (eK .i64)))] (.c (.int .i64 r)):=by
 refine aM 26 [.tmp 4] Try.func87 rfl rfl rfl (by kernel_rfl) (by simp) ?_;refine bP ?_;unfold kH at hm;refine am [0,4] ?_;refine am [] ?_;refine aK (S:=Int) (V:=Unit) [1,2,5,6,7,8,9,10,11,12,13,14,15,16,17,18,19,20,21,22,23,24] (fun x1 _=>[(5,.c (.int .i64 x1))]) (fun x1 _=>[.box [.tree 2 (p1.vars.map ao.enc),.tree 1 (p1.in_.map (eK .i64)),.tree 1 (p1.out_.map (eK .i64)),.tree 6 (p1.rules.map af.enc)]]) (fun x1=>iF x1 = some r) ?_ ?_
 ·skip;refine am [] ?_
  refine az ?_;obtain ⟨o1,hl1,hm1⟩:=bd hm;refine be (S:=(Int×Int)) (V:=Unit) (O:=Int) [5,6,7,8,9,10,11,12,13,14,15,16,17,18,19,20,21,22,23,24] (fun (x6,x7) _=>[(5,.c (.int .i64 x6)),(6,.c (.int .i64 x7))]) (fun (x6,x7) _=>[.box [.tree 2 (p1.vars.map ao.enc),.tree 1 (p1.in_.map (eK .i64)),.tree 1 (p1.out_.map (eK .i64)),.tree 6 (p1.rules.map af.enc)]]) _ _ () hl1 ?_ ?_
  ·exact ls
  ·rintro ⟨x6,x7⟩ _ r1 hm hr1;replace hm:dE p1 p2 x6 x7 = some r1:=hm;refine aJ ?_;unfold dE at hm;refine ap fun k1 hk1=>?_;refine am [7,8,9] ?_
   by_cases h1:x7 < (p2.length:Int)
   ·rw [iP h1] at hm;refine ag rfl (dT h1) ?_;refine aq ?_;refine ak (hk1 _ _ ?_);refine ap fun k2 hk2=>?_;refine az ?_;obtain ⟨⟨hg2a,hg2b⟩,hm⟩:=gd hm;refine ra (by kernel_rfl) [0,0,2,0,0,24,56,126,254,510,1022,2047,4095] [false,false,false,false,false,false,false,false,false,false,false,true,true] (by kernel_rfl) fun k hk=>?_;refine gax (a2 (em (eK .i64) p2 x7.toNat) (em ao.enc p1.vars ((p2.getD x7.toNat default).toNat))) ?_;obtain ⟨y8,hc3,hm⟩:=bd hm;refine AP (fun _=>iW ((p1.vars.getD ((p2.getD x7.toNat default).toNat) default).n) _ hc3) ?_;refine ga ?_;refine hk _ _ ?_;clear hk k;refine au ?_;refine ak (hk2 _ _ ?_);refine bn ?_;refine aC ((IntKind.wrap .i64 (x6 + y8)),(IntKind.wrap .i64 (x7 + 1))) () hm ?_;exact ls
   ·rw [iN h1] at hm;refine ai rfl (dF h1) ?_;refine bq ?_;have ho4:=aA hm hr1;subst ho4;replace hm:iF x6 = some r:=hm1;refine bb (aQ (aF ?_));refine ax x6 () hm ?_;exact ls
 ·rintro x1 _ hm;replace hm:iF x1 = some r:=hm;refine aJ ?_;unfold iF at hm;refine am [5,25] ?_;refine aj ?_
  cases hm
  exact kr 0
theorem rz (p1:ae) (p2:List Int) (r:aw) (hm:jV p1 p2 = some r):cd Try.prog 70 [.a [.tree 2 (p1.vars.map ao.enc),.tree 1 (p1.in_.map (eK .i64)),.tree 1 (p1.out_.map (eK .i64)),.tree 6 (p1.rules.map af.enc)],.c (.tree 1 (p2.map (eK .i64)))] (.a [.int .i64 ((r).code),.int .i64 ((r).at_)]):=by
 refine aM 62 [.cell 4 35] Try.func70 rfl rfl rfl (by kernel_rfl) (by simp) ?_;refine bP ?_;unfold jV at hm;refine am [0] ?_;refine ap fun k1 hk1=>?_;refine aI [9,10,11,12,13,14] fun k kp hk hp=>?_;refine go ?_;obtain ⟨y1,hc1,hm⟩:=bd hm;refine RP (fun _=>sx p1 p1.in_ _ hc1) ?_;refine aa ?_;refine go ?_;refine hk _ _ ?_;clear hk hp k kp
 by_cases h2:¬ (p2.length:Int) = y1
 ·rw [iP h2] at hm;refine ag rfl (bne_iff_ne.2 h2) ?_;refine aI [1,2,15,16] fun k kp hk hp=>?_;refine go ?_;obtain ⟨y2,hc3,hm⟩:=bd hm;refine RP (fun _=>cx 17 (-1) _ hc3) ?_;refine aa ?_;refine go ?_;refine hk _ _ ?_;clear hk hp k kp;refine aj ?_;refine ah ?_
  cases hm
  exact kr 0
 ·rw [iN h2] at hm;refine ai rfl (bne_eq_false_iff_eq.2 (Decidable.not_not.1 h2)) ?_;refine aq ?_;refine ak (hk1 _ _ ?_);refine am [15] ?_;refine aK (S:=Unit) (V:=Unit) [1,2,5,6,7,8,17,18,19,20,21,22,23,24,25,26,27,28,29,30,31,32,33,34,35,36,37,38,39,40,41,42,43,44,45,46,47,48,49,50,51,52,53,54,55,56,57,58,59,60] (fun _ _=>[]) (fun _ _=>[.box [.tree 2 (p1.vars.map ao.enc),.tree 1 (p1.in_.map (eK .i64)),.tree 1 (p1.out_.map (eK .i64)),.tree 6 (p1.rules.map af.enc)],.box [.int .i64 0,.int .i64 0]]) (fun _=>hY = some r) ?_ ?_
  ·skip;refine am [] ?_
   refine az ?_;obtain ⟨o1,hl1,hm1⟩:=bd hm;refine be (S:=(Int×Int)) (V:=Unit) (O:=Unit ⊕ aw) [5,6,7,8,17,18,19,20,21,22,23,24,25,26,27,28,29,30,31,32,33,34,35,36,37,38,39,40,41,42,43,44,45,46,47,48,49,50,51,52,53,54,55,56,57,58,59,60] (fun (x7,x8) _=>[(5,.c (.int .i64 x7)),(6,.c (.int .i64 x8))]) (fun (x7,x8) _=>[.box [.tree 2 (p1.vars.map ao.enc),.tree 1 (p1.in_.map (eK .i64)),.tree 1 (p1.out_.map (eK .i64)),.tree 6 (p1.rules.map af.enc)],.box [.int .i64 0,.int .i64 0]]) _ _ () hl1 ?_ ?_
   ·exact ls
   ·rintro ⟨x7,x8⟩ _ r1 hm hr1;replace hm:di p1 p2 x7 x8 = some r1:=hm;refine aJ ?_;unfold di at hm;refine ap fun k2 hk2=>?_;refine am [17,18,19,20] ?_
    by_cases h4:x8 < (p1.in_.length:Int)
    ·rw [iP h4] at hm;refine ag rfl (dT h4) ?_;refine aq ?_;refine ak (hk2 _ _ ?_);refine aK (S:=Int) (V:=Unit) [5,7,8,21,24,25,26,27,28,29,30,31,32,33,34,35,36,37,38,39,40,41,42,43,44,45,46,47,48,49,50,51,52,53,54,55,56,57,58,59,60] (fun x9 _=>[(5,.c (.int .i64 x9))]) (fun x9 _=>[.box [.tree 2 (p1.vars.map ao.enc),.tree 1 (p1.in_.map (eK .i64)),.tree 1 (p1.out_.map (eK .i64)),.tree 6 (p1.rules.map af.enc)],.box [.int .i64 0,.int .i64 0]]) (fun x9=>fo x8 x9 = some r1) ?_ ?_
     ·skip;refine az ?_
      obtain ⟨⟨hg5a,hg5b⟩,hm⟩:=gd hm;refine lE (a2 (em (eK .i64) p1.in_ x8.toNat) (em ao.enc p1.vars ((p1.in_.getD x8.toNat default).toNat))) [21,24,25,26,27,28,29,30,31,32] [0,1,0,4,0,28,60,127,255,0,1023] [false,false,false,false,false,false,false,false,false,false,true] ?_;refine am [] ?_;refine az ?_;obtain ⟨o2,hl2,hm2⟩:=bd hm;refine be (S:=(Int×Int)) (V:=Unit) (O:=Int ⊕ aw) [5,8,33,34,35,36,37,38,39,40,41,42,43,44,45,46,47,48,49,50,51,52,53,54,55,56,57,58,59,60] (fun (x14,x15) _=>[(5,.c (.int .i64 x14)),(8,.c (.int .i64 x15))]) (fun (x14,x15) _=>[.box [.tree 2 (p1.vars.map ao.enc),.tree 1 (p1.in_.map (eK .i64)),.tree 1 (p1.out_.map (eK .i64)),.tree 6 (p1.rules.map af.enc)],.box [.int .i64 0,.int .i64 0],.box [.int .u8 ((p1.vars.getD ((p1.in_.getD x8.toNat default).toNat) default).elem),.int .i64 ((p1.vars.getD ((p1.in_.getD x8.toNat default).toNat) default).n)]]) _ _ () hl2 ?_ ?_
      ·exact ls
      ·rintro ⟨x14,x15⟩ _ r2 hm hr2;replace hm:cM p1 p2 x8 x14 x15 = some r2:=hm;refine aJ ?_;unfold cM at hm;refine ap fun k3 hk3=>?_;refine aI [33,34,35,36] fun k kp hk hp=>?_;refine go ?_;obtain ⟨y16,hc6,hm⟩:=bd hm;refine RP (fun _=>iW ((p1.vars.getD ((p1.in_.getD x8.toNat default).toNat) default).n) _ hc6) ?_;refine aa ?_;refine go ?_;refine hk _ _ ?_;clear hk hp k kp
       by_cases h7:x15 < y16
       ·rw [iP h7] at hm;refine ag rfl (dT h7) ?_;refine aq ?_;refine ak (hk3 _ _ ?_);refine ap fun k4 hk4=>?_;refine az ?_;refine ap fun k5 hk5=>?_;refine bx [37,40,41,42,43,44,45,46,47,48,49,50,51,52,53,54,55] fun k kp hk hp=>?_;refine an 4 ?_;refine go ?_
        by_cases h8:((p1.vars.getD ((p1.in_.getD x8.toNat default).toNat) default).elem) = 98
        ·rw [iP h8] at hm;have h8b:=eQ h8;obtain ⟨hg9a,hm⟩:=gd hm;refine an 7 ?_;refine gox (a2 (em (eK .i64) p2 x14.toNat) h8b) ?_
         by_cases h10:¬ (p2.getD x14.toNat default) = 0
         ·rw [iP h10] at hm;have h10b:=bne_iff_ne.2 h10;refine aa ?_;refine gox (a2 (em (eK .i64) p2 x14.toNat) (a2 h8b h10b)) ?_;refine hk _ _ ?_;clear hk hp k kp
          by_cases h11:¬ (p2.getD x14.toNat default) = 1
          ·rw [iP h11] at hm;refine ag rfl (bne_iff_ne.2 h11) ?_;refine aI [1,2,5,6,7,8,56,57,58] fun k kp hk hp=>?_;refine go ?_;obtain ⟨y17,hc12,hm⟩:=bd hm;refine RP (fun _=>cx 17 x14 _ hc12) ?_;refine aa ?_;refine go ?_;refine hk _ _ ?_;clear hk hp k kp;have ho13:=aA hm hr2;subst ho13;replace hm:some (.inr (.inr (y17))) = some r1:=hm2;have ho14:=aA hm hr1;subst ho14;replace hm:some (y17) = some r:=hm1;refine aj ?_;refine ah (ab (ah (aG (ab (ab (av (aG (ab (av ?_)))))))))
           cases hm
           exact kr 0
          ·rw [iN h11] at hm;refine ai rfl (bne_eq_false_iff_eq.2 (Decidable.not_not.1 h11)) ?_;refine aq ?_;refine ak (hk5 _ _ ?_);refine bn ?_;refine au ?_;refine ak (hk4 _ _ ?_);refine bn ?_;refine aC ((IntKind.wrap .i64 (x14 + 1)),(IntKind.wrap .i64 (x15 + 1))) () hm ?_;exact ls
         ·rw [iN h10] at hm;have h10b:((p2.getD x14.toNat default) != 0) = false:=bne_eq_false_iff_eq.2 (Decidable.not_not.1 h10);refine aa ?_;refine gox (a2 h8b h10b) ?_;refine hk _ _ ?_;clear hk hp k kp;refine ai rfl rfl ?_;refine aq ?_;refine ak (hk5 _ _ ?_);refine bn ?_;refine au ?_;refine ak (hk4 _ _ ?_);refine bn ?_;refine aC ((IntKind.wrap .i64 (x14 + 1)),(IntKind.wrap .i64 (x15 + 1))) () hm ?_;exact ls
        ·rw [iN h8] at hm;have h8b:=nB h8;refine aa ?_;refine gox h8b ?_;refine hk _ _ ?_;clear hk hp k kp;refine ai rfl rfl ?_;refine aq ?_;refine ak (hk5 _ _ ?_);refine bn ?_;refine au ?_;refine ak (hk4 _ _ ?_);refine bn ?_;refine aC ((IntKind.wrap .i64 (x14 + 1)),(IntKind.wrap .i64 (x15 + 1))) () hm ?_;exact ls
       ·rw [iN h7] at hm;refine ai rfl (dF h7) ?_;refine bq ?_;have ho15:=aA hm hr2;subst ho15;replace hm:fo x8 x14 = some r1:=hm2;refine bb (aQ (aF (au ?_)));refine ax x14 () hm ?_;exact ls
     ·rintro x9 _ hm;replace hm:fo x8 x9 = some r1:=hm;refine aJ ?_;unfold fo at hm;refine bn ?_;refine aC (x9,(IntKind.wrap .i64 (x8 + 1))) () hm ?_;exact ls
    ·rw [iN h4] at hm;refine ai rfl (dF h4) ?_;refine bq ?_;have ho16:=aA hm hr1;subst ho16;replace hm:hY = some r:=hm1;refine bb (aQ (aF ?_));refine ax () () hm ?_;exact ls
  ·rintro _ _ hm;replace hm:hY = some r:=hm;refine aJ ?_;unfold hY at hm;refine am [61] ?_;refine aj ?_
   cases hm
   exact kr 0
end Pam
