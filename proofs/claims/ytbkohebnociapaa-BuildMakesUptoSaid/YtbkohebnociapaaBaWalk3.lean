/- the walk of sys_judge_rule, printed by a program of ours -/
import Derived.Test.YtbkohebnociapaaBBase3
import Derived.Test.YtbkohebnociapaaBBase2
import Derived.Test.YtbkohebnociapaaBaFun1
import Derived.Test.YtbkohebnociapaaBaWalk1
import Derived.Test.YtbkohebnociapaaBaWalk2
set_option linter.all false
set_option maxRecDepth 100000
set_option maxHeartbeats 8000000
namespace Pam
open Go Go.Proofs
theorem pk (p1 : ah) (p2 : aC) (p3 : List Bool) (v1_ : Nat) (r : (Int × Int)) (hm : iz p1 p2 p3 = some r) : e9 Try.prog 108 [.c (.optr 0 0), .a [.int .i64 p1.op, .int .i64 p1.k, .int .i64 p1.out_, .int .i64 p1.n, .tree 1 (p1.a.map (eK .i64)), .tree 4 (p1.e.map aj.enc)], .c (.osl 1 v1_ 0 p3.length)] [.box [.tree 2 (p2.system.vars.map ap.enc), .tree 1 (p2.system.in_.map (eK .i64)), .tree 1 (p2.system.out_.map (eK .i64)), .tree 6 (p2.system.rules.map ah.enc), .int .i64 p2.code], .arr 1 v1_ 4 (p3.map eB)] (fun p σ => (p = .c (.int .i64 r.1) ∧ σ = [.box [.tree 2 (p2.system.vars.map ap.enc), .tree 1 (p2.system.in_.map (eK .i64)), .tree 1 (p2.system.out_.map (eK .i64)), .tree 6 (p2.system.rules.map ah.enc), .int .i64 r.2], .arr 1 v1_ 4 (p3.map eB)])) (fun _ _ => False) := by
 refine aG 99 [.tmp 6] Try.func108 rfl rfl rfl (by kernel_rfl) (by simp) ?_;refine bk ?_;unfold iz at hm;refine ao [1, 6] ?_;refine ao [10, 11, 12] ?_;refine aL [13, 14, 15, 16, 17, 18, 19] fun k kp hk hp => ?_;refine go ?_;obtain ⟨y1, hc1, hm⟩ := bd hm;refine RA (i9 p1.out_ (aC.mk p2.system 0)  _ hc1) [0] ?_;rintro p σ' ⟨rfl, rfl⟩ _;refine aa ?_;refine go ?_;obtain ⟨y2, hc3, hm⟩ := bd hm;refine RA (cL (!y1) 16 (aC.mk p2.system 0)  _ hc3) [0] ?_;rintro p σ' ⟨rfl, rfl⟩ _;refine aa ?_;refine go ?_;refine hk _ _ ?_;clear hk hp k kp;refine aI (S := Int) (V := Unit) [2, 20, 21, 22, 23, 24, 25, 26, 27, 28, 29, 30, 31, 32, 33] (fun x3 _ => []) (fun x3 _ => [.box [.tree 2 (p2.system.vars.map ap.enc), .tree 1 (p2.system.in_.map (eK .i64)), .tree 1 (p2.system.out_.map (eK .i64)), .tree 6 (p2.system.rules.map ah.enc), .int .i64 x3], .arr 1 v1_ 4 (p3.map eB), .box [.int .i64 p1.op, .int .i64 p1.k, .int .i64 p1.out_, .int .i64 p1.n, .tree 1 (p1.a.map (eK .i64)), .tree 4 (p1.e.map aj.enc)]]) (fun x3 => cJ p1 p2 x3 = some r) ?_ ?_
 ·skip;refine lY fun k kp hk hp => ?_
  refine an 7 ?_;refine go ?_
  by_cases h27 : y2 = 0
  ·rw [iP h27] at hm;have h27b := eQ h27;obtain ⟨hg28a, hm⟩ := gd hm;refine aa ?_;refine gox (a2 (em eB p3 p1.out_.toNat) h27b) ?_;obtain ⟨y24, hc29, hm⟩ := bd hm;refine RA (cL (p3.getD p1.out_.toNat default) 8 (aC.mk p2.system y2)  _ hc29) [0] ?_;rintro p σ' ⟨rfl, rfl⟩ _;refine aa ?_;refine gox (a2 (em eB p3 p1.out_.toNat) h27b) ?_;refine hk _ _ ?_;clear hk hp k kp;refine aw y24 () hm ?_;exact ls
  ·rw [iN h27] at hm;have h27b := nB h27;refine aa ?_;refine gox h27b ?_;obtain ⟨y25, hc31, hm⟩ := bd hm;refine RA (cL false 8 (aC.mk p2.system y2)  _ hc31) [0] ?_;rintro p σ' ⟨rfl, rfl⟩ _;refine aa ?_;refine gox h27b ?_;refine hk _ _ ?_;clear hk hp k kp;refine aw y25 () hm ?_;exact ls
 ·rintro x3 _ hm;replace hm : cJ p1 p2 x3 = some r := hm;refine aH ?_;unfold cJ at hm;refine aI (S := Int) (V := Unit) [34, 35, 36, 37, 38, 39, 40, 41, 42, 43, 44, 45, 46, 47, 48] (fun x4 _ => []) (fun x4 _ => [.box [.tree 2 (p2.system.vars.map ap.enc), .tree 1 (p2.system.in_.map (eK .i64)), .tree 1 (p2.system.out_.map (eK .i64)), .tree 6 (p2.system.rules.map ah.enc), .int .i64 x4], .arr 1 v1_ 4 (p3.map eB), .box [.int .i64 p1.op, .int .i64 p1.k, .int .i64 p1.out_, .int .i64 p1.n, .tree 1 (p1.a.map (eK .i64)), .tree 4 (p1.e.map aj.enc)]]) (fun x4 => cI p1 p2 x4 = some r) ?_ ?_
  ·skip;refine s6 (by kernel_rfl) [0, 0, 2, 6, 14, 30, 62, 126, 254, 62, 574, 1598, 4094, 8190, 16383] [false, false, false, false, false, false, false, false, false, false, false, false, false, false, true] (by kernel_rfl) fun k hk => ?_
   refine aM ?_;refine ga ?_;obtain ⟨y20, hc22, hm⟩ := bd hm;refine pat (fun _ => pe p1.op _ hc22) ?_
   by_cases h23 : y20 < 0
   ·rw [iP h23] at hm;have h23b := dT h23;refine aM ?_;refine gax h23b ?_;obtain ⟨y21, hc24, hm⟩ := bd hm;refine cat (σ2 := [.box [.tree 2 (p2.system.vars.map ap.enc), .tree 1 (p2.system.in_.map (eK .i64)), .tree 1 (p2.system.out_.map (eK .i64)), .tree 6 (p2.system.rules.map ah.enc), .int .i64 y21], .arr 1 v1_ 4 (p3.map eB), .box [.int .i64 p1.op, .int .i64 p1.k, .int .i64 p1.out_, .int .i64 p1.n, .tree 1 (p1.a.map (eK .i64)), .tree 4 (p1.e.map aj.enc)]]) (res := .t []) (ct [0] (cL true 4 (aC.mk p2.system x3)  _ hc24)) ?_;refine aM ?_;refine gax h23b ?_;refine hk _ _ ?_;clear hk k;refine aw y21 () hm ?_;exact ls
   ·rw [iN h23] at hm;have h23b := dF h23;refine aM ?_;refine gax h23b ?_;obtain ⟨y22, hc25, hm⟩ := bd hm;refine pat (fun _ => pe p1.op _ hc25) ?_;refine aM ?_;refine gax h23b ?_;obtain ⟨y23, hc26, hm⟩ := bd hm;refine cat (σ2 := [.box [.tree 2 (p2.system.vars.map ap.enc), .tree 1 (p2.system.in_.map (eK .i64)), .tree 1 (p2.system.out_.map (eK .i64)), .tree 6 (p2.system.rules.map ah.enc), .int .i64 y23], .arr 1 v1_ 4 (p3.map eB), .box [.int .i64 p1.op, .int .i64 p1.k, .int .i64 p1.out_, .int .i64 p1.n, .tree 1 (p1.a.map (eK .i64)), .tree 4 (p1.e.map aj.enc)]]) (res := .t []) (ct [0] (cL ((p1.a.length : Int) != y22) 4 (aC.mk p2.system x3)  _ hc26)) ?_;refine aM ?_;refine gax h23b ?_;refine hk _ _ ?_;clear hk k;refine aw y23 () hm ?_;exact ls
  ·rintro x4 _ hm;replace hm : cI p1 p2 x4 = some r := hm;refine aH ?_;unfold cI at hm;refine aL [49, 50, 51, 52, 53, 54] fun k kp hk hp => ?_;refine go ?_;obtain ⟨y5, hc5, hm⟩ := bd hm;refine RA (cL (decide ((p1.e.length : Int) > 24)) 7 (aC.mk p2.system x4)  _ hc5) [0] ?_;rintro p σ' ⟨rfl, rfl⟩ _;refine aa ?_;refine go ?_;refine hk _ _ ?_;clear hk hp k kp;refine aq fun k1 hk1 => ?_;refine ao [55, 56, 57, 58] ?_
   by_cases h7 : ¬ y5 = 0
   ·rw [iP h7] at hm;refine af rfl (bne_iff_ne.2 h7) ?_;refine ao [0, 4, 59, 60, 61, 62, 63] ?_;refine ak ?_;refine ag ?_
    cases hm
    exact kr 2
   ·rw [iN h7] at hm;refine ai rfl (bne_eq_false_iff_eq.2 (Decidable.not_not.1 h7)) ?_;refine au ?_;refine am (hk1 _ _ ?_);refine ao [59, 64, 65] ?_;refine aI (S := (List Int)) (V := Unit) [7, 66, 67, 68, 69, 70] (fun l6 _ => [(7, .c (.tree 1 (l6.map (eK .i64))))]) (fun l6 _ => [.box [.tree 2 (p2.system.vars.map ap.enc), .tree 1 (p2.system.in_.map (eK .i64)), .tree 1 (p2.system.out_.map (eK .i64)), .tree 6 (p2.system.rules.map ah.enc), .int .i64 y5], .arr 1 v1_ 4 (p3.map eB), .box [.int .i64 p1.op, .int .i64 p1.k, .int .i64 p1.out_, .int .i64 p1.n, .tree 1 (p1.a.map (eK .i64)), .tree 4 (p1.e.map aj.enc)]]) (fun l6 => dv p1 p2 y5 l6 = some r) ?_ ?_
    ·skip;refine ao [66, 67] ?_
     by_cases h20 : p1.op ≥ 14
     ·rw [iP h20] at hm;refine af rfl (dT h20) ?_;refine iX fun k kp hk hp => ?_;refine go ?_;obtain ⟨y19, hc21, hm⟩ := bd hm;refine RP (fun _ => nq p1 _ hc21) ?_;refine aa ?_;refine go ?_;refine hk _ _ ?_;clear hk hp k kp;refine aw y19 () hm ?_;exact ls
     ·rw [iN h20] at hm;refine ai rfl (dF h20) ?_;refine au ?_;refine aw p1.a () hm ?_;exact ls
    ·rintro l6 _ hm;replace hm : dv p1 p2 y5 l6 = some r := hm;refine aH ?_;unfold dv at hm;refine aI (S := Int) (V := Unit) [7, 9, 71, 72, 73, 74, 75, 76, 77, 78, 79, 80, 81, 82, 83] (fun x7 _ => []) (fun x7 _ => [.box [.tree 2 (p2.system.vars.map ap.enc), .tree 1 (p2.system.in_.map (eK .i64)), .tree 1 (p2.system.out_.map (eK .i64)), .tree 6 (p2.system.rules.map ah.enc), .int .i64 x7], .arr 1 v1_ 4 (p3.map eB), .box [.int .i64 p1.op, .int .i64 p1.k, .int .i64 p1.out_, .int .i64 p1.n, .tree 1 (p1.a.map (eK .i64)), .tree 4 (p1.e.map aj.enc)]]) (fun x7 => d2 p1 p2 x7 = some r) ?_ ?_
     ·skip;refine ao [7] ?_
      refine az ?_;obtain ⟨o1, hl1, hm1⟩ := bd hm;refine aZ (S := (Int × Int)) (V := Unit) (O := Int) [9, 73, 74, 75, 76, 77, 78, 79, 80, 81, 82, 83] (fun (x14, x15) _ => [(73, .c (.int .i64 x15))]) (fun (x14, x15) _ => [.box [.tree 2 (p2.system.vars.map ap.enc), .tree 1 (p2.system.in_.map (eK .i64)), .tree 1 (p2.system.out_.map (eK .i64)), .tree 6 (p2.system.rules.map ah.enc), .int .i64 x14], .arr 1 v1_ 4 (p3.map eB), .box [.int .i64 p1.op, .int .i64 p1.k, .int .i64 p1.out_, .int .i64 p1.n, .tree 1 (p1.a.map (eK .i64)), .tree 4 (p1.e.map aj.enc)]]) _ _ () hl1 ?_ ?_
      ·exact ls
      ·rintro ⟨x14, x15⟩ _ r1 hm hr1;replace hm : bO p2 l6 x14 x15 = some r1 := hm;refine aH ?_;unfold bO at hm;refine ao [] ?_;refine aq fun k3 hk3 => ?_
       by_cases h13 : x15 < (l6.length : Int)
       ·rw [iP h13] at hm;refine af rfl (dT h13) ?_;refine au ?_;refine am (hk3 _ _ ?_);refine aq fun k4 hk4 => ?_;refine az ?_;obtain ⟨hg14a, hm⟩ := gd hm;refine bi (em (eK .i64) l6 x15.toNat) [74, 75, 76] ?_;refine iX fun k kp hk hp => ?_;refine go ?_;obtain ⟨y16, hc15, hm⟩ := bd hm;refine RA (i9 (l6.getD x15.toNat default) (aC.mk p2.system x14)  _ hc15) [0] ?_;rintro p σ' ⟨rfl, rfl⟩ _;refine aa ?_;refine go ?_;obtain ⟨y17, hc17, hm⟩ := bd hm;refine RA (cL (!y16) 16 (aC.mk p2.system x14)  _ hc17) [0] ?_;rintro p σ' ⟨rfl, rfl⟩ _;refine aa ?_;refine go ?_;refine hk _ _ ?_;clear hk hp k kp;refine ar ?_;refine am (hk4 _ _ ?_);refine a8 ?_;refine aB (y17, (IntKind.wrap .i64 (x15 + 1))) () hm ?_;exact ls
       ·rw [iN h13] at hm;refine ai rfl (dF h13) ?_;refine bj ?_;have ho19 := aA hm hr1;subst ho19;replace hm : d2 p1 p2 x14 = some r := hm1;refine aY (aQ (aF ?_));refine aw x14 () hm ?_;exact ls
     ·rintro x7 _ hm;replace hm : d2 p1 p2 x7 = some r := hm;refine aH ?_;unfold d2 at hm;refine aq fun k2 hk2 => ?_;refine ao [84, 85, 86, 87] ?_
      by_cases h8 : x7 = 0
      ·rw [iP h8] at hm;refine af rfl (eQ h8) ?_;refine iX fun k kp hk hp => ?_;refine go ?_;obtain ⟨y8, hc9, hm⟩ := bd hm;refine RA (pj p1 (aC.mk p2.system x7)  _ hc9) [0] ?_;rintro p σ' ⟨rfl, rfl⟩ _;refine aa ?_;refine go ?_;obtain ⟨y9, hc11, hm⟩ := bd hm;refine RA (cL (!y8) 10 (aC.mk p2.system x7)  _ hc11) [0] ?_;rintro p σ' ⟨rfl, rfl⟩ _;refine aa ?_;refine go ?_;refine hk _ _ ?_;clear hk hp k kp;refine am (hk2 _ _ ?_);refine ao [0, 4, 88, 89, 90, 91, 92, 93, 94, 95, 96, 97, 98] ?_;refine ak ?_
       cases hm
       exact kr 2
      ·rw [iN h8] at hm;refine ai rfl (nB h8) ?_;refine au ?_;refine am (hk2 _ _ ?_);refine ao [0, 4, 88, 95, 96, 97, 98] ?_;refine ak ?_
       cases hm
       exact kr 2
theorem te (p1 : ae) (r : ay) (hm : ma p1 = some r) : bu Try.prog 53 [.a [.tree 2 (p1.vars.map ap.enc), .tree 1 (p1.in_.map (eK .i64)), .tree 1 (p1.out_.map (eK .i64)), .tree 6 (p1.rules.map ah.enc)]] (.a [.int .i64 ((r).code), .int .i64 ((r).at_)]) := by
 refine aG 109 [.cell 2 30] Try.func53 rfl rfl rfl (by kernel_rfl) (by simp) ?_;refine bk ?_;unfold ma at hm;refine ao [0] ?_;refine ao [18, 19, 20] ?_;refine aq fun k1 hk1 => ?_;refine aL [21, 22] fun k kp hk hp => ?_;refine go ?_;obtain ⟨y1, hc1, hm⟩ := bd hm;refine RA (pd (aC.mk p1 0)  _ hc1) [2] ?_;rintro p σ' ⟨rfl, rfl⟩ _;refine aa ?_;refine go ?_;refine hk _ _ ?_;clear hk hp k kp;refine ao [23, 24] ?_
 by_cases h3 : ¬ ((y1).code) = 0
 ·rw [iP h3] at hm;refine af rfl (bne_iff_ne.2 h3) ?_;refine ao [1, 3, 4, 25, 26] ?_;refine ak ?_;refine ag ?_
  cases hm
  exact kr 0
 ·rw [iN h3] at hm;refine ai rfl (bne_eq_false_iff_eq.2 (Decidable.not_not.1 h3)) ?_;refine au ?_;refine am (hk1 _ _ ?_);obtain ⟨⟨hg4a, ⟨hg4bx, hg4by⟩⟩, hm⟩ := gd hm;refine ao [4, 25, 27, 28, 29, 30] ?_;refine i2 [.box [.tree 2 (p1.vars.map ap.enc), .tree 1 (p1.in_.map (eK .i64)), .tree 1 (p1.out_.map (eK .i64)), .tree 6 (p1.rules.map ah.enc)], .box [.int .i64 0, .int .i64 0], .box [.tree 2 (p1.vars.map ap.enc), .tree 1 (p1.in_.map (eK .i64)), .tree 1 (p1.out_.map (eK .i64)), .tree 6 (p1.rules.map ah.enc), .int .i64 0], .box [.int .i64 ((y1).code), .int .i64 ((y1).at_)], .arr 1 0 4 ((List.replicate p1.vars.length false).map eB)] ?_;refine aI (S := (List Bool)) (V := Unit) [5, 7, 31, 32, 33, 34, 35, 36, 37, 38, 39, 40, 41] (fun l3 _ => [(5, .c (.osl 4 0 0 l3.length))]) (fun l3 _ => [.box [.tree 2 (p1.vars.map ap.enc), .tree 1 (p1.in_.map (eK .i64)), .tree 1 (p1.out_.map (eK .i64)), .tree 6 (p1.rules.map ah.enc)], .box [.int .i64 0, .int .i64 0], .box [.tree 2 (p1.vars.map ap.enc), .tree 1 (p1.in_.map (eK .i64)), .tree 1 (p1.out_.map (eK .i64)), .tree 6 (p1.rules.map ah.enc), .int .i64 0], .box [.int .i64 ((y1).code), .int .i64 ((y1).at_)], .arr 1 0 4 (l3.map eB)]) (fun l3 => gC p1 l3 = some r) ?_ ?_
  ·skip;refine ao [31] ?_
   refine az ?_;obtain ⟨o5, hl5, hm5⟩ := bd hm;refine aZ (S := ((List Bool) × Int)) (V := Unit) (O := (List Bool)) [5, 7, 34, 35, 36, 37, 38, 39, 40, 41] (fun (l44, x45) _ => [(5, .c (.osl 4 0 0 l44.length)), (34, .c (.int .i64 x45))]) (fun (l44, x45) _ => [.box [.tree 2 (p1.vars.map ap.enc), .tree 1 (p1.in_.map (eK .i64)), .tree 1 (p1.out_.map (eK .i64)), .tree 6 (p1.rules.map ah.enc)], .box [.int .i64 0, .int .i64 0], .box [.tree 2 (p1.vars.map ap.enc), .tree 1 (p1.in_.map (eK .i64)), .tree 1 (p1.out_.map (eK .i64)), .tree 6 (p1.rules.map ah.enc), .int .i64 0], .box [.int .i64 ((y1).code), .int .i64 ((y1).at_)], .arr 1 0 4 (l44.map eB)]) _ _ () hl5 ?_ ?_
   ·exact ls
   ·rintro ⟨l44, x45⟩ _ r5 hm hr5;replace hm : dL p1 l44 x45 = some r5 := hm;refine aH ?_;unfold dL at hm;refine ao [] ?_;refine aq fun k10 hk10 => ?_
    by_cases h31 : x45 < (p1.in_.length : Int)
    ·rw [iP h31] at hm;refine af rfl (dT h31) ?_;refine au ?_;refine am (hk10 _ _ ?_);refine aq fun k11 hk11 => ?_;refine az ?_;obtain ⟨hg32a, hm⟩ := gd hm;refine bi (em (eK .i64) p1.in_ x45.toNat) [35, 36, 37] ?_;obtain ⟨hg33a, hm⟩ := gd hm;refine nl (em eB l44 ((p1.in_.getD x45.toNat default).toNat)) ?_;refine ar ?_;refine am (hk11 _ _ ?_);refine a8 ?_;refine aB ((l44.set ((p1.in_.getD x45.toNat default).toNat) true), (IntKind.wrap .i64 (x45 + 1))) () hm ?_;exact ls
    ·rw [iN h31] at hm;refine ai rfl (dF h31) ?_;refine bj ?_;have ho34 := aA hm hr5;subst ho34;replace hm : gC p1 l44 = some r := hm5;refine aY (aQ (aF ?_));refine aw l44 () hm ?_;exact ls
  ·rintro l3 _ hm;replace hm : gC p1 l3 = some r := hm;refine aH ?_;unfold gC at hm;refine aI (S := (Int × (List Bool))) (V := Unit) [3, 5, 8, 9, 10, 42, 43, 44, 45, 46, 47, 48, 49, 50, 51, 52, 53, 54, 55, 56, 57, 58, 59, 60, 61, 62, 63] (fun (x5, l6) _ => [(5, .c (.osl 4 0 0 l6.length))]) (fun (x5, l6) _ => [.box [.tree 2 (p1.vars.map ap.enc), .tree 1 (p1.in_.map (eK .i64)), .tree 1 (p1.out_.map (eK .i64)), .tree 6 (p1.rules.map ah.enc)], .box [.int .i64 0, .int .i64 0], .box [.tree 2 (p1.vars.map ap.enc), .tree 1 (p1.in_.map (eK .i64)), .tree 1 (p1.out_.map (eK .i64)), .tree 6 (p1.rules.map ah.enc), .int .i64 x5], .box [.int .i64 ((y1).code), .int .i64 ((y1).at_)], .arr 1 0 4 (l6.map eB)]) (fun (x5, l6) => gB p1 x5 l6 = some r) ?_ ?_
   ·skip;refine ao [42] ?_
    refine az ?_;obtain ⟨o4, hl4, hm4⟩ := bd hm;refine aZ (S := (Int × (List Bool) × Int)) (V := Unit) (O := (Int × (List Bool)) ⊕ ay) [5, 8, 9, 10, 45, 46, 47, 48, 49, 50, 51, 52, 53, 54, 55, 56, 57, 58, 59, 60, 61, 62, 63] (fun (x30, l31, x32) _ => [(5, .c (.osl 4 0 0 l31.length)), (45, .c (.int .i64 x32))]) (fun (x30, l31, x32) _ => [.box [.tree 2 (p1.vars.map ap.enc), .tree 1 (p1.in_.map (eK .i64)), .tree 1 (p1.out_.map (eK .i64)), .tree 6 (p1.rules.map ah.enc)], .box [.int .i64 0, .int .i64 0], .box [.tree 2 (p1.vars.map ap.enc), .tree 1 (p1.in_.map (eK .i64)), .tree 1 (p1.out_.map (eK .i64)), .tree 6 (p1.rules.map ah.enc), .int .i64 x30], .box [.int .i64 ((y1).code), .int .i64 ((y1).at_)], .arr 1 0 4 (l31.map eB)]) _ _ () hl4 ?_ ?_
    ·exact ls
    ·rintro ⟨x30, l31, x32⟩ _ r4 hm hr4;replace hm : dK p1 x30 l31 x32 = some r4 := hm;refine aH ?_;unfold dK at hm;refine ao [] ?_;refine aq fun k7 hk7 => ?_
     by_cases h23 : x32 < (p1.rules.length : Int)
     ·rw [iP h23] at hm;refine af rfl (dT h23) ?_;refine au ?_;refine am (hk7 _ _ ?_);refine aq fun k8 hk8 => ?_;refine az ?_;obtain ⟨hg24a, hm⟩ := gd hm;refine bi (em ah.enc p1.rules x32.toNat) [46, 47, 48, 49] ?_;refine aq fun k9 hk9 => ?_;refine aL [50, 51, 52, 53] fun k kp hk hp => ?_;refine go ?_;obtain ⟨y33, hc25, hm⟩ := bd hm;refine RA (pk (p1.rules.getD x32.toNat default) (aC.mk p1 x30) l31 0 _ hc25) [2, 4] ?_;rintro p σ' ⟨rfl, rfl⟩ _;refine aa ?_;refine go ?_;refine hk _ _ ?_;clear hk hp k kp;refine ao [54] ?_
      by_cases h27 : ¬ y33.1 = 0
      ·rw [iP h27] at hm;refine af rfl (bne_iff_ne.2 h27) ?_;refine ao [1, 3, 5, 8, 9, 10, 43, 44, 45, 55, 56, 57, 58] ?_;have ho28 := aA hm hr4;subst ho28;replace hm : some (ay.mk y33.1 x32) = some r := hm4;refine ak ?_;refine ag (ab (ag (aD (ab (ax ?_)))))
       cases hm
       exact kr 0
      ·rw [iN h27] at hm;refine ai rfl (bne_eq_false_iff_eq.2 (Decidable.not_not.1 h27)) ?_;refine au ?_;refine am (hk9 _ _ ?_);obtain ⟨hg29a, hm⟩ := gd hm;refine nl (em eB l31 (((p1.rules.getD x32.toNat default).out_).toNat)) ?_;refine ar ?_;refine am (hk8 _ _ ?_);refine a8 ?_;refine aB (y33.2, (l31.set (((p1.rules.getD x32.toNat default).out_).toNat) true), (IntKind.wrap .i64 (x32 + 1))) () hm ?_;exact ls
     ·rw [iN h23] at hm;refine ai rfl (dF h23) ?_;refine bj ?_;have ho30 := aA hm hr4;subst ho30;replace hm : gB p1 x30 l31 = some r := hm4;refine aY (aQ (aF ?_));refine aw (x30, l31) () hm ?_;exact ls
   ·rintro ⟨x5, l6⟩ _ hm;replace hm : gB p1 x5 l6 = some r := hm;refine aH ?_;unfold gB at hm;refine aI (S := Unit) (V := Unit) [5, 11, 12, 13, 15, 64, 65, 66, 67, 68, 69, 70, 71, 72, 73, 74, 75, 76, 77, 78, 79, 80, 81, 82, 83, 84, 85, 86, 87, 88, 89, 90, 91, 92, 93] (fun _ _ => [(5, .c (.osl 4 0 0 l6.length))]) (fun _ _ => [.box [.tree 2 (p1.vars.map ap.enc), .tree 1 (p1.in_.map (eK .i64)), .tree 1 (p1.out_.map (eK .i64)), .tree 6 (p1.rules.map ah.enc)], .box [.int .i64 0, .int .i64 0], .box [.tree 2 (p1.vars.map ap.enc), .tree 1 (p1.in_.map (eK .i64)), .tree 1 (p1.out_.map (eK .i64)), .tree 6 (p1.rules.map ah.enc), .int .i64 x5], .box [.int .i64 ((y1).code), .int .i64 ((y1).at_)], .arr 1 0 4 (l6.map eB)]) (fun _ => iI p1 l6 = some r) ?_ ?_
    ·skip;refine ao [64] ?_
     refine az ?_;obtain ⟨o2, hl2, hm2⟩ := bd hm;refine aZ (S := Int) (V := Unit) (O := Unit ⊕ ay) [5, 11, 12, 13, 15, 67, 68, 69, 70, 71, 72, 73, 74, 75, 76, 77, 78, 79, 80, 81, 82, 83, 84, 85, 86, 87, 88, 89, 90, 91, 92, 93] (fun x13 _ => [(5, .c (.osl 4 0 0 l6.length)), (67, .c (.int .i64 x13))]) (fun x13 _ => [.box [.tree 2 (p1.vars.map ap.enc), .tree 1 (p1.in_.map (eK .i64)), .tree 1 (p1.out_.map (eK .i64)), .tree 6 (p1.rules.map ah.enc)], .box [.int .i64 0, .int .i64 0], .box [.tree 2 (p1.vars.map ap.enc), .tree 1 (p1.in_.map (eK .i64)), .tree 1 (p1.out_.map (eK .i64)), .tree 6 (p1.rules.map ah.enc), .int .i64 x5], .box [.int .i64 ((y1).code), .int .i64 ((y1).at_)], .arr 1 0 4 (l6.map eB)]) _ _ () hl2 ?_ ?_
     ·exact ls
     ·rintro x13 _ r2 hm hr2;replace hm : iK p1 l6 x13 = some r2 := hm;refine aH ?_;unfold iK at hm;refine ao [] ?_;refine aq fun k4 hk4 => ?_
      by_cases h11 : x13 < (p1.rules.length : Int)
      ·rw [iP h11] at hm;refine af rfl (dT h11) ?_;refine au ?_;refine am (hk4 _ _ ?_);refine aI (S := Unit) (V := Unit) [5, 11, 12, 13, 15, 68, 69, 70, 71, 72, 73, 74, 75, 76, 77, 78, 79, 80, 81, 82, 83, 84, 85, 86, 87, 88, 89, 90, 91, 92] (fun _ _ => [(5, .c (.osl 4 0 0 l6.length))]) (fun _ _ => [.box [.tree 2 (p1.vars.map ap.enc), .tree 1 (p1.in_.map (eK .i64)), .tree 1 (p1.out_.map (eK .i64)), .tree 6 (p1.rules.map ah.enc)], .box [.int .i64 0, .int .i64 0], .box [.tree 2 (p1.vars.map ap.enc), .tree 1 (p1.in_.map (eK .i64)), .tree 1 (p1.out_.map (eK .i64)), .tree 6 (p1.rules.map ah.enc), .int .i64 x5], .box [.int .i64 ((y1).code), .int .i64 ((y1).at_)], .arr 1 0 4 (l6.map eB)]) (fun _ => iJ x13 = some r2) ?_ ?_
       ·skip;refine az ?_
        obtain ⟨hg12a, hm⟩ := gd hm;refine bi (em ah.enc p1.rules x13.toNat) [68, 69, 70, 71] ?_;refine ao [72, 73] ?_;refine aI (S := (List Int)) (V := Unit) [5, 12, 13, 74, 75, 76, 77, 78] (fun l14 _ => [(5, .c (.osl 4 0 0 l6.length)), (13, .c (.tree 1 (l14.map (eK .i64))))]) (fun l14 _ => [.box [.tree 2 (p1.vars.map ap.enc), .tree 1 (p1.in_.map (eK .i64)), .tree 1 (p1.out_.map (eK .i64)), .tree 6 (p1.rules.map ah.enc)], .box [.int .i64 0, .int .i64 0], .box [.tree 2 (p1.vars.map ap.enc), .tree 1 (p1.in_.map (eK .i64)), .tree 1 (p1.out_.map (eK .i64)), .tree 6 (p1.rules.map ah.enc), .int .i64 x5], .box [.int .i64 ((y1).code), .int .i64 ((y1).at_)], .arr 1 0 4 (l6.map eB), .box [.int .i64 ((p1.rules.getD x13.toNat default).op), .int .i64 ((p1.rules.getD x13.toNat default).k), .int .i64 ((p1.rules.getD x13.toNat default).out_), .int .i64 ((p1.rules.getD x13.toNat default).n), .tree 1 (((p1.rules.getD x13.toNat default).a).map (eK .i64)), .tree 4 (((p1.rules.getD x13.toNat default).e).map aj.enc)]]) (fun l14 => gA l6 x13 l14 = some r2) ?_ ?_
        ·skip;refine ao [74, 75] ?_
         by_cases h20 : ((p1.rules.getD x13.toNat default).op) ≥ 14
         ·rw [iP h20] at hm;refine af rfl (dT h20) ?_;refine iX fun k kp hk hp => ?_;refine go ?_;obtain ⟨y19, hc21, hm⟩ := bd hm;refine RP (fun _ => nq (p1.rules.getD x13.toNat default) _ hc21) ?_;refine aa ?_;refine go ?_;refine hk _ _ ?_;clear hk hp k kp;refine aw y19 () hm ?_;exact ls
         ·rw [iN h20] at hm;refine ai rfl (dF h20) ?_;refine au ?_;refine aw ((p1.rules.getD x13.toNat default).a) () hm ?_;exact ls
        ·rintro l14 _ hm;replace hm : gA l6 x13 l14 = some r2 := hm;refine aH ?_;unfold gA at hm;refine ao [13] ?_;refine az ?_;obtain ⟨o3, hl3, hm3⟩ := bd hm;refine aZ (S := Int) (V := Unit) (O := Unit ⊕ ay) [5, 15, 81, 82, 83, 84, 85, 86, 87, 88, 89, 90, 91, 92] (fun x17 _ => [(5, .c (.osl 4 0 0 l6.length)), (81, .c (.int .i64 x17))]) (fun x17 _ => [.box [.tree 2 (p1.vars.map ap.enc), .tree 1 (p1.in_.map (eK .i64)), .tree 1 (p1.out_.map (eK .i64)), .tree 6 (p1.rules.map ah.enc)], .box [.int .i64 0, .int .i64 0], .box [.tree 2 (p1.vars.map ap.enc), .tree 1 (p1.in_.map (eK .i64)), .tree 1 (p1.out_.map (eK .i64)), .tree 6 (p1.rules.map ah.enc), .int .i64 x5], .box [.int .i64 ((y1).code), .int .i64 ((y1).at_)], .arr 1 0 4 (l6.map eB), .box [.int .i64 ((p1.rules.getD x13.toNat default).op), .int .i64 ((p1.rules.getD x13.toNat default).k), .int .i64 ((p1.rules.getD x13.toNat default).out_), .int .i64 ((p1.rules.getD x13.toNat default).n), .tree 1 (((p1.rules.getD x13.toNat default).a).map (eK .i64)), .tree 4 (((p1.rules.getD x13.toNat default).e).map aj.enc)]]) _ _ () hl3 ?_ ?_
         ·exact ls
         ·rintro x17 _ r3 hm hr3;replace hm : jB l6 x13 l14 x17 = some r3 := hm;refine aH ?_;unfold jB at hm;refine ao [] ?_;refine aq fun k5 hk5 => ?_
          by_cases h13 : x17 < (l14.length : Int)
          ·rw [iP h13] at hm;refine af rfl (dT h13) ?_;refine au ?_;refine am (hk5 _ _ ?_);refine aq fun k6 hk6 => ?_;refine az ?_;obtain ⟨hg14a, hm⟩ := gd hm;refine bi (em (eK .i64) l14 x17.toNat) [82, 83, 84] ?_;obtain ⟨hg15a, hm⟩ := gd hm;refine bi (em eB l6 ((l14.getD x17.toNat default).toNat)) [15, 85, 86, 87, 88] ?_
           by_cases h16 : (l6.getD ((l14.getD x17.toNat default).toNat) default) = true
           ·rw [iP h16] at hm;refine ai rfl (by rw [show (l6.getD ((l14.getD x17.toNat default).toNat) default) = true from (h16)]; rfl) ?_;refine au ?_;refine ar ?_;refine am (hk6 _ _ ?_);refine a8 ?_;refine aB (IntKind.wrap .i64 (x17 + 1)) () hm ?_;exact ls
           ·rw [iN h16] at hm;refine af rfl (by rw [show (l6.getD ((l14.getD x17.toNat default).toNat) default) = false from (fB h16)]; rfl) ?_;refine ao [1, 5, 11, 65, 66, 67, 79, 80, 81, 89, 90, 91] ?_;have ho17 := aA hm hr3;subst ho17;replace hm : some (.inr (.inr (ay.mk 9 x13))) = some r2 := hm3;have ho18 := aA hm hr2;subst ho18;replace hm : some (ay.mk 9 x13) = some r := hm2;refine ak ?_;refine ab (ag (aD (ab (ab (ax (aD (ab (ax ?_))))))))
            cases hm
            exact kr 0
          ·rw [iN h13] at hm;refine ai rfl (dF h13) ?_;refine bj ?_;have ho19 := aA hm hr3;subst ho19;replace hm : iJ x13 = some r2 := hm3;refine aY (aQ (aF (ar ?_)));refine aw () () hm ?_;exact ls
       ·rintro _ _ hm;replace hm : iJ x13 = some r2 := hm;refine aH ?_;unfold iJ at hm;refine a8 ?_;refine aB (IntKind.wrap .i64 (x13 + 1)) () hm ?_;exact ls
      ·rw [iN h11] at hm;refine ai rfl (dF h11) ?_;refine bj ?_;have ho22 := aA hm hr2;subst ho22;replace hm : iI p1 l6 = some r := hm2;refine aY (aQ (aF ?_));refine aw () () hm ?_;exact ls
    ·rintro _ _ hm;replace hm : iI p1 l6 = some r := hm;refine aH ?_;unfold iI at hm;refine aI (S := Unit) (V := Unit) [1, 5, 17, 94, 95, 96, 97, 98, 99, 100, 101, 102, 103, 104, 105, 106, 107] (fun _ _ => []) (fun _ _ => [.box [.tree 2 (p1.vars.map ap.enc), .tree 1 (p1.in_.map (eK .i64)), .tree 1 (p1.out_.map (eK .i64)), .tree 6 (p1.rules.map ah.enc)], .box [.int .i64 0, .int .i64 0], .box [.tree 2 (p1.vars.map ap.enc), .tree 1 (p1.in_.map (eK .i64)), .tree 1 (p1.out_.map (eK .i64)), .tree 6 (p1.rules.map ah.enc), .int .i64 x5], .box [.int .i64 ((y1).code), .int .i64 ((y1).at_)], .arr 1 0 4 (l6.map eB)]) (fun _ => jA = some r) ?_ ?_
     ·skip;refine ao [1, 94] ?_
      refine az ?_;obtain ⟨o1, hl1, hm1⟩ := bd hm;refine aZ (S := Int) (V := Unit) (O := Unit ⊕ ay) [5, 17, 97, 98, 99, 100, 101, 102, 103, 104, 105, 106, 107] (fun x9 _ => [(5, .c (.osl 4 0 0 l6.length)), (97, .c (.int .i64 x9))]) (fun x9 _ => [.box [.tree 2 (p1.vars.map ap.enc), .tree 1 (p1.in_.map (eK .i64)), .tree 1 (p1.out_.map (eK .i64)), .tree 6 (p1.rules.map ah.enc)], .box [.int .i64 0, .int .i64 0], .box [.tree 2 (p1.vars.map ap.enc), .tree 1 (p1.in_.map (eK .i64)), .tree 1 (p1.out_.map (eK .i64)), .tree 6 (p1.rules.map ah.enc), .int .i64 x5], .box [.int .i64 ((y1).code), .int .i64 ((y1).at_)], .arr 1 0 4 (l6.map eB)]) _ _ () hl1 ?_ ?_
      ·exact ls
      ·rintro x9 _ r1 hm hr1;replace hm : iH p1 l6 x9 = some r1 := hm;refine aH ?_;unfold iH at hm;refine ao [] ?_;refine aq fun k2 hk2 => ?_
       by_cases h5 : x9 < (p1.out_.length : Int)
       ·rw [iP h5] at hm;refine af rfl (dT h5) ?_;refine au ?_;refine am (hk2 _ _ ?_);refine aq fun k3 hk3 => ?_;refine az ?_;obtain ⟨hg6a, hm⟩ := gd hm;refine bi (em (eK .i64) p1.out_ x9.toNat) [98, 99, 100] ?_;obtain ⟨hg7a, hm⟩ := gd hm;refine bi (em eB l6 ((p1.out_.getD x9.toNat default).toNat)) [17, 101, 102, 103, 104] ?_
        by_cases h8 : (l6.getD ((p1.out_.getD x9.toNat default).toNat) default) = true
        ·rw [iP h8] at hm;refine ai rfl (by rw [show (l6.getD ((p1.out_.getD x9.toNat default).toNat) default) = true from (h8)]; rfl) ?_;refine au ?_;refine ar ?_;refine am (hk3 _ _ ?_);refine a8 ?_;refine aB (IntKind.wrap .i64 (x9 + 1)) () hm ?_;exact ls
        ·rw [iN h8] at hm;refine af rfl (by rw [show (l6.getD ((p1.out_.getD x9.toNat default).toNat) default) = false from (fB h8)]; rfl) ?_;refine ao [5, 95, 96, 97, 105, 106] ?_;have ho9 := aA hm hr1;subst ho9;replace hm : some (ay.mk 9 (-1)) = some r := hm1;refine ak ?_;refine ab (ag (aD (ab (ax ?_))))
         cases hm
         exact kr 0
       ·rw [iN h5] at hm;refine ai rfl (dF h5) ?_;refine bj ?_;have ho10 := aA hm hr1;subst ho10;replace hm : jA = some r := hm1;refine aY (aQ (aF ?_));refine aw () () hm ?_;exact ls
     ·rintro _ _ hm;replace hm : jA = some r := hm;refine aH ?_;unfold jA at hm;refine ao [108] ?_;refine ak ?_
      cases hm
      exact kr 0
theorem rg (p1 : ae) (r : ((List ap) × (List Int) × (List Int) × (List ah) × (List Bool))) (hm : kf p1 = some r) : e9 Try.prog 54 [.a [.tree 2 (p1.vars.map ap.enc), .tree 1 (p1.in_.map (eK .i64)), .tree 1 (p1.out_.map (eK .i64)), .tree 6 (p1.rules.map ah.enc)]] [] (fun p σ => (p = .c (.optr 0 0) ∧ σ = [.box [.tree 2 (r.1.map ap.enc), .tree 1 (r.2.1.map (eK .i64)), .tree 1 (r.2.2.1.map (eK .i64)), .tree 6 (r.2.2.2.1.map ah.enc), .osl 1 1 0 r.2.2.2.2.length], .arr 1 1 4 (r.2.2.2.2.map eB)])) (fun _ _ => False) := by
 refine aG 28 [.tmp 2] Try.func54 rfl rfl rfl (by kernel_rfl) (by simp) ?_;refine bk ?_;unfold kf at hm;refine ao [0, 2] ?_;obtain ⟨⟨hg1a, ⟨hg1bx, hg1by⟩⟩, hm⟩ := gd hm;refine zm [6, 7, 8, 9, 10, 11, 12] [0, 0, 2, 6, 14, 31, 63, 127] [false, false, false, false, false, true, true, true] ?_;refine i2 [.box [.tree 2 (p1.vars.map ap.enc), .tree 1 (p1.in_.map (eK .i64)), .tree 1 (p1.out_.map (eK .i64)), .tree 6 (p1.rules.map ah.enc)], .arr 1 0 4 ((List.replicate p1.vars.length false).map eB), .box [.tree 2 (p1.vars.map ap.enc), .tree 1 (p1.in_.map (eK .i64)), .tree 1 (p1.out_.map (eK .i64)), .tree 6 (p1.rules.map ah.enc), .osl 1 0 0 p1.vars.length]] ?_;refine aI (S := (List Bool)) (V := Unit) [1, 5, 13, 14, 15, 16, 17, 18, 19, 20, 21, 22, 23, 24, 25, 26] (fun l2 _ => []) (fun l2 _ => [.box [.tree 2 (p1.vars.map ap.enc), .tree 1 (p1.in_.map (eK .i64)), .tree 1 (p1.out_.map (eK .i64)), .tree 6 (p1.rules.map ah.enc)], .arr 1 0 4 (l2.map eB), .box [.tree 2 (p1.vars.map ap.enc), .tree 1 (p1.in_.map (eK .i64)), .tree 1 (p1.out_.map (eK .i64)), .tree 6 (p1.rules.map ah.enc), .osl 1 0 0 l2.length]]) (fun l2 => fV p1 l2 = some r) ?_ ?_
 ·skip;refine ao [1, 13] ?_
  refine az ?_;obtain ⟨o1, hl1, hm1⟩ := bd hm;refine aZ (S := ((List Bool) × Int)) (V := Unit) (O := (List Bool)) [5, 16, 17, 18, 19, 20, 21, 22, 23, 24, 25, 26] (fun (l10, x11) _ => [(16, .c (.int .i64 x11))]) (fun (l10, x11) _ => [.box [.tree 2 (p1.vars.map ap.enc), .tree 1 (p1.in_.map (eK .i64)), .tree 1 (p1.out_.map (eK .i64)), .tree 6 (p1.rules.map ah.enc)], .arr 1 0 4 (l10.map eB), .box [.tree 2 (p1.vars.map ap.enc), .tree 1 (p1.in_.map (eK .i64)), .tree 1 (p1.out_.map (eK .i64)), .tree 6 (p1.rules.map ah.enc), .osl 1 0 0 l10.length]]) _ _ () hl1 ?_ ?_
  ·exact ls
  ·rintro ⟨l10, x11⟩ _ r1 hm hr1;replace hm : dw p1 l10 x11 = some r1 := hm;refine aH ?_;unfold dw at hm;refine ao [] ?_;refine aq fun k1 hk1 => ?_
   by_cases h2 : x11 < (p1.in_.length : Int)
   ·rw [iP h2] at hm;refine af rfl (dT h2) ?_;refine au ?_;refine am (hk1 _ _ ?_);refine aq fun k2 hk2 => ?_;refine az ?_;obtain ⟨hg3a, hm⟩ := gd hm;refine bi (em (eK .i64) p1.in_ x11.toNat) [17, 18, 19] ?_;obtain ⟨hg4a, hm⟩ := gd hm;refine nl (em eB l10 ((p1.in_.getD x11.toNat default).toNat)) ?_;refine ar ?_;refine am (hk2 _ _ ?_);refine a8 ?_;refine aB ((l10.set ((p1.in_.getD x11.toNat default).toNat) true), (IntKind.wrap .i64 (x11 + 1))) () hm ?_;exact ls
   ·rw [iN h2] at hm;refine ai rfl (dF h2) ?_;refine bj ?_;have ho5 := aA hm hr1;subst ho5;replace hm : fV p1 l10 = some r := hm1;refine aY (aQ (aF ?_));refine aw l10 () hm ?_;exact ls
 ·rintro l2 _ hm;replace hm : fV p1 l2 = some r := hm;refine aH ?_;unfold fV at hm;refine ao [3, 27] ?_;refine bD (ss 1 4 (by decide)) ?_;simp only [bZ, bL, reduceIte, ↓reduceIte, reduceCtorEq, Int.reduceToNat, Nat.reduceDiv, Nat.reduceMod, Nat.reduceLT, Nat.reduceLeDiff, Nat.reduceAdd, Nat.reduceSub, Nat.reduceMul, Nat.reduceEqDiff, Nat.reduceBEq, Nat.reduceBNe, Nat.reduceGT, List.length_cons, List.length_nil, List.length_append, List.cons_append, List.nil_append];refine iZ (tS 3 1 (by decide) rfl rfl) ?_;refine iZ (uL 0 (by simp)) ?_;refine iZ (qV 0 2 (by decide) (Nat.le_of_ble_eq_true rfl) (Nat.le_of_ble_eq_true rfl) rfl rfl) ?_;refine iZ (qV 1 3 (by decide) (Nat.le_of_ble_eq_true rfl) (Nat.le_of_ble_eq_true rfl) rfl rfl) ?_;refine ak ?_
  cases hm
  exact kr 2
theorem rh (p1 : ah) (r : (List Int)) (hm : kg p1 = some r) : bu Try.prog 16 [.a [.int .i64 p1.op, .int .i64 p1.k, .int .i64 p1.out_, .int .i64 p1.n, .tree 1 (p1.a.map (eK .i64)), .tree 4 (p1.e.map aj.enc)]] (.c (.tree 1 (r.map (eK .i64)))) := by
 refine aG 23 [.tmp 2] Try.func16 rfl rfl rfl (by kernel_rfl) (by simp) ?_;refine bk ?_;unfold kg at hm;refine ao [0, 2] ?_;refine aI (S := Unit) (V := Unit) [2, 3, 4, 5, 6, 7, 8, 9, 10, 11, 12, 13, 14, 15, 16] (fun _ _ => []) (fun _ _ => [.box [.int .i64 p1.op, .int .i64 p1.k, .int .i64 p1.out_, .int .i64 p1.n, .tree 1 (p1.a.map (eK .i64)), .tree 4 (p1.e.map aj.enc)]]) (fun _ => eD p1 = some r) ?_ ?_
 ·skip;refine bz [3, 4, 5, 6, 7, 8, 9, 10] fun k kp hk hp => ?_
  refine an 4 ?_;refine go ?_
  by_cases h3 : p1.op = 13
  ·rw [iP h3] at hm;have h3b := eQ h3;refine aa ?_;refine gox h3b ?_;refine hk _ _ ?_;clear hk hp k kp
   by_cases h4 : (p1.a.length : Int) = 2
   ·rw [iP h4] at hm;refine af rfl (eQ h4) ?_;obtain ⟨hg5a, hm⟩ := gd hm;refine bi (em (eK .i64) p1.a 0) [1, 11, 12, 13, 14, 15, 16] ?_;refine i2 [.box [.int .i64 p1.op, .int .i64 p1.k, .int .i64 p1.out_, .int .i64 p1.n, .tree 1 (p1.a.map (eK .i64)), .tree 4 (p1.e.map aj.enc)], .arr 1 0 3 ((lit ([(p1.a.getD 0 default)] : List Int)).map (eK .i64))] ?_;refine iZ (bw 1 rfl) ?_;refine ak ?_;refine ax ?_
    cases hm
    exact kr 0
   ·rw [iN h4] at hm;refine ai rfl (nB h4) ?_;refine au ?_;refine aw () () hm ?_;exact ls
  ·rw [iN h3] at hm;have h3b := nB h3;refine aa ?_;refine gox h3b ?_;refine hk _ _ ?_;clear hk hp k kp;refine ai rfl rfl ?_;refine au ?_;refine aw () () hm ?_;exact ls
 ·rintro _ _ hm;replace hm : eD p1 = some r := hm;refine aH ?_;unfold eD at hm;refine aI (S := (List aj)) (V := Unit) [17, 18, 19, 20] (fun l1 _ => []) (fun l1 _ => [.box [.int .i64 p1.op, .int .i64 p1.k, .int .i64 p1.out_, .int .i64 p1.n, .tree 1 (p1.a.map (eK .i64)), .tree 4 (l1.map aj.enc)]]) (fun l1 => eC p1 l1 = some r) ?_ ?_
  ·skip;refine ao [17, 18] ?_
   by_cases h2 : p1.op < 14
   ·rw [iP h2] at hm;refine af rfl (dT h2) ?_;refine a8 ?_
    refine tP (eI 0 [.int .i64 p1.op, .int .i64 p1.k, .int .i64 p1.out_, .int .i64 p1.n, .tree 1 (p1.a.map (eK .i64)), .tree 4 []] rfl (by and_intros <;> trivial)) ?_
    refine gz ?_;refine aw [] () hm ?_;exact ls
   ·rw [iN h2] at hm;refine ai rfl (dF h2) ?_;refine au ?_;refine aw p1.e () hm ?_;exact ls
  ·rintro l1 _ hm;replace hm : eC p1 l1 = some r := hm;refine aH ?_;unfold eC at hm;refine aL [1, 21, 22] fun k kp hk hp => ?_;refine go ?_;obtain ⟨y2, hc1, hm⟩ := bd hm;refine RP (fun _ => nq (ah.mk p1.op p1.k p1.out_ p1.n p1.a l1) _ hc1) ?_;refine aa ?_;refine go ?_;refine hk _ _ ?_;clear hk hp k kp;refine ak ?_
   cases hm
   exact kr 0
theorem ml (p1 : Int) (p2 : List ap) (p3 : List Int) (p4 : List Int) (p5 : List ah) (p6 : List Bool) (v2_ : Nat) (r : Bool) (hm : fj p1 p2 p3 p4 p5 p6 = some r) : e9 Try.prog 110 [.c (.int .i64 p1), .c (.optr 0 0)] [.box [.optr 1 0], .box [.tree 2 (p2.map ap.enc), .tree 1 (p3.map (eK .i64)), .tree 1 (p4.map (eK .i64)), .tree 6 (p5.map ah.enc), .osl 2 v2_ 0 p6.length], .arr 1 v2_ 4 (p6.map eB)] (fun p σ => (p = .c (.bool r) ∧ σ = [.box [.optr 1 0], .box [.tree 2 (p2.map ap.enc), .tree 1 (p3.map (eK .i64)), .tree 1 (p4.map (eK .i64)), .tree 6 (p5.map ah.enc), .osl 2 v2_ 0 p6.length], .arr 1 v2_ 4 (p6.map eB)])) (fun _ _ => False) := by
 refine aG 12 [.tmp 3] Try.func110 rfl rfl rfl (by kernel_rfl) (by simp) ?_;refine bk ?_;unfold fj at hm;refine ao [3] ?_;obtain ⟨hg1a, hm⟩ := gd hm;refine bi (em eB p6 p1.toNat) [0, 1, 4, 5, 6, 7, 8, 9, 10, 11] ?_;refine ak ?_
 cases hm
 exact kr 3
theorem kl (p1 : List Int) (p2 : List ap) (p3 : List Int) (p4 : List Int) (p5 : List ah) (p6 : List Bool) (v2_ : Nat) (r : Int) (hm : dx p1 p2 p3 p4 p5 p6 = some r) : e9 Try.prog 55 [.c (.tree 1 (p1.map (eK .i64))), .c (.fn 110 [.optr 0 0])] [.box [.optr 1 0], .box [.tree 2 (p2.map ap.enc), .tree 1 (p3.map (eK .i64)), .tree 1 (p4.map (eK .i64)), .tree 6 (p5.map ah.enc), .osl 2 v2_ 0 p6.length], .arr 1 v2_ 4 (p6.map eB)] (fun p σ => (p = .c (.int .i64 r) ∧ σ = [.box [.optr 1 0], .box [.tree 2 (p2.map ap.enc), .tree 1 (p3.map (eK .i64)), .tree 1 (p4.map (eK .i64)), .tree 6 (p5.map ah.enc), .osl 2 v2_ 0 p6.length], .arr 1 v2_ 4 (p6.map eB)])) (fun _ _ => False) := by
 refine aG 19 [.tmp 4] Try.func55 rfl rfl rfl (by kernel_rfl) (by simp) ?_;refine bk ?_;unfold dx at hm;refine ao [4] ?_;refine aI (S := Unit) (V := Unit) [0, 1, 4, 5, 6, 7, 8, 9, 10, 11, 12, 13, 14, 15, 16, 17, 18] (fun _ _ => []) (fun _ _ => [.box [.optr 1 0], .box [.tree 2 (p2.map ap.enc), .tree 1 (p3.map (eK .i64)), .tree 1 (p4.map (eK .i64)), .tree 6 (p5.map ah.enc), .osl 2 v2_ 0 p6.length], .arr 1 v2_ 4 (p6.map eB)]) (fun _ => bQ = some r) ?_ ?_
 ·skip;refine ao [6] ?_
  refine az ?_;obtain ⟨o1, hl1, hm1⟩ := bd hm;refine aZ (S := Int) (V := Unit) (O := Unit ⊕ Int) [4, 5, 8, 9, 10, 11, 12, 13, 14, 15, 16, 17, 18] (fun x3 _ => [(8, .c (.int .i64 x3))]) (fun x3 _ => [.box [.optr 1 0], .box [.tree 2 (p2.map ap.enc), .tree 1 (p3.map (eK .i64)), .tree 1 (p4.map (eK .i64)), .tree 6 (p5.map ah.enc), .osl 2 v2_ 0 p6.length], .arr 1 v2_ 4 (p6.map eB)]) _ _ () hl1 ?_ ?_
  ·exact ls
  ·rintro x3 _ r1 hm hr1;replace hm : bU p1 p2 p3 p4 p5 p6 x3 = some r1 := hm;refine aH ?_;unfold bU at hm;refine ao [] ?_;refine aq fun k1 hk1 => ?_
   by_cases h1 : x3 < (p1.length : Int)
   ·rw [iP h1] at hm;refine af rfl (dT h1) ?_;refine au ?_;refine am (hk1 _ _ ?_);refine aq fun k2 hk2 => ?_;refine az ?_;refine ao [9, 10] ?_;obtain ⟨hg2a, hm⟩ := gd hm;refine aL [11, 12, 13, 14, 15] fun k kp hk hp => ?_;refine gox (em (eK .i64) p1 x3.toNat) ?_;obtain ⟨y4, hc3, hm⟩ := bd hm;refine RA (ml (p1.getD x3.toNat default) p2 p3 p4 p5 p6 v2_ _ hc3) [0, 1, 2] ?_;rintro p σ' ⟨rfl, rfl⟩ _;refine aa ?_;refine gox (em (eK .i64) p1 x3.toNat) ?_;refine hk _ _ ?_;clear hk hp k kp
    by_cases h5 : y4 = true
    ·rw [iP h5] at hm;refine af rfl (h5) ?_;refine ao [0, 1, 5, 7, 8, 16, 17] ?_;have ho6 := aA hm hr1;subst ho6;replace hm : some x3 = some r := hm1;refine ak ?_;refine ab (ag (aD (ab (ax ?_))))
     cases hm
     exact kr 3
    ·rw [iN h5] at hm;refine ai rfl (fB h5) ?_;refine au ?_;refine ar ?_;refine am (hk2 _ _ ?_);refine a8 ?_;refine aB (IntKind.wrap .i64 (x3 + 1)) () hm ?_;exact ls
   ·rw [iN h1] at hm;refine ai rfl (dF h1) ?_;refine bj ?_;have ho7 := aA hm hr1;subst ho7;replace hm : bQ = some r := hm1;refine aY (aQ (aF ?_));refine aw () () hm ?_;exact ls
 ·rintro _ _ hm;replace hm : bQ = some r := hm;refine aH ?_;unfold bQ at hm;refine ao [] ?_;refine ak ?_
  cases hm
  exact kr 3
theorem j4 (p1 : List Int) (p2 : List ap) (p3 : List Int) (p4 : List Int) (p5 : List ah) (p6 : List Bool) (v2_ : Nat) (r : Bool) (hm : di p1 p2 p3 p4 p5 p6 = some r) : e9 Try.prog 109 [.c (.tree 1 (p1.map (eK .i64))), .c (.fn 110 [.optr 0 0])] [.box [.optr 1 0], .box [.tree 2 (p2.map ap.enc), .tree 1 (p3.map (eK .i64)), .tree 1 (p4.map (eK .i64)), .tree 6 (p5.map ah.enc), .osl 2 v2_ 0 p6.length], .arr 1 v2_ 4 (p6.map eB)] (fun p σ => (p = .c (.bool r) ∧ σ = [.box [.optr 1 0], .box [.tree 2 (p2.map ap.enc), .tree 1 (p3.map (eK .i64)), .tree 1 (p4.map (eK .i64)), .tree 6 (p5.map ah.enc), .osl 2 v2_ 0 p6.length], .arr 1 v2_ 4 (p6.map eB)])) (fun _ _ => False) := by
 refine aG 9 [.tmp 4] Try.func109 rfl rfl rfl (by kernel_rfl) (by simp) ?_;refine bk ?_;unfold di at hm;refine ao [4] ?_;refine aL [0, 1, 5, 6, 7, 8] fun k kp hk hp => ?_;refine go ?_;obtain ⟨y1, hc1, hm⟩ := bd hm;refine RA (kl p1 p2 p3 p4 p5 p6 v2_ _ hc1) [0, 1, 2] ?_;rintro p σ' ⟨rfl, rfl⟩ _;refine aa ?_;refine go ?_;refine hk _ _ ?_;clear hk hp k kp;refine ak ?_
 cases hm
 exact kr 3
theorem m3 (p1 : ah) (p2 : List ap) (p3 : List Int) (p4 : List Int) (p5 : List ah) (p6 : List Bool) (v1_ : Nat) (r : Bool) (hm : eE p1 p2 p3 p4 p5 p6 = some r) : e9 Try.prog 57 [.c (.optr 0 0), .a [.int .i64 p1.op, .int .i64 p1.k, .int .i64 p1.out_, .int .i64 p1.n, .tree 1 (p1.a.map (eK .i64)), .tree 4 (p1.e.map aj.enc)]] [.box [.tree 2 (p2.map ap.enc), .tree 1 (p3.map (eK .i64)), .tree 1 (p4.map (eK .i64)), .tree 6 (p5.map ah.enc), .osl 1 v1_ 0 p6.length], .arr 1 v1_ 4 (p6.map eB)] (fun p σ => (p = .c (.bool r) ∧ σ = [.box [.tree 2 (p2.map ap.enc), .tree 1 (p3.map (eK .i64)), .tree 1 (p4.map (eK .i64)), .tree 6 (p5.map ah.enc), .osl 1 v1_ 0 p6.length], .arr 1 v1_ 4 (p6.map eB)])) (fun _ _ => False) := by
 refine aG 10 [.tmp 4] Try.func57 rfl rfl rfl (by kernel_rfl) (by simp) ?_;refine bk ?_;unfold eE at hm;refine ao [0, 1, 4] ?_;refine aL [2, 3, 5, 6, 7, 8, 9] fun k kp hk hp => ?_;refine go ?_;obtain ⟨y1, hc1, hm⟩ := bd hm;refine RP (fun _ => rh p1 _ hc1) ?_;refine aa ?_;refine go ?_;obtain ⟨y2, hc2, hm⟩ := bd hm;refine RA (j4 y1 p2 p3 p4 p5 p6 v1_ _ hc2) [2, 0, 1] ?_;rintro p σ' ⟨rfl, rfl⟩ _;refine aa ?_;refine go ?_;refine hk _ _ ?_;clear hk hp k kp;refine ak ?_
 cases hm
 exact kr 2
theorem qh (p1 : ae) (r : Bool) (hm : jC p1 = some r) : bu Try.prog 63 [.a [.tree 2 (p1.vars.map ap.enc), .tree 1 (p1.in_.map (eK .i64)), .tree 1 (p1.out_.map (eK .i64)), .tree 6 (p1.rules.map ah.enc)]] (.c (.bool r)) := by
 refine aG 27 [.tmp 2] Try.func63 rfl rfl rfl (by kernel_rfl) (by simp) ?_;refine bk ?_;unfold jC at hm;refine ao [0, 2] ?_;refine aL [6, 7] fun k kp hk hp => ?_;refine go ?_;obtain ⟨y1, hc1, hm⟩ := bd hm;refine RA (rg p1  _ hc1) [] ?_;rintro p σ' ⟨rfl, rfl⟩ _;refine aa ?_;refine go ?_;refine hk _ _ ?_;clear hk hp k kp;refine aI (S := (List Bool)) (V := Unit) [1, 2, 3, 5, 8, 9, 10, 11, 12, 13, 14, 15, 16, 17, 18, 19, 20, 21, 22, 23, 24, 25, 26] (fun l3 _ => []) (fun l3 _ => [.box [.tree 2 (p1.vars.map ap.enc), .tree 1 (p1.in_.map (eK .i64)), .tree 1 (p1.out_.map (eK .i64)), .tree 6 (p1.rules.map ah.enc)], .box [.tree 2 (y1.1.map ap.enc), .tree 1 (y1.2.1.map (eK .i64)), .tree 1 (y1.2.2.1.map (eK .i64)), .tree 6 (y1.2.2.2.1.map ah.enc), .osl 2 1 0 l3.length], .arr 1 1 4 (l3.map eB)]) (fun l3 => eJ l3 = some r) ?_ ?_
 ·skip;refine ao [1, 8] ?_
  refine az ?_;obtain ⟨o1, hl1, hm1⟩ := bd hm;refine aZ (S := ((List Bool) × Int)) (V := Unit) (O := (List Bool) ⊕ Bool) [2, 5, 11, 12, 13, 14, 15, 16, 17, 18, 19, 20, 21, 22, 23, 24, 25, 26] (fun (l11, x12) _ => [(11, .c (.int .i64 x12))]) (fun (l11, x12) _ => [.box [.tree 2 (p1.vars.map ap.enc), .tree 1 (p1.in_.map (eK .i64)), .tree 1 (p1.out_.map (eK .i64)), .tree 6 (p1.rules.map ah.enc)], .box [.tree 2 (y1.1.map ap.enc), .tree 1 (y1.2.1.map (eK .i64)), .tree 1 (y1.2.2.1.map (eK .i64)), .tree 6 (y1.2.2.2.1.map ah.enc), .osl 2 1 0 l11.length], .arr 1 1 4 (l11.map eB)]) _ _ () hl1 ?_ ?_
  ·exact ls
  ·rintro ⟨l11, x12⟩ _ r1 hm hr1;replace hm : cU p1 y1 l11 x12 = some r1 := hm;refine aH ?_;unfold cU at hm;refine ao [] ?_;refine aq fun k1 hk1 => ?_
   by_cases h3 : x12 < (p1.rules.length : Int)
   ·rw [iP h3] at hm;refine af rfl (dT h3) ?_;refine au ?_;refine am (hk1 _ _ ?_);refine aq fun k2 hk2 => ?_;refine az ?_;obtain ⟨hg4a, hm⟩ := gd hm;refine bi (em ah.enc p1.rules x12.toNat) [12, 13, 14] ?_;refine aq fun k3 hk3 => ?_;refine aL [15, 16, 17] fun k kp hk hp => ?_;refine go ?_;obtain ⟨y13, hc5, hm⟩ := bd hm;refine RA (m3 (p1.rules.getD x12.toNat default) y1.1 y1.2.1 y1.2.2.1 y1.2.2.2.1 l11 1 _ hc5) [1, 2] ?_;rintro p σ' ⟨rfl, rfl⟩ _;refine aa ?_;refine go ?_;refine hk _ _ ?_;clear hk hp k kp
    by_cases h7 : y13 = true
    ·rw [iP h7] at hm;refine ai rfl (by rw [show y13 = true from (h7)]; rfl) ?_;refine au ?_;refine am (hk3 _ _ ?_);obtain ⟨hg8a, hm⟩ := gd hm;refine st (em eB l11 (((p1.rules.getD x12.toNat default).out_).toNat)) [0, 1, 3, 7, 0, 16, 63, 127] [false, false, false, false, false, false, true, true] ?_;refine ar ?_;refine am (hk2 _ _ ?_);refine a8 ?_;refine aB ((l11.set (((p1.rules.getD x12.toNat default).out_).toNat) true), (IntKind.wrap .i64 (x12 + 1))) () hm ?_;exact ls
    ·rw [iN h7] at hm;refine af rfl (by rw [show y13 = false from (fB h7)]; rfl) ?_;refine ao [3, 5, 9, 10, 11, 18] ?_;have ho9 := aA hm hr1;subst ho9;replace hm : some false = some r := hm1;refine ak ?_;refine ag (ab (ag (aD (ab (ax ?_)))))
     cases hm
     exact kr 0
   ·rw [iN h3] at hm;refine ai rfl (dF h3) ?_;refine bj ?_;have ho10 := aA hm hr1;subst ho10;replace hm : eJ l11 = some r := hm1;refine aY (aQ (aF ?_));refine aw l11 () hm ?_;exact ls
 ·rintro l3 _ hm;replace hm : eJ l3 = some r := hm;refine aH ?_;unfold eJ at hm;refine ao [] ?_;refine ak ?_
  cases hm
  exact kr 0
theorem lm (p1 : Int) (r : Int) (hm : jl p1 = some r) : bu Try.prog 114 [.c (.int .i64 p1)] (.c (.int .i64 r)) := by
 refine aG 5 [.tmp 2] Try.func114 rfl rfl rfl (by kernel_rfl) (by simp) ?_;refine bk ?_;unfold jl at hm;refine ao [2] ?_;refine ao [0, 3, 4] ?_;refine ak ?_
 cases hm
 exact kr 0
theorem kB (p1 : Int) (p2 : Int) (p3 : aK) (r : Bool) (hm : gD p1 p2 p3 = some r) : e9 Try.prog 113 [.c (.int .i64 p1), .c (.int .i64 p2), .c (.optr 0 0)] [.box [.tree 1 (p3.at_.map (eK .i64)), .tree 1 (p3.keep.map (eK .i64)), .int .i64 p3.cells]] (fun p σ => (p = .c (.bool r) ∧ σ = [.box [.tree 1 (p3.at_.map (eK .i64)), .tree 1 (p3.keep.map (eK .i64)), .int .i64 p3.cells]])) (fun _ _ => False) := by
 refine aG 17 [.tmp 5] Try.func113 rfl rfl rfl (by kernel_rfl) (by simp) ?_;refine bk ?_;unfold gD at hm;refine ao [5] ?_
 by_cases h1 : p1 ≥ 1
 ·rw [iP h1] at hm;have h1b := dT h1;refine cS [0, 1, 2, 6, 7, 8, 9, 10, 11, 12, 13, 14, 15, 16] (by kernel_rfl) [0, 1, 3, 7, 7, 23, 7, 71, 247, 511, 1023, 2047] [true, true, true, false, false, false, false, false, false, true, true, true] (by kernel_rfl) fun k hk => ?_;refine aM ?_;refine gax h1b ?_;obtain ⟨y1, hc2, hm⟩ := bd hm;refine pat (fun _ => lm p2 _ hc2) ?_;refine aM ?_;refine gax h1b ?_;refine hk _ _ ?_;clear hk k;refine ak ?_
  cases hm
  exact kr 1
 ·rw [iN h1] at hm;have h1b := dF h1;refine cS [0, 1, 2, 6, 7, 8, 9, 10, 11, 12, 13, 14, 15, 16] (by kernel_rfl) [0, 1, 3, 7, 7, 23, 7, 71, 247, 511, 1023, 2047] [true, true, true, false, false, false, false, false, false, true, true, true] (by kernel_rfl) fun k hk => ?_;refine aM ?_;refine gax h1b ?_;refine hk _ _ ?_;clear hk k;refine ak ?_
  cases hm
  exact kr 1
theorem qi (p1 : Int) (p2 : aK) (p3 : ae) (r : Bool) (hm : kK p1 p2 p3 = some r) : e9 Try.prog 115 [.c (.int .i64 p1), .c (.optr 0 0), .c (.optr 1 0), .c (.optr 2 0)] [.box [.fn 113 [.optr 1 0]], .box [.tree 1 (p2.at_.map (eK .i64)), .tree 1 (p2.keep.map (eK .i64)), .int .i64 p2.cells], .box [.tree 2 (p3.vars.map ap.enc), .tree 1 (p3.in_.map (eK .i64)), .tree 1 (p3.out_.map (eK .i64)), .tree 6 (p3.rules.map ah.enc)]] (fun p σ => (p = .c (.bool r) ∧ σ = [.box [.fn 113 [.optr 1 0]], .box [.tree 1 (p2.at_.map (eK .i64)), .tree 1 (p2.keep.map (eK .i64)), .int .i64 p2.cells], .box [.tree 2 (p3.vars.map ap.enc), .tree 1 (p3.in_.map (eK .i64)), .tree 1 (p3.out_.map (eK .i64)), .tree 6 (p3.rules.map ah.enc)]])) (fun _ _ => False) := by
 refine aG 20 [.tmp 5] Try.func115 rfl rfl rfl (by kernel_rfl) (by simp) ?_;refine bk ?_;unfold kK at hm;refine ao [5] ?_;obtain ⟨⟨hg1a, hg1b⟩, hm⟩ := gd hm;refine jx [0, 1, 2, 3, 6, 7, 8, 9, 10, 11, 12, 13, 14, 15, 16, 17, 18, 19] (by kernel_rfl) [0, 0, 2, 0, 14, 30, 0, 64, 0, 448, 960, 1984, 4095, 8191, 16383] [false, false, false, false, false, false, false, false, false, false, false, false, true, true, true] (by kernel_rfl) fun k hk => ?_;refine gax (a2 (em (eK .i64) p2.at_ p1.toNat) (em ap.enc p3.vars p1.toNat)) ?_;obtain ⟨y1, hc2, hm⟩ := bd hm;refine ca (σ2 := [.box [.fn 113 [.optr 1 0]], .box [.tree 1 (p2.at_.map (eK .i64)), .tree 1 (p2.keep.map (eK .i64)), .int .i64 p2.cells], .box [.tree 2 (p3.vars.map ap.enc), .tree 1 (p3.in_.map (eK .i64)), .tree 1 (p3.out_.map (eK .i64)), .tree 6 (p3.rules.map ah.enc)]]) (res := .c (.bool y1)) (ct [1] (kB (p2.at_.getD p1.toNat default) ((p3.vars.getD p1.toNat default).n) p2  _ hc2)) ?_;refine ga ?_;refine hk _ _ ?_;clear hk k;refine ak ?_
 cases hm
 exact kr 3
theorem km (p1 : List Int) (p2 : ae) (p3 : aK) (r : Int) (hm : dy p1 p2 p3 = some r) : e9 Try.prog 55 [.c (.tree 1 (p1.map (eK .i64))), .c (.fn 115 [.optr 2 0, .optr 1 0, .optr 0 0])] [.box [.tree 2 (p2.vars.map ap.enc), .tree 1 (p2.in_.map (eK .i64)), .tree 1 (p2.out_.map (eK .i64)), .tree 6 (p2.rules.map ah.enc)], .box [.tree 1 (p3.at_.map (eK .i64)), .tree 1 (p3.keep.map (eK .i64)), .int .i64 p3.cells], .box [.fn 113 [.optr 1 0]]] (fun p σ => (p = .c (.int .i64 r) ∧ σ = [.box [.tree 2 (p2.vars.map ap.enc), .tree 1 (p2.in_.map (eK .i64)), .tree 1 (p2.out_.map (eK .i64)), .tree 6 (p2.rules.map ah.enc)], .box [.tree 1 (p3.at_.map (eK .i64)), .tree 1 (p3.keep.map (eK .i64)), .int .i64 p3.cells], .box [.fn 113 [.optr 1 0]]])) (fun _ _ => False) := by
 refine aG 19 [.tmp 4] Try.func55 rfl rfl rfl (by kernel_rfl) (by simp) ?_;refine bk ?_;unfold dy at hm;refine ao [4] ?_;refine aI (S := Unit) (V := Unit) [0, 1, 4, 5, 6, 7, 8, 9, 10, 11, 12, 13, 14, 15, 16, 17, 18] (fun _ _ => []) (fun _ _ => [.box [.tree 2 (p2.vars.map ap.enc), .tree 1 (p2.in_.map (eK .i64)), .tree 1 (p2.out_.map (eK .i64)), .tree 6 (p2.rules.map ah.enc)], .box [.tree 1 (p3.at_.map (eK .i64)), .tree 1 (p3.keep.map (eK .i64)), .int .i64 p3.cells], .box [.fn 113 [.optr 1 0]]]) (fun _ => bV = some r) ?_ ?_
 ·skip;refine ao [6] ?_
  refine az ?_;obtain ⟨o1, hl1, hm1⟩ := bd hm;refine aZ (S := Int) (V := Unit) (O := Unit ⊕ Int) [4, 5, 8, 9, 10, 11, 12, 13, 14, 15, 16, 17, 18] (fun x3 _ => [(8, .c (.int .i64 x3))]) (fun x3 _ => [.box [.tree 2 (p2.vars.map ap.enc), .tree 1 (p2.in_.map (eK .i64)), .tree 1 (p2.out_.map (eK .i64)), .tree 6 (p2.rules.map ah.enc)], .box [.tree 1 (p3.at_.map (eK .i64)), .tree 1 (p3.keep.map (eK .i64)), .int .i64 p3.cells], .box [.fn 113 [.optr 1 0]]]) _ _ () hl1 ?_ ?_
  ·exact ls
  ·rintro x3 _ r1 hm hr1;replace hm : bW p1 p2 p3 x3 = some r1 := hm;refine aH ?_;unfold bW at hm;refine ao [] ?_;refine aq fun k1 hk1 => ?_
   by_cases h1 : x3 < (p1.length : Int)
   ·rw [iP h1] at hm;refine af rfl (dT h1) ?_;refine au ?_;refine am (hk1 _ _ ?_);refine aq fun k2 hk2 => ?_;refine az ?_;refine ao [9, 10] ?_;obtain ⟨hg2a, hm⟩ := gd hm;refine aL [11, 12, 13, 14, 15] fun k kp hk hp => ?_;refine gox (em (eK .i64) p1 x3.toNat) ?_;obtain ⟨y4, hc3, hm⟩ := bd hm;refine RA (qi (p1.getD x3.toNat default) p3 p2  _ hc3) [2, 1, 0] ?_;rintro p σ' ⟨rfl, rfl⟩ _;refine aa ?_;refine gox (em (eK .i64) p1 x3.toNat) ?_;refine hk _ _ ?_;clear hk hp k kp
    by_cases h5 : y4 = true
    ·rw [iP h5] at hm;refine af rfl (h5) ?_;refine ao [0, 1, 5, 7, 8, 16, 17] ?_;have ho6 := aA hm hr1;subst ho6;replace hm : some x3 = some r := hm1;refine ak ?_;refine ab (ag (aD (ab (ax ?_))))
     cases hm
     exact kr 3
    ·rw [iN h5] at hm;refine ai rfl (fB h5) ?_;refine au ?_;refine ar ?_;refine am (hk2 _ _ ?_);refine a8 ?_;refine aB (IntKind.wrap .i64 (x3 + 1)) () hm ?_;exact ls
   ·rw [iN h1] at hm;refine ai rfl (dF h1) ?_;refine bj ?_;have ho7 := aA hm hr1;subst ho7;replace hm : bV = some r := hm1;refine aY (aQ (aF ?_));refine aw () () hm ?_;exact ls
 ·rintro _ _ hm;replace hm : bV = some r := hm;refine aH ?_;unfold bV at hm;refine ao [] ?_;refine ak ?_
  cases hm
  exact kr 3
theorem jP (p1 : List Int) (p2 : ae) (p3 : aK) (r : Bool) (hm : cK p1 p2 p3 = some r) : e9 Try.prog 109 [.c (.tree 1 (p1.map (eK .i64))), .c (.fn 115 [.optr 2 0, .optr 1 0, .optr 0 0])] [.box [.tree 2 (p2.vars.map ap.enc), .tree 1 (p2.in_.map (eK .i64)), .tree 1 (p2.out_.map (eK .i64)), .tree 6 (p2.rules.map ah.enc)], .box [.tree 1 (p3.at_.map (eK .i64)), .tree 1 (p3.keep.map (eK .i64)), .int .i64 p3.cells], .box [.fn 113 [.optr 1 0]]] (fun p σ => (p = .c (.bool r) ∧ σ = [.box [.tree 2 (p2.vars.map ap.enc), .tree 1 (p2.in_.map (eK .i64)), .tree 1 (p2.out_.map (eK .i64)), .tree 6 (p2.rules.map ah.enc)], .box [.tree 1 (p3.at_.map (eK .i64)), .tree 1 (p3.keep.map (eK .i64)), .int .i64 p3.cells], .box [.fn 113 [.optr 1 0]]])) (fun _ _ => False) := by
 refine aG 9 [.tmp 4] Try.func109 rfl rfl rfl (by kernel_rfl) (by simp) ?_;refine bk ?_;unfold cK at hm;refine ao [4] ?_;refine aL [0, 1, 5, 6, 7, 8] fun k kp hk hp => ?_;refine go ?_;obtain ⟨y1, hc1, hm⟩ := bd hm;refine RA (km p1 p2 p3  _ hc1) [0, 1, 2] ?_;rintro p σ' ⟨rfl, rfl⟩ _;refine aa ?_;refine go ?_;refine hk _ _ ?_;clear hk hp k kp;refine ak ?_
 cases hm
 exact kr 3
theorem rS (p1 : ae) (p2 : aK) (r : Bool) (hm : lg p1 p2 = some r) : bu Try.prog 64 [.a [.tree 2 (p1.vars.map ap.enc), .tree 1 (p1.in_.map (eK .i64)), .tree 1 (p1.out_.map (eK .i64)), .tree 6 (p1.rules.map ah.enc)], .a [.tree 1 (p2.at_.map (eK .i64)), .tree 1 (p2.keep.map (eK .i64)), .int .i64 p2.cells]] (.c (.bool r)) := by
 refine aG 99 [.tmp 4] Try.func64 rfl rfl rfl (by kernel_rfl) (by simp) ?_;refine bk ?_;unfold lg at hm;refine ao [0, 1, 4] ?_;refine aq fun k1 hk1 => ?_;refine bz [8, 9, 10, 11, 12, 13, 14, 15, 16, 17, 18, 19, 20, 21, 22, 23, 24, 25, 26, 27, 28, 29, 30, 31, 32] fun k kp hk hp => ?_;refine an 8 ?_;refine go ?_
 by_cases h1 : ¬ (p2.at_.length : Int) = (p1.vars.length : Int)
 ·rw [iP h1] at hm;have h1b := bne_iff_ne.2 h1;refine aa ?_;refine gox h1b ?_;refine hk _ _ ?_;clear hk hp k kp;refine af rfl rfl ?_;refine ao [2, 3, 33] ?_;refine ak ?_;refine ag ?_
  cases hm
  exact kr 0
 ·rw [iN h1] at hm;have h1b : ((p2.at_.length : Int) != (p1.vars.length : Int)) = false := bne_eq_false_iff_eq.2 (Decidable.not_not.1 h1);refine an 9 ?_;refine gox h1b ?_
  by_cases h2 : ¬ (p2.keep.length : Int) = (p1.rules.length : Int)
  ·rw [iP h2] at hm;have h2b := bne_iff_ne.2 h2;refine aa ?_;refine gox (a2 h1b h2b) ?_;refine hk _ _ ?_;clear hk hp k kp;refine af rfl rfl ?_;refine ao [2, 3, 33] ?_;refine ak ?_;refine ag ?_
   cases hm
   exact kr 0
  ·rw [iN h2] at hm;have h2b : ((p2.keep.length : Int) != (p1.rules.length : Int)) = false := bne_eq_false_iff_eq.2 (Decidable.not_not.1 h2);refine an 5 ?_;refine gox (a2 h1b h2b) ?_
   by_cases h3 : p2.cells < 1
   ·rw [iP h3] at hm;have h3b := dT h3;refine aa ?_;refine gox (a2 h1b (a2 h2b h3b)) ?_;refine hk _ _ ?_;clear hk hp k kp;refine af rfl rfl ?_;refine ao [2, 3, 33] ?_;refine ak ?_;refine ag ?_
    cases hm
    exact kr 0
   ·rw [iN h3] at hm;have h3b := dF h3;refine aa ?_;refine gox (a2 h1b (a2 h2b h3b)) ?_;refine hk _ _ ?_;clear hk hp k kp
    by_cases h4 : p2.cells > 6000
    ·rw [iP h4] at hm;refine af rfl (dT h4) ?_;refine ao [2, 3, 33] ?_;refine ak ?_;refine ag ?_
     cases hm
     exact kr 0
    ·rw [iN h4] at hm;refine ai rfl (dF h4) ?_;refine au ?_;refine am (hk1 _ _ ?_);refine ao [33, 34] ?_;refine aI (S := Unit) (V := Unit) [4, 6, 7, 35, 36, 37, 38, 39, 40, 41, 42, 43, 44, 45, 46, 47, 48, 49, 50, 51, 52, 53, 54, 55, 56, 57, 58, 59, 60, 61, 62, 63, 64, 65, 66, 67, 68, 69, 70, 71, 72, 73, 74, 75, 76, 77, 78, 79, 80, 81, 82, 83, 84, 85, 86, 87, 88, 89, 90, 91, 92, 93] (fun _ _ => []) (fun _ _ => [.box [.tree 2 (p1.vars.map ap.enc), .tree 1 (p1.in_.map (eK .i64)), .tree 1 (p1.out_.map (eK .i64)), .tree 6 (p1.rules.map ah.enc)], .box [.tree 1 (p2.at_.map (eK .i64)), .tree 1 (p2.keep.map (eK .i64)), .int .i64 p2.cells], .box [.fn 113 [.optr 1 0]]]) (fun _ => fI p1 p2 = some r) ?_ ?_
     ·skip;refine ao [35] ?_
      refine az ?_;obtain ⟨o1, hl1, hm1⟩ := bd hm;refine aZ (S := Int) (V := Unit) (O := Unit ⊕ Bool) [4, 6, 7, 38, 39, 40, 41, 42, 43, 44, 45, 46, 47, 48, 49, 50, 51, 52, 53, 54, 55, 56, 57, 58, 59, 60, 61, 62, 63, 64, 65, 66, 67, 68, 69, 70, 71, 72, 73, 74, 75, 76, 77, 78, 79, 80, 81, 82, 83, 84, 85, 86, 87, 88, 89, 90, 91, 92, 93] (fun x4 _ => [(38, .c (.int .i64 x4))]) (fun x4 _ => [.box [.tree 2 (p1.vars.map ap.enc), .tree 1 (p1.in_.map (eK .i64)), .tree 1 (p1.out_.map (eK .i64)), .tree 6 (p1.rules.map ah.enc)], .box [.tree 1 (p2.at_.map (eK .i64)), .tree 1 (p2.keep.map (eK .i64)), .int .i64 p2.cells], .box [.fn 113 [.optr 1 0]]]) _ _ () hl1 ?_ ?_
      ·exact ls
      ·rintro x4 _ r1 hm hr1;replace hm : hM p1 p2 x4 = some r1 := hm;refine aH ?_;unfold hM at hm;refine ao [] ?_;refine aq fun k2 hk2 => ?_
       by_cases h7 : x4 < (p1.rules.length : Int)
       ·rw [iP h7] at hm;refine af rfl (dT h7) ?_;refine au ?_;refine am (hk2 _ _ ?_);refine aq fun k3 hk3 => ?_;refine az ?_;obtain ⟨hg8a, hm⟩ := gd hm;refine bi (em ah.enc p1.rules x4.toNat) [39, 40, 41, 42] ?_;obtain ⟨⟨hg9a, hg9b⟩, hm⟩ := gd hm;refine cS [6, 7, 43, 44, 45, 46, 47, 48, 49, 50, 51, 52, 53, 54, 55, 56, 57, 58, 59, 60, 61, 62, 63, 64, 65, 66, 67, 68, 69, 70, 71, 72, 73, 74, 75, 76, 77, 78, 79, 80, 81, 82, 83, 84, 85, 86, 87, 88, 89, 90, 91] (by kernel_rfl) [0, 0, 2, 0, 8, 30, 62, 0, 128, 0, 512, 1920, 3968, 8064, 16383, 32767, 65535, 131071, 262143, 524287, 131071, 1179647, 131071, 7471103, 15859711, 32636927, 67108863, 134217727, 268435455, 536870911, 1073741823, 2147483647, 4294967295, 8589934591, 8589934591, 25769803775, 8589934591, 128849018879, 266287972351, 8589934591, 558345748479, 8589934591, 2207613190143, 8254927142911, 17051020165119, 34643206209535, 70368744177663, 140737488355327, 281474976710655, 562949953421311] [false, false, false, false, false, false, false, false, false, false, false, false, false, false, true, true, true, false, false, false, false, false, false, false, false, false, true, true, true, true, true, true, true, false, false, false, false, false, false, false, false, false, false, false, false, false, true, true, true, true] (by kernel_rfl) fun k hk => ?_;refine aM ?_;refine gax (a2 (em (eK .i64) p2.at_ (((p1.rules.getD x4.toNat default).out_).toNat)) (em ap.enc p1.vars (((p1.rules.getD x4.toNat default).out_).toNat))) ?_;obtain ⟨y5, hc10, hm⟩ := bd hm;refine cat (σ2 := [.box [.tree 2 (p1.vars.map ap.enc), .tree 1 (p1.in_.map (eK .i64)), .tree 1 (p1.out_.map (eK .i64)), .tree 6 (p1.rules.map ah.enc)], .box [.tree 1 (p2.at_.map (eK .i64)), .tree 1 (p2.keep.map (eK .i64)), .int .i64 p2.cells], .box [.fn 113 [.optr 1 0]], .box [.int .i64 ((p1.rules.getD x4.toNat default).op), .int .i64 ((p1.rules.getD x4.toNat default).k), .int .i64 ((p1.rules.getD x4.toNat default).out_), .int .i64 ((p1.rules.getD x4.toNat default).n), .tree 1 (((p1.rules.getD x4.toNat default).a).map (eK .i64)), .tree 4 (((p1.rules.getD x4.toNat default).e).map aj.enc)]]) (res := .c (.bool y5)) (ct [1] (kB (p2.at_.getD (((p1.rules.getD x4.toNat default).out_).toNat) default) ((p1.vars.getD (((p1.rules.getD x4.toNat default).out_).toNat) default).n) p2  _ hc10)) ?_
        by_cases h11 : y5 = true
        ·rw [iP h11] at hm;have h11b := h11
         have h11c : (!y5) = false := by rw [h11b]; rfl
         obtain ⟨hg12a, hm⟩ := gd hm;refine c8 14 rfl ?_;refine gax (a2 (em (eK .i64) p2.keep x4.toNat) (a2 h11b h11c)) ?_
         by_cases h13 : (((p1.rules.getD x4.toNat default).op) == 13) = (decide ((p2.keep.getD x4.toNat default) ≥ 0))
         ·rw [iP h13] at hm;have h13b := eQ h13
          have h13c : (!((((p1.rules.getD x4.toNat default).op) == 13) == (decide ((p2.keep.getD x4.toNat default) ≥ 0)))) = false := by rw [h13b]; rfl
          refine c8 4 rfl ?_;refine gax (a2 h11b (a2 h11c (a2 h13b h13c))) ?_
          by_cases h14 : ((p1.rules.getD x4.toNat default).op) = 13
          ·rw [iP h14] at hm;have h14b := eQ h14;refine aM ?_;refine gax (a2 (em (eK .i64) p2.keep x4.toNat) (a2 (em ap.enc p1.vars (((p1.rules.getD x4.toNat default).out_).toNat)) (a2 h11b (a2 h11c (a2 h13b (a2 h13c h14b)))))) ?_;obtain ⟨y6, hc15, hm⟩ := bd hm;refine cat (σ2 := [.box [.tree 2 (p1.vars.map ap.enc), .tree 1 (p1.in_.map (eK .i64)), .tree 1 (p1.out_.map (eK .i64)), .tree 6 (p1.rules.map ah.enc)], .box [.tree 1 (p2.at_.map (eK .i64)), .tree 1 (p2.keep.map (eK .i64)), .int .i64 p2.cells], .box [.fn 113 [.optr 1 0]], .box [.int .i64 ((p1.rules.getD x4.toNat default).op), .int .i64 ((p1.rules.getD x4.toNat default).k), .int .i64 ((p1.rules.getD x4.toNat default).out_), .int .i64 ((p1.rules.getD x4.toNat default).n), .tree 1 (((p1.rules.getD x4.toNat default).a).map (eK .i64)), .tree 4 (((p1.rules.getD x4.toNat default).e).map aj.enc)]]) (res := .c (.bool y6)) (ct [1] (kB (p2.keep.getD x4.toNat default) ((p1.vars.getD (((p1.rules.getD x4.toNat default).out_).toNat) default).n) p2  _ hc15)) ?_;refine aM ?_;refine gax (a2 h11b (a2 h11c (a2 h13b (a2 h13c h14b)))) ?_;refine hk _ _ ?_;clear hk k
           by_cases h16 : y6 = true
           ·rw [iP h16] at hm;refine ai rfl (by rw [show y6 = true from (h16)]; rfl) ?_;refine au ?_;refine ar ?_;refine am (hk3 _ _ ?_);refine a8 ?_;refine aB (IntKind.wrap .i64 (x4 + 1)) () hm ?_;exact la
           ·rw [iN h16] at hm;refine af rfl (by rw [show y6 = false from (fB h16)]; rfl) ?_;refine ao [2, 3, 5, 36, 37, 38, 92] ?_;have ho17 := aA hm hr1;subst ho17;replace hm : some false = some r := hm1;refine ak ?_;refine ab (ag (aD (ab (ax ?_))))
            cases hm
            exact kr 0
          ·rw [iN h14] at hm;have h14b := nB h14;refine aM ?_;refine gax (a2 h11b (a2 h11c (a2 h13b (a2 h13c h14b)))) ?_;refine hk _ _ ?_;clear hk k;refine ai rfl rfl ?_;refine au ?_;refine ar ?_;refine am (hk3 _ _ ?_);refine a8 ?_;refine aB (IntKind.wrap .i64 (x4 + 1)) () hm ?_;exact la
         ·rw [iN h13] at hm;have h13b := nB h13
          have h13c : (!((((p1.rules.getD x4.toNat default).op) == 13) == (decide ((p2.keep.getD x4.toNat default) ≥ 0)))) = true := by rw [h13b]; rfl
          refine aM ?_;refine gax (a2 h11b (a2 h11c (a2 h13b h13c))) ?_;refine hk _ _ ?_;clear hk k;refine af rfl rfl ?_;refine ao [2, 3, 5, 36, 37, 38, 92] ?_;have ho18 := aA hm hr1;subst ho18;replace hm : some false = some r := hm1;refine ak ?_;refine ab (ag (aD (ab (ax ?_))))
          cases hm
          exact kr 0
        ·rw [iN h11] at hm;have h11b := fB h11
         have h11c : (!y5) = true := by rw [h11b]; rfl
         refine aM ?_;refine gax (a2 h11b h11c) ?_;refine hk _ _ ?_;clear hk k;refine af rfl rfl ?_;refine ao [2, 3, 5, 36, 37, 38, 92] ?_;have ho19 := aA hm hr1;subst ho19;replace hm : some false = some r := hm1;refine ak ?_;refine ab (ag (aD (ab (ax ?_))))
         cases hm
         exact kr 0
       ·rw [iN h7] at hm;refine ai rfl (dF h7) ?_;refine bj ?_;have ho20 := aA hm hr1;subst ho20;replace hm : fI p1 p2 = some r := hm1;refine aY (aQ (aF ?_));refine aw () () hm ?_;exact ls
     ·rintro _ _ hm;replace hm : fI p1 p2 = some r := hm;refine aH ?_;unfold fI at hm;refine aL [2, 3, 5, 94, 95, 96, 97, 98] fun k kp hk hp => ?_;refine go ?_;obtain ⟨y1, hc5, hm⟩ := bd hm;refine RA (jP p1.in_ p1 p2  _ hc5) [0, 1, 2] ?_;rintro p σ' ⟨rfl, rfl⟩ _;refine aa ?_;refine go ?_;refine hk _ _ ?_;clear hk hp k kp;refine ak ?_
      cases hm
      exact kr 0
theorem jW (p1 : Int) (p2 : Int) (p3 : List aj) (p4 : List ap) (p5 : List Int) (p6 : List Int) (p7 : List ah) (p8 : List Int) (p9 : List Int) (p10 : Int) (p11 : List av) (p12 : List Int) (v1_ : Nat) (v2_ : Nat) (r : (List av)) (hm : dJ p1 p2 p3 p4 p5 p6 p7 p8 p9 p10 p11 p12 = some r) : e9 Try.prog 66 [.c (.optr 0 0), .c (.int .i64 p1), .c (.int .i64 p2), .c (.tree 4 (p3.map aj.enc))] [.box [.tree 2 (p4.map ap.enc), .tree 1 (p5.map (eK .i64)), .tree 1 (p6.map (eK .i64)), .tree 6 (p7.map ah.enc), .tree 1 (p8.map (eK .i64)), .tree 1 (p9.map (eK .i64)), .int .i64 p10, .osl 1 v1_ 0 p11.length, .osl 2 v2_ 0 p12.length], .arr 6 v1_ 98 (p11.map av.enc), .arr 1 v2_ 3 (p12.map (eK .i64))] (fun p σ => (p = .t [] ∧ σ = [.box [.tree 2 (p4.map ap.enc), .tree 1 (p5.map (eK .i64)), .tree 1 (p6.map (eK .i64)), .tree 6 (p7.map ah.enc), .tree 1 (p8.map (eK .i64)), .tree 1 (p9.map (eK .i64)), .int .i64 p10, .osl 1 (v1_ + 1) 0 r.length, .osl 2 v2_ 0 p12.length], .arr 6 (v1_ + 1) 98 (r.map av.enc), .arr 1 v2_ 3 (p12.map (eK .i64))])) (fun _ _ => False) := by
 refine aG 35 [] Try.func66 rfl rfl rfl (by kernel_rfl) (by simp) ?_;refine bk ?_;unfold dJ at hm;refine ao [8] ?_
 by_cases h1 : p2 = 0
 ·rw [iP h1] at hm;refine af rfl (eQ h1) ?_;refine lY fun k kp hk hp => ?_;refine an 8 ?_;refine go ?_
  refine eo (ex 17 (.a [.int .i64 1, .int .i64 0, .int .i64 0, .int .i64 p1, .tree 4 ([].map aj.enc), .tree 4 (p3.map aj.enc)]) (by first | rfl | (simp only [bR, bT, tab, bX, reduceIte, ↓reduceIte, reduceCtorEq, Int.reduceToNat, Nat.reduceDiv, Nat.reduceMod, Nat.reduceLT, Nat.reduceLeDiff, Nat.reduceAdd, Nat.reduceSub, Nat.reduceMul, Nat.reduceEqDiff, Nat.reduceBEq, Nat.reduceBNe, Nat.reduceGT]; done)) (by and_intros <;> trivial)) ?_
  simp only [bE, Nat.reduceDiv, Nat.reduceMod, Nat.reduceLT, Nat.reduceLeDiff, Nat.reduceAdd, Nat.reduceSub, Nat.reduceMul, Nat.reduceEqDiff, Nat.reduceBEq, Nat.reduceBNe, Nat.reduceGT, Int.reduceToNat];obtain ⟨⟨hg2ax, hg2ay⟩, hm⟩ := gd hm;refine aa ?_;refine go ?_;refine hk _ _ ?_;clear hk hp k kp
  cases hm
  exact kn 3
 ·rw [iN h1] at hm;refine ai rfl (nB h1) ?_;refine lY fun k kp hk hp => ?_;refine an 9 ?_;refine go ?_
  refine eo (ex 30 (.a [.int .i64 2, .int .i64 0, .int .i64 p2, .int .i64 p1, .tree 4 ([].map aj.enc), .tree 4 (p3.map aj.enc)]) (by first | rfl | (simp only [bR, bT, tab, bX, reduceIte, ↓reduceIte, reduceCtorEq, Int.reduceToNat, Nat.reduceDiv, Nat.reduceMod, Nat.reduceLT, Nat.reduceLeDiff, Nat.reduceAdd, Nat.reduceSub, Nat.reduceMul, Nat.reduceEqDiff, Nat.reduceBEq, Nat.reduceBNe, Nat.reduceGT]; done)) (by and_intros <;> trivial)) ?_
  simp only [bE, Nat.reduceDiv, Nat.reduceMod, Nat.reduceLT, Nat.reduceLeDiff, Nat.reduceAdd, Nat.reduceSub, Nat.reduceMul, Nat.reduceEqDiff, Nat.reduceBEq, Nat.reduceBNe, Nat.reduceGT, Int.reduceToNat];obtain ⟨⟨hg3ax, hg3ay⟩, hm⟩ := gd hm;refine aa ?_;refine go ?_;refine hk _ _ ?_;clear hk hp k kp
  cases hm
  exact kn 3
theorem gg (p1 : Int) (p2 : Int) (r : aj) (hm : gO p1 p2 = some r) : bu Try.prog 67 [.c (.int .i64 p1), .c (.int .i64 p2)] (.a [.int .i64 ((r).op), .int .i64 ((r).k), .int .i64 ((r).v), .int .i64 ((r).n)]) := by
 refine aG 11 [.cell 4 96] Try.func67 rfl rfl rfl (by kernel_rfl) (by simp) ?_;refine bk ?_;unfold gO at hm;refine ao [] ?_;refine aq fun k1 hk1 => ?_;refine ao [1, 5] ?_
 by_cases h1 : p2 = 0
 ·rw [iP h1] at hm;refine af rfl (eQ h1) ?_;refine ao [0, 6, 7, 8] ?_;refine ak ?_;refine ag ?_
  cases hm
  exact kr 0
 ·rw [iN h1] at hm;refine ai rfl (nB h1) ?_;refine au ?_;refine am (hk1 _ _ ?_);refine ao [0, 6, 9, 10] ?_;refine ak ?_
  cases hm
  exact kr 0
theorem d4 (p1 : Int) (p2 : Int) (p3 : List ap) (p4 : List Int) (p5 : List Int) (p6 : List ah) (p7 : List Int) (p8 : List Int) (p9 : Int) (p10 : List aj) (p11 : List av) (p12 : List Int) (v1_ : Nat) (v2_ : Nat) (v3_ : Nat) (r : (List av)) (hm : bY p1 p2 p3 p4 p5 p6 p7 p8 p9 p10 p11 p12 = some r) : e9 Try.prog 66 [.c (.optr 0 0), .c (.int .i64 p1), .c (.int .i64 p2), .c (.osl 1 v1_ 0 p10.length)] [.box [.tree 2 (p3.map ap.enc), .tree 1 (p4.map (eK .i64)), .tree 1 (p5.map (eK .i64)), .tree 6 (p6.map ah.enc), .tree 1 (p7.map (eK .i64)), .tree 1 (p8.map (eK .i64)), .int .i64 p9, .osl 2 v2_ 0 p11.length, .osl 3 v3_ 0 p12.length], .arr 4 v1_ 96 (p10.map aj.enc), .arr 6 v2_ 98 (p11.map av.enc), .arr 1 v3_ 3 (p12.map (eK .i64))] (fun p σ => (p = .t [] ∧ σ = [.box [.tree 2 (p3.map ap.enc), .tree 1 (p4.map (eK .i64)), .tree 1 (p5.map (eK .i64)), .tree 6 (p6.map ah.enc), .tree 1 (p7.map (eK .i64)), .tree 1 (p8.map (eK .i64)), .int .i64 p9, .osl 2 (v2_ + 1) 0 r.length, .osl 3 v3_ 0 p12.length], .dead, .arr 6 (v2_ + 1) 98 (r.map av.enc), .arr 1 v3_ 3 (p12.map (eK .i64))])) (fun _ _ => False) := by
 refine aG 35 [] Try.func66 rfl rfl rfl (by kernel_rfl) (by simp) ?_;refine bk ?_;unfold bY at hm;refine ao [8] ?_
 by_cases h1 : p2 = 0
 ·rw [iP h1] at hm;refine af rfl (eQ h1) ?_;refine lY fun k kp hk hp => ?_;refine an 8 ?_;refine go ?_
  refine eo (ex 17 (.a [.int .i64 1, .int .i64 0, .int .i64 0, .int .i64 p1, .tree 4 ([].map aj.enc), .osl 1 v1_ 0 p10.length]) (by first | rfl | (simp only [bR, bT, tab, bX, reduceIte, ↓reduceIte, reduceCtorEq, Int.reduceToNat, Nat.reduceDiv, Nat.reduceMod, Nat.reduceLT, Nat.reduceLeDiff, Nat.reduceAdd, Nat.reduceSub, Nat.reduceMul, Nat.reduceEqDiff, Nat.reduceBEq, Nat.reduceBNe, Nat.reduceGT]; done)) (by and_intros <;> trivial)) ?_
  simp only [bE, Nat.reduceDiv, Nat.reduceMod, Nat.reduceLT, Nat.reduceLeDiff, Nat.reduceAdd, Nat.reduceSub, Nat.reduceMul, Nat.reduceEqDiff, Nat.reduceBEq, Nat.reduceBNe, Nat.reduceGT, Int.reduceToNat];refine an 0 ?_;refine go ?_;refine eo (bw 1 rfl) ?_;refine gz ?_;obtain ⟨⟨hg2ax, hg2ay⟩, hm⟩ := gd hm;refine aa ?_;refine go ?_;refine hk _ _ ?_;clear hk hp k kp
  cases hm
  exact kn 4
 ·rw [iN h1] at hm;refine ai rfl (nB h1) ?_;refine lY fun k kp hk hp => ?_;refine an 9 ?_;refine go ?_
  refine eo (ex 30 (.a [.int .i64 2, .int .i64 0, .int .i64 p2, .int .i64 p1, .tree 4 ([].map aj.enc), .osl 1 v1_ 0 p10.length]) (by first | rfl | (simp only [bR, bT, tab, bX, reduceIte, ↓reduceIte, reduceCtorEq, Int.reduceToNat, Nat.reduceDiv, Nat.reduceMod, Nat.reduceLT, Nat.reduceLeDiff, Nat.reduceAdd, Nat.reduceSub, Nat.reduceMul, Nat.reduceEqDiff, Nat.reduceBEq, Nat.reduceBNe, Nat.reduceGT]; done)) (by and_intros <;> trivial)) ?_
  simp only [bE, Nat.reduceDiv, Nat.reduceMod, Nat.reduceLT, Nat.reduceLeDiff, Nat.reduceAdd, Nat.reduceSub, Nat.reduceMul, Nat.reduceEqDiff, Nat.reduceBEq, Nat.reduceBNe, Nat.reduceGT, Int.reduceToNat];refine an 0 ?_;refine go ?_;refine eo (bw 1 rfl) ?_;refine gz ?_;obtain ⟨⟨hg3ax, hg3ay⟩, hm⟩ := gd hm;refine aa ?_;refine go ?_;refine hk _ _ ?_;clear hk hp k kp
  cases hm
  exact kn 4
theorem ib (p1 : List aj) (p2 : Int) (p3 : List ap) (p4 : List Int) (p5 : List Int) (p6 : List ah) (p7 : List Int) (p8 : List Int) (p9 : Int) (p10 : List av) (p11 : List Int) (v1_ : Nat) (v2_ : Nat) (r : (List aj)) (hm : da p1 p2 p3 p4 p5 p6 p7 p8 p9 p10 p11 = some r) : e9 Try.prog 116 [.c (.optr 0 0), .c (.tree 4 (p1.map aj.enc)), .c (.int .i64 p2)] [.box [.tree 2 (p3.map ap.enc), .tree 1 (p4.map (eK .i64)), .tree 1 (p5.map (eK .i64)), .tree 6 (p6.map ah.enc), .tree 1 (p7.map (eK .i64)), .tree 1 (p8.map (eK .i64)), .int .i64 p9, .osl 1 v1_ 0 p10.length, .osl 2 v2_ 0 p11.length], .arr 6 v1_ 98 (p10.map av.enc), .arr 1 v2_ 3 (p11.map (eK .i64))] (fun p σ => (p = .c (.tree 4 (r.map aj.enc)) ∧ σ = [.box [.tree 2 (p3.map ap.enc), .tree 1 (p4.map (eK .i64)), .tree 1 (p5.map (eK .i64)), .tree 6 (p6.map ah.enc), .tree 1 (p7.map (eK .i64)), .tree 1 (p8.map (eK .i64)), .int .i64 p9, .osl 1 v1_ 0 p10.length, .osl 2 v2_ 0 p11.length], .arr 6 v1_ 98 (p10.map av.enc), .arr 1 v2_ 3 (p11.map (eK .i64))])) (fun _ _ => False) := by
 refine aG 91 [.tmp 6] Try.func116 rfl rfl rfl (by kernel_rfl) (by simp) ?_;refine bk ?_;unfold da at hm;refine ao [6] ?_;refine ao [] ?_;refine bD (ew 7 4 96 (by decide) rfl (Nat.le_of_ble_eq_true rfl)) ?_;refine lZ ?_;refine aI (S := (List aj)) (V := Nat) [0, 1, 2, 7, 9, 10, 11, 12, 13, 14, 15, 16, 17, 18, 19, 20, 21, 22, 23, 24, 25, 26, 27, 28, 29, 30, 31, 32, 33, 34, 35, 36, 37, 38, 39, 40, 41, 42, 43, 44, 45, 46, 47, 48, 49, 50, 51, 52, 53, 54, 55, 56, 57, 58, 59, 60, 61, 62, 63, 64, 65, 66, 67, 68, 69, 70, 71, 72, 73, 74, 75, 76, 77, 78, 79, 80, 81, 82, 83, 84, 85, 86, 87, 88, 89] (fun l3 v4 => [(7, .c (.osl 3 v4 0 l3.length))]) (fun l3 v4 => [.box [.tree 2 (p3.map ap.enc), .tree 1 (p4.map (eK .i64)), .tree 1 (p5.map (eK .i64)), .tree 6 (p6.map ah.enc), .tree 1 (p7.map (eK .i64)), .tree 1 (p8.map (eK .i64)), .int .i64 p9, .osl 1 v1_ 0 p10.length, .osl 2 v2_ 0 p11.length], .arr 6 v1_ 98 (p10.map av.enc), .arr 1 v2_ 3 (p11.map (eK .i64)), .arr 4 v4 96 (l3.map aj.enc)]) (fun l3 => dE l3 = some r) ?_ ?_
 ·skip;refine ao [1] ?_
  refine az ?_;obtain ⟨o1, hl1, hm1⟩ := bd hm;refine aZ (S := ((List aj) × Int)) (V := Nat) (O := (List aj)) [7, 9, 10, 13, 14, 15, 16, 17, 18, 19, 20, 21, 22, 23, 24, 25, 26, 27, 28, 29, 30, 31, 32, 33, 34, 35, 36, 37, 38, 39, 40, 41, 42, 43, 44, 45, 46, 47, 48, 49, 50, 51, 52, 53, 54, 55, 56, 57, 58, 59, 60, 61, 62, 63, 64, 65, 66, 67, 68, 69, 70, 71, 72, 73, 74, 75, 76, 77, 78, 79, 80, 81, 82, 83, 84, 85, 86, 87, 88, 89] (fun (l17, x19) v18 => [(7, .c (.osl 3 v18 0 l17.length)), (13, .c (.int .i64 x19))]) (fun (l17, x19) v18 => [.box [.tree 2 (p3.map ap.enc), .tree 1 (p4.map (eK .i64)), .tree 1 (p5.map (eK .i64)), .tree 6 (p6.map ah.enc), .tree 1 (p7.map (eK .i64)), .tree 1 (p8.map (eK .i64)), .int .i64 p9, .osl 1 v1_ 0 p10.length, .osl 2 v2_ 0 p11.length], .arr 6 v1_ 98 (p10.map av.enc), .arr 1 v2_ 3 (p11.map (eK .i64)), .arr 4 v18 96 (l17.map aj.enc)]) _ _ 0 hl1 ?_ ?_
  ·exact ls
  ·rintro ⟨l17, x19⟩ v18 r1 hm hr1;replace hm : bp p1 p2 p3 p7 l17 x19 = some r1 := hm;refine aH ?_;unfold bp at hm;refine ao [] ?_;refine aq fun k1 hk1 => ?_
   by_cases h1 : x19 < (p1.length : Int)
   ·rw [iP h1] at hm;refine af rfl (dT h1) ?_;refine au ?_;refine am (hk1 _ _ ?_);refine aq fun k2 hk2 => ?_;refine az ?_;obtain ⟨hg2a, hm⟩ := gd hm;refine bi (em aj.enc p1 x19.toNat) [14, 15, 16] ?_;refine ao [17, 18, 19] ?_;refine aq fun k3 hk3 => ?_;refine ao [20] ?_;refine az ?_;refine aI (S := Bool) (V := Nat) [7, 22, 23, 24] (fun b22 v21 => [(7, .c (.osl 3 v21 0 l17.length)), (22, .c (.bool b22))]) (fun b22 v21 => [.box [.tree 2 (p3.map ap.enc), .tree 1 (p4.map (eK .i64)), .tree 1 (p5.map (eK .i64)), .tree 6 (p6.map ah.enc), .tree 1 (p7.map (eK .i64)), .tree 1 (p8.map (eK .i64)), .int .i64 p9, .osl 1 v1_ 0 p10.length, .osl 2 v2_ 0 p11.length], .arr 6 v1_ 98 (p10.map av.enc), .arr 1 v2_ 3 (p11.map (eK .i64)), .arr 4 v21 96 (l17.map aj.enc), .box [.int .i64 ((p1.getD x19.toNat default).op), .int .i64 ((p1.getD x19.toNat default).k), .int .i64 ((p1.getD x19.toNat default).v), .int .i64 ((p1.getD x19.toNat default).n)], .box [.int .i64 ((p1.getD x19.toNat default).op), .int .i64 0, .int .i64 0, .int .i64 0]]) (fun b22 => cP p1 p2 p3 p7 l17 x19 b22 = some r1) ?_ ?_
    ·skip;refine ao [23] ?_
     by_cases h21 : ((p1.getD x19.toNat default).op) = 1
     ·rw [iP h21] at hm;refine af rfl (eQ h21) ?_;refine au ?_;refine aw (((p1.getD x19.toNat default).op) == 1) v18 hm ?_;exact ls
     ·rw [iN h21] at hm;refine ai rfl (nB h21) ?_;refine a8 ?_;refine aw (((p1.getD x19.toNat default).op) == 4) v18 hm ?_;exact ls
    ·rintro b22 v21 hm;replace hm : cP p1 p2 p3 p7 l17 x19 b22 = some r1 := hm;refine aH ?_;unfold cP at hm
     by_cases h3 : b22 = true
     ·rw [iP h3] at hm;refine af rfl (h3) ?_;refine ao [9, 21, 22, 25, 26, 27] ?_;refine ao [28] ?_
      by_cases h4 : p2 = 0
      ·rw [iP h4] at hm;refine af rfl (eQ h4) ?_;refine a8 ?_;refine ar ?_;refine am (hk3 _ _ ?_);obtain ⟨⟨hg5ax, hg5ay⟩, hm⟩ := gd hm;refine a8 ?_;refine ar ?_;refine am (hk2 _ _ ?_);refine a8 ?_;refine aB ((l17 ++ (lit ([(aj.mk 1 0 0 ((p1.getD x19.toNat default).n))] : List aj))), (IntKind.wrap .i64 (x19 + 1))) (v21 + 1) hm ?_;exact ls
      ·rw [iN h4] at hm;refine ai rfl (nB h4) ?_;refine au ?_;refine ar ?_;refine am (hk3 _ _ ?_);obtain ⟨⟨hg6ax, hg6ay⟩, hm⟩ := gd hm;refine a8 ?_;refine ar ?_;refine am (hk2 _ _ ?_);refine a8 ?_;refine aB ((l17 ++ (lit ([(aj.mk ((p1.getD x19.toNat default).op) 0 0 ((p1.getD x19.toNat default).n))] : List aj))), (IntKind.wrap .i64 (x19 + 1))) (v21 + 1) hm ?_;exact ls
     ·rw [iN h3] at hm;refine ai rfl (fB h3) ?_;refine aI (S := Bool) (V := Nat) [7, 22, 31, 32, 33] (fun b25 v24 => [(7, .c (.osl 3 v24 0 l17.length)), (31, .c (.bool b25))]) (fun b25 v24 => [.box [.tree 2 (p3.map ap.enc), .tree 1 (p4.map (eK .i64)), .tree 1 (p5.map (eK .i64)), .tree 6 (p6.map ah.enc), .tree 1 (p7.map (eK .i64)), .tree 1 (p8.map (eK .i64)), .int .i64 p9, .osl 1 v1_ 0 p10.length, .osl 2 v2_ 0 p11.length], .arr 6 v1_ 98 (p10.map av.enc), .arr 1 v2_ 3 (p11.map (eK .i64)), .arr 4 v24 96 (l17.map aj.enc), .box [.int .i64 ((p1.getD x19.toNat default).op), .int .i64 ((p1.getD x19.toNat default).k), .int .i64 ((p1.getD x19.toNat default).v), .int .i64 ((p1.getD x19.toNat default).n)], .box [.int .i64 ((p1.getD x19.toNat default).op), .int .i64 0, .int .i64 0, .int .i64 0]]) (fun b25 => cO p1 p2 p3 p7 l17 x19 b25 = some r1) ?_ ?_
      ·skip;refine ao [22, 32] ?_
       by_cases h20 : ((p1.getD x19.toNat default).op) = 2
       ·rw [iP h20] at hm;refine af rfl (eQ h20) ?_;refine au ?_;refine aw (((p1.getD x19.toNat default).op) == 2) v21 hm ?_;exact ls
       ·rw [iN h20] at hm;refine ai rfl (nB h20) ?_;refine a8 ?_;refine aw (((p1.getD x19.toNat default).op) == 3) v21 hm ?_;exact ls
      ·rintro b25 v24 hm;replace hm : cO p1 p2 p3 p7 l17 x19 b25 = some r1 := hm;refine aH ?_;unfold cO at hm
       by_cases h7 : b25 = true
       ·rw [iP h7] at hm;refine af rfl (h7) ?_;obtain ⟨hg8a, hm⟩ := gd hm;refine jy (em (eK .i64) p7 (((p1.getD x19.toNat default).v).toNat)) [21, 31, 34, 35, 36, 37, 38, 39, 40, 41, 42, 43] [0, 1, 3, 7, 15, 0, 32, 127, 255, 511, 1023] [false, false, false, false, false, false, false, true, true, true, true] ?_;refine aI (S := Int) (V := Nat) [7, 9, 44, 45, 46, 47, 48, 49, 50, 51, 52] (fun x28 v27 => [(7, .c (.osl 3 v27 0 l17.length))]) (fun x28 v27 => [.box [.tree 2 (p3.map ap.enc), .tree 1 (p4.map (eK .i64)), .tree 1 (p5.map (eK .i64)), .tree 6 (p6.map ah.enc), .tree 1 (p7.map (eK .i64)), .tree 1 (p8.map (eK .i64)), .int .i64 p9, .osl 1 v1_ 0 p10.length, .osl 2 v2_ 0 p11.length], .arr 6 v1_ 98 (p10.map av.enc), .arr 1 v2_ 3 (p11.map (eK .i64)), .arr 4 v27 96 (l17.map aj.enc), .box [.int .i64 ((p1.getD x19.toNat default).op), .int .i64 ((p1.getD x19.toNat default).k), .int .i64 ((p1.getD x19.toNat default).v), .int .i64 ((p1.getD x19.toNat default).n)], .box [.int .i64 ((p1.getD x19.toNat default).op), .int .i64 0, .int .i64 x28, .int .i64 0]]) (fun x28 => cM p1 p2 l17 x19 x28 = some r1) ?_ ?_
        ·skip;refine ao [44, 45] ?_
         by_cases h12 : ((p1.getD x19.toNat default).op) = 3
         ·rw [iP h12] at hm;refine af rfl (eQ h12) ?_;refine a8 ?_;refine aw (IntKind.wrap .i64 ((p7.getD (((p1.getD x19.toNat default).v).toNat) default) + ((p1.getD x19.toNat default).n))) v24 hm ?_;exact ls
         ·rw [iN h12] at hm;refine ai rfl (nB h12) ?_;refine au ?_;refine aw (p7.getD (((p1.getD x19.toNat default).v).toNat) default) v24 hm ?_;exact ls
        ·rintro x28 v27 hm;replace hm : cM p1 p2 l17 x19 x28 = some r1 := hm;refine aH ?_;unfold cM at hm;refine ao [53] ?_
         by_cases h9 : p2 = 0
         ·rw [iP h9] at hm;refine af rfl (eQ h9) ?_;refine a8 ?_;refine ar ?_;refine am (hk3 _ _ ?_);obtain ⟨⟨hg10ax, hg10ay⟩, hm⟩ := gd hm;refine a8 ?_;refine ar ?_;refine am (hk2 _ _ ?_);refine a8 ?_;refine aB ((l17 ++ (lit ([(aj.mk 2 0 x28 0)] : List aj))), (IntKind.wrap .i64 (x19 + 1))) (v27 + 1) hm ?_;exact ls
         ·rw [iN h9] at hm;refine ai rfl (nB h9) ?_;refine au ?_;refine ar ?_;refine am (hk3 _ _ ?_);obtain ⟨⟨hg11ax, hg11ay⟩, hm⟩ := gd hm;refine a8 ?_;refine ar ?_;refine am (hk2 _ _ ?_);refine a8 ?_;refine aB ((l17 ++ (lit ([(aj.mk ((p1.getD x19.toNat default).op) 0 x28 0)] : List aj))), (IntKind.wrap .i64 (x19 + 1))) (v27 + 1) hm ?_;exact ls
       ·rw [iN h7] at hm;refine ai rfl (fB h7) ?_;refine ao [31, 57] ?_
        by_cases h13 : ((p1.getD x19.toNat default).op) = 8
        ·rw [iP h13] at hm;refine af rfl (eQ h13) ?_;obtain ⟨⟨hg14a, hg14b⟩, hm⟩ := gd hm;refine wT (by kernel_rfl) [5] [0, 1, 3, 7, 15, 0, 32, 127, 255, 0, 512, 1536, 3584, 7680, 0, 16384, 65024, 130560, 261632, 511, 524799, 2097151, 4194303] [false, false, false, false, false, false, false, false, false, false, false, false, false, false, false, false, false, false, false, false, false, true, true] [false, false, false, false, false, false, false, false, false, false, false, false, false, false, false, false, false, false, false, false, true, false, false] [[], [], [], [], [], [], [], [], [], [0], [67], [68], [69], [70], [9], [72], [71, 73], [74], [75], [], [], [], []] (by kernel_rfl) fun k hk => ?_;refine gpx (a2 (em (eK .i64) p7 (((p1.getD x19.toNat default).v).toNat)) (em ap.enc p3 (((p1.getD x19.toNat default).v).toNat))) ?_;refine hk _ _ ?_;clear hk k;refine ar ?_;refine am (hk3 _ _ ?_);obtain ⟨⟨hg15ax, hg15ay⟩, hm⟩ := gd hm;refine a8 ?_;refine ar ?_;refine am (hk2 _ _ ?_);refine a8 ?_;refine aB ((l17 ++ (lit ([(aj.mk ((p1.getD x19.toNat default).op) 0 (p7.getD (((p1.getD x19.toNat default).v).toNat) default) ((p3.getD (((p1.getD x19.toNat default).v).toNat) default).n))] : List aj))), (IntKind.wrap .i64 (x19 + 1))) (v24 + 1) hm ?_;exact ls
        ·rw [iN h13] at hm;refine ai rfl (nB h13) ?_;refine aI (S := Bool) (V := Nat) [7, 21, 56, 79, 80, 81] (fun b31 v30 => [(7, .c (.osl 3 v30 0 l17.length)), (79, .c (.bool b31))]) (fun b31 v30 => [.box [.tree 2 (p3.map ap.enc), .tree 1 (p4.map (eK .i64)), .tree 1 (p5.map (eK .i64)), .tree 6 (p6.map ah.enc), .tree 1 (p7.map (eK .i64)), .tree 1 (p8.map (eK .i64)), .int .i64 p9, .osl 1 v1_ 0 p10.length, .osl 2 v2_ 0 p11.length], .arr 6 v1_ 98 (p10.map av.enc), .arr 1 v2_ 3 (p11.map (eK .i64)), .arr 4 v30 96 (l17.map aj.enc), .box [.int .i64 ((p1.getD x19.toNat default).op), .int .i64 ((p1.getD x19.toNat default).k), .int .i64 ((p1.getD x19.toNat default).v), .int .i64 ((p1.getD x19.toNat default).n)], .box [.int .i64 ((p1.getD x19.toNat default).op), .int .i64 0, .int .i64 0, .int .i64 0]]) (fun b31 => cN p1 l17 x19 b31 = some r1) ?_ ?_
         ·skip;refine ao [56, 80] ?_
          by_cases h19 : ((p1.getD x19.toNat default).op) = 5
          ·rw [iP h19] at hm;refine af rfl (eQ h19) ?_;refine au ?_;refine aw (((p1.getD x19.toNat default).op) == 5) v24 hm ?_;exact ls
          ·rw [iN h19] at hm;refine ai rfl (nB h19) ?_;refine a8 ?_;refine aw (((p1.getD x19.toNat default).op) == 6) v24 hm ?_;exact ls
         ·rintro b31 v30 hm;replace hm : cN p1 l17 x19 b31 = some r1 := hm;refine aH ?_;unfold cN at hm
          by_cases h16 : b31 = true
          ·rw [iP h16] at hm;refine af rfl (h16) ?_;refine a8 ?_;refine ar ?_;refine am (hk3 _ _ ?_);obtain ⟨⟨hg17ax, hg17ay⟩, hm⟩ := gd hm;refine a8 ?_;refine ar ?_;refine am (hk2 _ _ ?_);refine a8 ?_;refine aB ((l17 ++ (lit ([(aj.mk ((p1.getD x19.toNat default).op) ((p1.getD x19.toNat default).k) 0 0)] : List aj))), (IntKind.wrap .i64 (x19 + 1))) (v30 + 1) hm ?_;exact ls
          ·rw [iN h16] at hm;refine ai rfl (fB h16) ?_;refine au ?_;refine ar ?_;refine am (hk3 _ _ ?_);obtain ⟨⟨hg18ax, hg18ay⟩, hm⟩ := gd hm;refine a8 ?_;refine ar ?_;refine am (hk2 _ _ ?_);refine a8 ?_;refine aB ((l17 ++ (lit ([(aj.mk ((p1.getD x19.toNat default).op) 0 0 0)] : List aj))), (IntKind.wrap .i64 (x19 + 1))) (v30 + 1) hm ?_;exact ls
   ·rw [iN h1] at hm;refine ai rfl (dF h1) ?_;refine bj ?_;have ho22 := aA hm hr1;subst ho22;replace hm : dE l17 = some r := hm1;refine aY (aQ (aF ?_));refine aw l17 v18 hm ?_;exact ls
 ·rintro l3 v4 hm;replace hm : dE l3 = some r := hm;refine aH ?_;unfold dE at hm;refine ao [7, 90] ?_;refine iZ (bw 3 rfl) ?_;refine ak ?_
  cases hm
  exact kr 3
theorem m4 (p1 : Int) (p2 : ah) (p3 : List ap) (p4 : List Int) (p5 : List Int) (p6 : List ah) (p7 : List Int) (p8 : List Int) (p9 : Int) (p10 : List av) (p11 : List Int) (v1_ : Nat) (v2_ : Nat) (r : (Bool × (List av))) (hm : eF p1 p2 p3 p4 p5 p6 p7 p8 p9 p10 p11 = some r) : e9 Try.prog 65 [.c (.optr 0 0), .c (.int .i64 p1), .a [.int .i64 p2.op, .int .i64 p2.k, .int .i64 p2.out_, .int .i64 p2.n, .tree 1 (p2.a.map (eK .i64)), .tree 4 (p2.e.map aj.enc)]] [.box [.tree 2 (p3.map ap.enc), .tree 1 (p4.map (eK .i64)), .tree 1 (p5.map (eK .i64)), .tree 6 (p6.map ah.enc), .tree 1 (p7.map (eK .i64)), .tree 1 (p8.map (eK .i64)), .int .i64 p9, .osl 1 v1_ 0 p10.length, .osl 2 v2_ 0 p11.length], .arr 6 v1_ 98 (p10.map av.enc), .arr 1 v2_ 3 (p11.map (eK .i64))] (fun p σ => ∃ w1_, (p = .c (.bool r.1) ∧ σ = [.box [.tree 2 (p3.map ap.enc), .tree 1 (p4.map (eK .i64)), .tree 1 (p5.map (eK .i64)), .tree 6 (p6.map ah.enc), .tree 1 (p7.map (eK .i64)), .tree 1 (p8.map (eK .i64)), .int .i64 p9, .osl 1 w1_ 0 r.2.length, .osl 2 v2_ 0 p11.length], .arr 6 w1_ 98 (r.2.map av.enc), .arr 1 v2_ 3 (p11.map (eK .i64))])) (fun _ _ => False) := by
 refine aG 200 [.tmp 6] Try.func65 rfl rfl rfl (by kernel_rfl) (by simp) ?_;refine bk ?_;unfold eF at hm;refine ao [2, 6] ?_;obtain ⟨⟨hg1a, hg1b⟩, hm⟩ := gd hm;refine jy (a2 (em ap.enc p3 p2.out_.toNat) (em (eK .i64) p7 p2.out_.toNat)) [10, 11, 12, 13, 14, 15, 16, 17, 18, 19, 20, 21, 22, 23, 24, 25, 26, 27, 28] [0, 1, 3, 7, 15, 0, 32, 127, 255, 511, 0, 1024, 3072, 7168, 15360, 0, 32768, 130048, 261120, 1023, 1048575] [false, false, false, false, false, false, false, false, false, false, false, false, false, false, false, false, false, false, false, false, true] ?_;refine aq fun k1 hk1 => ?_;refine ao [29] ?_;refine az ?_;refine ao [32] ?_
 by_cases h2 : p2.op = 14
 ·rw [iP h2] at hm;refine af rfl (eQ h2) ?_;refine iX fun k kp hk hp => ?_;refine go ?_;obtain ⟨y1, hc3, hm⟩ := bd hm;refine RA (ib p2.e ((p3.getD p2.out_.toNat default).n) p3 p4 p5 p6 p7 p8 p9 p10 p11 v1_ v2_ _ hc3) [0, 1, 2] ?_;rintro p σ' ⟨rfl, rfl⟩ _;refine aa ?_;refine go ?_;obtain ⟨y2, hc5, hm⟩ := bd hm;refine RA (jW (p7.getD p2.out_.toNat default) ((p3.getD p2.out_.toNat default).n) y1 p3 p4 p5 p6 p7 p8 p9 p10 p11 v1_ v2_ _ hc5) [0, 1, 2] ?_;rintro p σ' ⟨rfl, rfl⟩ _;refine aa ?_;refine go ?_;refine hk _ _ ?_;clear hk hp k kp;refine ar ?_;refine am (hk1 _ _ ?_);refine ao [0, 1, 5, 7, 8, 30, 31, 33, 34, 35, 36, 37, 38, 39, 40, 41] ?_;refine ak ?_
  cases hm
  exact kr 3
 ·rw [iN h2] at hm;refine ai rfl (nB h2) ?_;refine ao [31, 43] ?_
  by_cases h7 : p2.op = 15
  ·rw [iP h7] at hm;refine af rfl (eQ h7) ?_;obtain ⟨⟨hg8a, hg8b⟩, hm⟩ := gd hm;refine s8 (by kernel_rfl) [1] [0, 0, 2, 6, 14, 0, 32, 0, 128, 0, 0, 1024, 3072, 7168, 15360, 0, 32768, 98304, 229376, 523264, 1047552, 2096128, 4193280, 0, 0, 16777216, 0, 67108864, 264240128, 536870880, 1073741792, 2147483646, 4294967295, 8589934591, 17179869183] [false, false, false, false, false, false, false, false, false, false, false, false, false, false, false, false, false, false, false, false, false, false, false, false, false, false, false, false, false, false, false, false, true, true, true] [false, false, false, false, false, false, false, false, false, false, false, false, false, false, false, false, false, false, false, false, false, false, false, false, false, false, false, false, false, false, false, true, false, false, false] [[0], [], [], [], [], [], [], [], [], [], [], [], [], [], [], [], [], [], [], [], [], [], [], [], [], [], [], [], [], [], [], [], [], [], []] [false, false, false, false, false, false, false, false, false, false, false, false, false, false, false, false, false, false, false, false, false, false, true, false, false, false, false, false, false, false, false, false, false, false, false] (by kernel_rfl) fun k hk => ?_;refine lG 22 rfl rfl rfl rfl rfl ?_;refine gpx (a2 (em (eK .i64) p2.a 0) (em (eK .i64) p7 ((p2.a.getD 0 default).toNat))) ?_;obtain ⟨y3, hc9, hm⟩ := bd hm;refine pap (fun _ => gg (p7.getD ((p2.a.getD 0 default).toNat) default) 0 _ hc9) ?_;refine gp ?_
   refine lH (l9 (s := 4) (T' := 96) (es := ((lit ([(y3)] : List aj)).map aj.enc)) rfl (fun σ => by simp only [bA, bT, tab, bX, reduceIte, ↓reduceIte, reduceCtorEq, Int.reduceToNat, Nat.reduceDiv, Nat.reduceMod, Nat.reduceLT, Nat.reduceLeDiff, Nat.reduceAdd, Nat.reduceSub, Nat.reduceMul, Nat.reduceEqDiff, Nat.reduceBEq, Nat.reduceBNe, Nat.reduceGT, List.length_cons, List.length_nil, List.length_append, List.cons_append, List.nil_append, List.replicate, List.foldr]; rfl) (by first | trivial | (and_intros <;> first | trivial | rfl | omega | decide | (intro _; omega))) (by rfl)) (by first | rfl | (simp only [bA, bT, tab, bX, reduceIte, ↓reduceIte, reduceCtorEq, Int.reduceToNat, Nat.reduceDiv, Nat.reduceMod, Nat.reduceLT, Nat.reduceLeDiff, Nat.reduceAdd, Nat.reduceSub, Nat.reduceMul, Nat.reduceEqDiff, Nat.reduceBEq, Nat.reduceBNe, Nat.reduceGT]; done)) (by first | trivial | exact ia rfl) ?_
   refine gl ?_;refine lF rfl ?_;refine gp ?_;obtain ⟨y4, hc10, hm⟩ := bd hm;refine cap (σ2 := [.box [.tree 2 (p3.map ap.enc), .tree 1 (p4.map (eK .i64)), .tree 1 (p5.map (eK .i64)), .tree 6 (p6.map ah.enc), .tree 1 (p7.map (eK .i64)), .tree 1 (p8.map (eK .i64)), .int .i64 p9, .osl 1 v1_ 0 p10.length, .osl 2 v2_ 0 p11.length], .arr 6 v1_ 98 (p10.map av.enc), .arr 1 v2_ 3 (p11.map (eK .i64)), .box [.int .i64 p2.op, .int .i64 p2.k, .int .i64 p2.out_, .int .i64 p2.n, .tree 1 (p2.a.map (eK .i64)), .tree 4 (p2.e.map aj.enc)]]) (res := .c (.tree 4 (y4.map aj.enc))) (ct [0, 1, 2] (ib p2.e p2.n p3 p4 p5 p6 p7 p8 p9 p10 p11 v1_ v2_ _ hc10)) ?_;obtain ⟨⟨hg11ax, hg11ay⟩, hm⟩ := gd hm;refine gp ?_;refine hk _ _ ?_;clear hk k;refine ar ?_;refine am (hk1 _ _ ?_);refine ao [0, 1, 5, 7, 8, 30, 42, 44, 45, 46, 47, 48, 49, 50, 51, 52, 53, 54, 55, 56, 57, 58, 59, 60, 61, 62, 63, 64, 65, 66, 67, 68, 69, 70, 71, 72, 73, 74, 75, 76, 77] ?_;refine i2 [.box [.tree 2 (p3.map ap.enc), .tree 1 (p4.map (eK .i64)), .tree 1 (p5.map (eK .i64)), .tree 6 (p6.map ah.enc), .tree 1 (p7.map (eK .i64)), .tree 1 (p8.map (eK .i64)), .int .i64 p9, .osl 1 (v1_ + 1) 0 (p10.length + 1), .osl 2 v2_ 0 p11.length], .arr 6 (v1_ + 1) 98 ((p10 ++ (lit ([(av.mk 3 p2.k p2.n (p7.getD p2.out_.toNat default) (lit ([(y3)] : List aj)) y4)] : List av))).map av.enc), .arr 1 v2_ 3 (p11.map (eK .i64)), .box [.int .i64 p2.op, .int .i64 p2.k, .int .i64 p2.out_, .int .i64 p2.n, .tree 1 (p2.a.map (eK .i64)), .tree 4 (p2.e.map aj.enc)], .arr 6 0 98 ((lit ([(av.mk 3 p2.k p2.n (p7.getD p2.out_.toNat default) (lit ([(y3)] : List aj)) y4)] : List av)).map av.enc)] ?_;refine ak ?_
   cases hm
   exact kr 3
  ·rw [iN h7] at hm;refine ai rfl (nB h7) ?_;refine ao [42, 79] ?_
   by_cases h12 : p2.op = 16
   ·rw [iP h12] at hm;refine af rfl (eQ h12) ?_;obtain ⟨⟨hg13a, hg13b⟩, hm⟩ := gd hm;refine s8 (by kernel_rfl) [1] [0, 0, 2, 6, 14, 0, 32, 0, 0, 0, 512, 1536, 3584, 7680, 0, 16384, 49152, 114688, 261632, 523776, 1048064, 2096640, 0, 0, 8388608, 0, 65011200, 134217696, 268435424, 536870910, 1073741823, 2147483647, 4294967295] [false, false, false, false, false, false, false, false, false, false, false, false, false, false, false, false, false, false, false, false, false, false, false, false, false, false, false, false, false, false, true, true, true] [false, false, false, false, false, false, false, false, false, false, false, false, false, false, false, false, false, false, false, false, false, false, false, false, false, false, false, false, false, true, false, false, false] [[0], [], [], [], [], [], [], [], [], [], [], [], [], [], [], [], [], [], [], [], [], [], [], [], [], [], [], [], [], [], [], [], []] [false, false, false, false, false, false, false, false, false, false, false, false, false, false, false, false, false, false, false, false, false, true, false, false, false, false, false, false, false, false, false, false, false] (by kernel_rfl) fun k hk => ?_;refine lG 21 rfl rfl rfl rfl rfl ?_;refine gpx (a2 (em (eK .i64) p2.a 0) (em (eK .i64) p7 ((p2.a.getD 0 default).toNat))) ?_;obtain ⟨y5, hc14, hm⟩ := bd hm;refine pap (fun _ => gg (p7.getD ((p2.a.getD 0 default).toNat) default) 0 _ hc14) ?_;refine gp ?_
    refine lH (l9 (s := 4) (T' := 96) (es := ((lit ([(y5)] : List aj)).map aj.enc)) rfl (fun σ => by simp only [bA, bT, tab, bX, reduceIte, ↓reduceIte, reduceCtorEq, Int.reduceToNat, Nat.reduceDiv, Nat.reduceMod, Nat.reduceLT, Nat.reduceLeDiff, Nat.reduceAdd, Nat.reduceSub, Nat.reduceMul, Nat.reduceEqDiff, Nat.reduceBEq, Nat.reduceBNe, Nat.reduceGT, List.length_cons, List.length_nil, List.length_append, List.cons_append, List.nil_append, List.replicate, List.foldr]; rfl) (by first | trivial | (and_intros <;> first | trivial | rfl | omega | decide | (intro _; omega))) (by rfl)) (by first | rfl | (simp only [bA, bT, tab, bX, reduceIte, ↓reduceIte, reduceCtorEq, Int.reduceToNat, Nat.reduceDiv, Nat.reduceMod, Nat.reduceLT, Nat.reduceLeDiff, Nat.reduceAdd, Nat.reduceSub, Nat.reduceMul, Nat.reduceEqDiff, Nat.reduceBEq, Nat.reduceBNe, Nat.reduceGT]; done)) (by first | trivial | exact ia rfl) ?_
    refine gl ?_;refine lF rfl ?_;refine gp ?_;obtain ⟨y6, hc15, hm⟩ := bd hm;refine cap (σ2 := [.box [.tree 2 (p3.map ap.enc), .tree 1 (p4.map (eK .i64)), .tree 1 (p5.map (eK .i64)), .tree 6 (p6.map ah.enc), .tree 1 (p7.map (eK .i64)), .tree 1 (p8.map (eK .i64)), .int .i64 p9, .osl 1 v1_ 0 p10.length, .osl 2 v2_ 0 p11.length], .arr 6 v1_ 98 (p10.map av.enc), .arr 1 v2_ 3 (p11.map (eK .i64)), .box [.int .i64 p2.op, .int .i64 p2.k, .int .i64 p2.out_, .int .i64 p2.n, .tree 1 (p2.a.map (eK .i64)), .tree 4 (p2.e.map aj.enc)]]) (res := .c (.tree 4 (y6.map aj.enc))) (ct [0, 1, 2] (ib p2.e ((p3.getD p2.out_.toNat default).n) p3 p4 p5 p6 p7 p8 p9 p10 p11 v1_ v2_ _ hc15)) ?_;obtain ⟨⟨hg16ax, hg16ay⟩, hm⟩ := gd hm;refine gp ?_;refine hk _ _ ?_;clear hk k;refine ar ?_;refine am (hk1 _ _ ?_);refine ao [0, 1, 5, 7, 8, 30, 78, 80, 81, 82, 83, 84, 85, 86, 87, 88, 89, 90, 91, 92, 93, 94, 95, 96, 97, 98, 99, 100, 101, 102, 103, 104, 105, 106, 107, 108, 109, 110, 111] ?_;refine i2 [.box [.tree 2 (p3.map ap.enc), .tree 1 (p4.map (eK .i64)), .tree 1 (p5.map (eK .i64)), .tree 6 (p6.map ah.enc), .tree 1 (p7.map (eK .i64)), .tree 1 (p8.map (eK .i64)), .int .i64 p9, .osl 1 (v1_ + 1) 0 (p10.length + 1), .osl 2 v2_ 0 p11.length], .arr 6 (v1_ + 1) 98 ((p10 ++ (lit ([(av.mk 4 p2.k ((p3.getD p2.out_.toNat default).n) (p7.getD p2.out_.toNat default) (lit ([(y5)] : List aj)) y6)] : List av))).map av.enc), .arr 1 v2_ 3 (p11.map (eK .i64)), .box [.int .i64 p2.op, .int .i64 p2.k, .int .i64 p2.out_, .int .i64 p2.n, .tree 1 (p2.a.map (eK .i64)), .tree 4 (p2.e.map aj.enc)], .arr 6 0 98 ((lit ([(av.mk 4 p2.k ((p3.getD p2.out_.toNat default).n) (p7.getD p2.out_.toNat default) (lit ([(y5)] : List aj)) y6)] : List av)).map av.enc)] ?_;refine ak ?_
    cases hm
    exact kr 3
   ·rw [iN h12] at hm;refine ai rfl (nB h12) ?_;refine ao [78, 113] ?_
    by_cases h17 : p2.op = 12
    ·rw [iP h17] at hm;refine af rfl (eQ h17) ?_;obtain ⟨⟨hg18a, hg18b⟩, hm⟩ := gd hm;refine jy (a2 (em (eK .i64) p2.a 0) (em ap.enc p3 ((p2.a.getD 0 default).toNat))) [1, 30, 112, 114, 115, 116, 117, 118, 119, 120, 121, 122, 123, 124, 125] [0, 1, 3, 7, 15, 0, 32, 96, 224, 511, 1023, 2047, 4095] [false, false, false, false, false, false, false, false, false, true, true, true, true] ?_;obtain ⟨hg19a, hm⟩ := gd hm;refine jx [126, 127, 128, 129, 130, 131, 132, 133, 134, 135, 136, 137, 138, 139, 140, 141, 142, 143] (by kernel_rfl) [0, 0, 0, 0, 8, 24, 56, 120, 0, 256, 768, 1792, 4088, 8184, 0, 32760, 65528, 131071] [false, false, false, false, false, false, false, false, false, false, false, false, false, false, false, false, false, true] (by kernel_rfl) fun k hk => ?_;refine gax (a2 (em (eK .i64) p2.a 0) (em (eK .i64) p7 ((p2.a.getD 0 default).toNat))) ?_;obtain ⟨y7, hc20, hm⟩ := bd hm;refine AP (fun _ => gg (p7.getD ((p2.a.getD 0 default).toNat) default) ((p3.getD ((p2.a.getD 0 default).toNat) default).n) _ hc20) ?_;refine ga ?_;obtain ⟨y8, hc21, hm⟩ := bd hm;refine ca (σ2 := [.box [.tree 2 (p3.map ap.enc), .tree 1 (p4.map (eK .i64)), .tree 1 (p5.map (eK .i64)), .tree 6 (p6.map ah.enc), .tree 1 (p7.map (eK .i64)), .tree 1 (p8.map (eK .i64)), .int .i64 p9, .osl 1 (v1_ + 1) 0 y8.length, .osl 2 v2_ 0 p11.length], .arr 6 (v1_ + 1) 98 (y8.map av.enc), .arr 1 v2_ 3 (p11.map (eK .i64)), .box [.int .i64 p2.op, .int .i64 p2.k, .int .i64 p2.out_, .int .i64 p2.n, .tree 1 (p2.a.map (eK .i64)), .tree 4 (p2.e.map aj.enc)], .dead]) (res := .t []) (ct [0, 4, 1, 2] (d4 (p7.getD p2.out_.toNat default) ((p3.getD ((p2.a.getD 0 default).toNat) default).n) p3 p4 p5 p6 p7 p8 p9 (lit ([(y7)] : List aj)) p10 p11 0 v1_ v2_ _ hc21)) ?_;refine ga ?_;refine hk _ _ ?_;clear hk k;obtain ⟨⟨hg22a, hg22b⟩, hm⟩ := gd hm;refine pT (by kernel_rfl) [0, 0, 0, 6, 0, 0, 48, 0, 128, 384, 896, 1920, 0, 4096, 12288, 28672, 65408, 130944, 0, 0, 786432, 2097024, 4194176, 8388607] [false, false, false, false, false, false, false, false, false, false, false, false, false, false, false, false, false, false, false, false, false, false, false, true] (by kernel_rfl) fun k hk => ?_;refine gax (a2 (em (eK .i64) p2.a 1) (em (eK .i64) p7 ((p2.a.getD 1 default).toNat))) ?_;obtain ⟨y9, hc23, hm⟩ := bd hm;refine AP (fun _ => gg (p7.getD ((p2.a.getD 1 default).toNat) default) (IntKind.wrap .i64 (((p3.getD p2.out_.toNat default).n) - ((p3.getD ((p2.a.getD 0 default).toNat) default).n))) _ hc23) ?_;refine ga ?_;obtain ⟨y10, hc24, hm⟩ := bd hm
     refine ca (σ2 := [.box [.tree 2 (p3.map ap.enc), .tree 1 (p4.map (eK .i64)), .tree 1 (p5.map (eK .i64)), .tree 6 (p6.map ah.enc), .tree 1 (p7.map (eK .i64)), .tree 1 (p8.map (eK .i64)), .int .i64 p9, .osl 1 (v1_ + 1 + 1) 0 y10.length, .osl 2 v2_ 0 p11.length], .arr 6 (v1_ + 1 + 1) 98 (y10.map av.enc), .arr 1 v2_ 3 (p11.map (eK .i64)), .box [.int .i64 p2.op, .int .i64 p2.k, .int .i64 p2.out_, .int .i64 p2.n, .tree 1 (p2.a.map (eK .i64)), .tree 4 (p2.e.map aj.enc)], .dead, .dead]) (res := .t []) (ct [0, 5, 1, 2] (d4 (IntKind.wrap .i64 ((p7.getD p2.out_.toNat default) + ((p3.getD ((p2.a.getD 0 default).toNat) default).n))) (IntKind.wrap .i64 (((p3.getD p2.out_.toNat default).n) - ((p3.getD ((p2.a.getD 0 default).toNat) default).n))) p3 p4 p5 p6 p7 p8 p9 (lit ([(y9)] : List aj)) y8 p11 0 (v1_ + 1) v2_ _ hc24)) ?_;refine ga ?_;refine hk _ _ ?_;clear hk k;refine ar ?_;refine am (hk1 _ _ ?_);refine ao [0, 5, 7, 8, 9, 144, 145, 146, 147, 148, 149, 150, 151, 152, 153, 154, 155, 156, 157, 158, 159, 160, 161, 162, 163, 164, 165, 166, 167] ?_;refine ak ?_
     cases hm
     exact kr 3
    ·rw [iN h17] at hm;refine ai rfl (nB h17) ?_;refine ao [30, 112, 169] ?_
     by_cases h25 : p2.op = 13
     ·rw [iP h25] at hm;refine af rfl (eQ h25) ?_;refine pT (by kernel_rfl) [0, 0, 0, 0, 0, 16, 48, 112, 240, 0, 1008, 2032, 0, 8184, 0, 16384, 49152, 114688, 245760, 0, 524288, 1572864, 3670016, 8372224, 16760832, 0, 67108856, 0, 268435448, 536870911] [false, false, false, false, false, false, false, false, false, false, false, false, false, false, false, false, false, false, false, false, false, false, false, false, false, false, false, false, false, true] (by kernel_rfl) fun k hk => ?_;refine ga ?_;obtain ⟨y11, hc26, hm⟩ := bd hm;refine AP (fun _ => gg 0 0 _ hc26) ?_;obtain ⟨hg27a, hm⟩ := gd hm;refine gax (em (eK .i64) p8 p1.toNat) ?_;obtain ⟨y12, hc28, hm⟩ := bd hm;refine AP (fun _ => gg (p8.getD p1.toNat default) ((p3.getD p2.out_.toNat default).n) _ hc28) ?_;obtain ⟨⟨hg29a, hg29b⟩, hm⟩ := gd hm;refine gax (a2 (em (eK .i64) p2.a 0) (em (eK .i64) p7 ((p2.a.getD 0 default).toNat))) ?_;obtain ⟨y13, hc30, hm⟩ := bd hm;refine AP (fun _ => gg (p7.getD ((p2.a.getD 0 default).toNat) default) ((p3.getD p2.out_.toNat default).n) _ hc30) ?_;refine ga ?_;obtain ⟨y14, hc31, hm⟩ := bd hm;refine ca (σ2 := [.box [.tree 2 (p3.map ap.enc), .tree 1 (p4.map (eK .i64)), .tree 1 (p5.map (eK .i64)), .tree 6 (p6.map ah.enc), .tree 1 (p7.map (eK .i64)), .tree 1 (p8.map (eK .i64)), .int .i64 p9, .osl 1 (v1_ + 1) 0 y14.length, .osl 2 v2_ 0 p11.length], .arr 6 (v1_ + 1) 98 (y14.map av.enc), .arr 1 v2_ 3 (p11.map (eK .i64)), .box [.int .i64 p2.op, .int .i64 p2.k, .int .i64 p2.out_, .int .i64 p2.n, .tree 1 (p2.a.map (eK .i64)), .tree 4 (p2.e.map aj.enc)], .dead]) (res := .t []) (ct [0, 4, 1, 2] (d4 (p7.getD p2.out_.toNat default) ((p3.getD p2.out_.toNat default).n) p3 p4 p5 p6 p7 p8 p9 (lit ([(y11), (y12), (y13), (aj.mk 7 0 0 0)] : List aj)) p10 p11 0 v1_ v2_ _ hc31)) ?_;refine ga ?_;refine hk _ _ ?_;clear hk k;refine ar ?_;refine am (hk1 _ _ ?_);refine ao [0, 1, 5, 7, 8, 168, 170, 171, 172, 173, 174, 175, 176, 177, 178, 179, 180, 181, 182, 183, 184, 185, 186, 187, 188, 189, 190, 191, 192, 193, 194, 195, 196, 197, 198, 199] ?_;refine ak ?_
      cases hm
      exact kr 3
     ·rw [iN h25] at hm;refine ai rfl (nB h25) ?_;refine ao [0, 1, 5, 7, 8, 168] ?_;refine ak ?_;refine ab (ag ?_)
      cases hm
      exact kr 3
theorem qj (p1 : ae) (p2 : aK) (p3 : List Int) (v0_ : Nat) (r : (List Int)) (hm : iL p1 p2 p3 = some r) : e9 Try.prog 68 [.a [.tree 2 (p1.vars.map ap.enc), .tree 1 (p1.in_.map (eK .i64)), .tree 1 (p1.out_.map (eK .i64)), .tree 6 (p1.rules.map ah.enc)], .a [.tree 1 (p2.at_.map (eK .i64)), .tree 1 (p2.keep.map (eK .i64)), .int .i64 p2.cells], .c (.osl 0 v0_ 0 p3.length)] [.arr 1 v0_ 3 (p3.map (eK .i64))] (fun p σ => (p = .c (.tree 1 (r.map (eK .i64))) ∧ σ = [.arr 1 v0_ 3 (p3.map (eK .i64))])) (fun _ _ => False) := by
 refine aG 40 [.tmp 6] Try.func68 rfl rfl rfl (by kernel_rfl) (by simp) ?_;refine bk ?_;unfold iL at hm;refine ao [0, 1, 6] ?_;refine ao [] ?_;refine bD (ew 7 1 3 (by decide) rfl (Nat.le_of_ble_eq_true rfl)) ?_;refine lZ ?_;refine aI (S := (List Int)) (V := Nat) [2, 3, 4, 7, 9, 10, 11, 12, 13, 14, 15, 16, 17, 18, 19, 20, 21, 22, 23, 24, 25, 26, 27, 28, 29, 30, 31, 32, 33, 34, 35, 36, 37, 38] (fun l3 v4 => [(7, .c (.osl 3 v4 0 l3.length))]) (fun l3 v4 => [.arr 1 v0_ 3 (p3.map (eK .i64)), .box [.tree 2 (p1.vars.map ap.enc), .tree 1 (p1.in_.map (eK .i64)), .tree 1 (p1.out_.map (eK .i64)), .tree 6 (p1.rules.map ah.enc)], .box [.tree 1 (p2.at_.map (eK .i64)), .tree 1 (p2.keep.map (eK .i64)), .int .i64 p2.cells], .arr 1 v4 3 (l3.map (eK .i64))]) (fun l3 => gP l3 = some r) ?_ ?_
 ·skip;refine ao [2] ?_
  refine az ?_;obtain ⟨o1, hl1, hm1⟩ := bd hm;refine aZ (S := ((List Int) × Int)) (V := Nat) (O := (List Int)) [7, 9, 10, 11, 13, 14, 15, 16, 17, 18, 19, 20, 21, 22, 23, 24, 25, 26, 27, 28, 29, 30, 31, 32, 33, 34, 35, 36, 37, 38] (fun (l17, x19) v18 => [(7, .c (.osl 3 v18 0 l17.length)), (11, .c (.osl 0 v0_ 0 p3.length)), (13, .c (.int .i64 x19))]) (fun (l17, x19) v18 => [.arr 1 v0_ 3 (p3.map (eK .i64)), .box [.tree 2 (p1.vars.map ap.enc), .tree 1 (p1.in_.map (eK .i64)), .tree 1 (p1.out_.map (eK .i64)), .tree 6 (p1.rules.map ah.enc)], .box [.tree 1 (p2.at_.map (eK .i64)), .tree 1 (p2.keep.map (eK .i64)), .int .i64 p2.cells], .arr 1 v18 3 (l17.map (eK .i64))]) _ _ 0 hl1 ?_ ?_
  ·exact ls
  ·rintro ⟨l17, x19⟩ v18 r1 hm hr1;replace hm : cW p1 p2 p3 l17 x19 = some r1 := hm;refine aH ?_;unfold cW at hm;refine ao [] ?_;refine aq fun k1 hk1 => ?_
   by_cases h1 : x19 < (p3.length : Int)
   ·rw [iP h1] at hm;refine af rfl (dT h1) ?_;refine au ?_;refine am (hk1 _ _ ?_);refine aI (S := (List Int)) (V := Nat) [7, 9, 10, 11, 14, 15, 16, 17, 18, 19, 20, 21, 22, 23, 24, 25, 26, 27, 28, 29, 30, 31, 32, 33, 34, 35, 36, 37] (fun l22 v23 => [(7, .c (.osl 3 v23 0 l22.length)), (11, .c (.osl 0 v0_ 0 p3.length))]) (fun l22 v23 => [.arr 1 v0_ 3 (p3.map (eK .i64)), .box [.tree 2 (p1.vars.map ap.enc), .tree 1 (p1.in_.map (eK .i64)), .tree 1 (p1.out_.map (eK .i64)), .tree 6 (p1.rules.map ah.enc)], .box [.tree 1 (p2.at_.map (eK .i64)), .tree 1 (p2.keep.map (eK .i64)), .int .i64 p2.cells], .arr 1 v23 3 (l22.map (eK .i64))]) (fun l22 => eM x19 l22 = some r1) ?_ ?_
    ·skip;refine az ?_
     obtain ⟨hg2a, hm⟩ := gd hm;refine bi (em (eK .i64) p3 x19.toNat) [14, 15, 16] ?_;obtain ⟨hg3a, hm⟩ := gd hm;refine aL [17, 18, 19, 20, 21, 22] fun k kp hk hp => ?_;refine gox (em ap.enc p1.vars ((p3.getD x19.toNat default).toNat)) ?_;obtain ⟨y24, hc4, hm⟩ := bd hm;refine RP (fun _ => lm ((p1.vars.getD ((p3.getD x19.toNat default).toNat) default).n) _ hc4) ?_;refine aa ?_;refine go ?_;refine hk _ _ ?_;clear hk hp k kp;refine az ?_;obtain ⟨o2, hl2, hm2⟩ := bd hm;refine aZ (S := ((List Int) × Int)) (V := Nat) (O := (List Int)) [7, 10, 11, 24, 25, 26, 27, 28, 29, 30, 31, 32, 33, 34, 35, 36, 37] (fun (l39, x41) v40 => [(7, .c (.osl 3 v40 0 l39.length)), (11, .c (.osl 0 v0_ 0 p3.length)), (24, .c (.int .i64 x41))]) (fun (l39, x41) v40 => [.arr 1 v0_ 3 (p3.map (eK .i64)), .box [.tree 2 (p1.vars.map ap.enc), .tree 1 (p1.in_.map (eK .i64)), .tree 1 (p1.out_.map (eK .i64)), .tree 6 (p1.rules.map ah.enc)], .box [.tree 1 (p2.at_.map (eK .i64)), .tree 1 (p2.keep.map (eK .i64)), .int .i64 p2.cells], .arr 1 v40 3 (l39.map (eK .i64))]) _ _ v18 hl2 ?_ ?_
     ·exact ls
     ·rintro ⟨l39, x41⟩ v40 r2 hm hr2;replace hm : cV p2 p3 x19 y24 l39 x41 = some r2 := hm;refine aH ?_;unfold cV at hm;refine ao [] ?_;refine aq fun k2 hk2 => ?_
      by_cases h5 : x41 < y24
      ·rw [iP h5] at hm;refine af rfl (dT h5) ?_;refine au ?_;refine am (hk2 _ _ ?_);refine aq fun k3 hk3 => ?_;refine az ?_;refine ao [25, 26] ?_;obtain ⟨⟨hg6a, ⟨hg6bx, hg6by⟩⟩, hm⟩ := gd hm;refine nl (em (eK .i64) p2.at_ ((p3.getD x19.toNat default).toNat)) ?_;refine ar ?_;refine am (hk3 _ _ ?_);refine a8 ?_;refine aB ((l39 ++ (lit ([(IntKind.wrap .i64 ((p2.at_.getD ((p3.getD x19.toNat default).toNat) default) + x41))] : List Int))), (IntKind.wrap .i64 (x41 + 1))) (v40 + 1) hm ?_;exact ls
      ·rw [iN h5] at hm;refine ai rfl (dF h5) ?_;refine bj ?_;have ho7 := aA hm hr2;subst ho7;replace hm : eM x19 l39 = some r1 := hm2;refine aY (aQ (aF (ar ?_)));refine aw l39 v40 hm ?_;exact ls
    ·rintro l22 v23 hm;replace hm : eM x19 l22 = some r1 := hm;refine aH ?_;unfold eM at hm;refine a8 ?_;refine aB (l22, (IntKind.wrap .i64 (x19 + 1))) v23 hm ?_;exact ls
   ·rw [iN h1] at hm;refine ai rfl (dF h1) ?_;refine bj ?_;have ho8 := aA hm hr1;subst ho8;replace hm : gP l17 = some r := hm1;refine aY (aQ (aF ?_));refine aw l17 v18 hm ?_;exact ls
 ·rintro l3 v4 hm;replace hm : gP l3 = some r := hm;refine aH ?_;unfold gP at hm;refine ao [7, 39] ?_;refine iZ (bw 3 rfl) ?_;refine ak ?_
  cases hm
  exact kr 1
theorem lK (p1 : ae) (p2 : aK) (p3 : List Int) (r : (List Int)) (hm : iA p1 p2 p3 = some r) : bu Try.prog 68 [.a [.tree 2 (p1.vars.map ap.enc), .tree 1 (p1.in_.map (eK .i64)), .tree 1 (p1.out_.map (eK .i64)), .tree 6 (p1.rules.map ah.enc)], .a [.tree 1 (p2.at_.map (eK .i64)), .tree 1 (p2.keep.map (eK .i64)), .int .i64 p2.cells], .c (.tree 1 (p3.map (eK .i64)))] (.c (.tree 1 (r.map (eK .i64)))) := by
 refine aG 40 [.tmp 6] Try.func68 rfl rfl rfl (by kernel_rfl) (by simp) ?_;refine bk ?_;unfold iA at hm;refine ao [0, 1, 6] ?_;refine ao [] ?_;refine bD (ew 7 1 3 (by decide) rfl (Nat.le_of_ble_eq_true rfl)) ?_;refine lZ ?_;refine aI (S := (List Int)) (V := Nat) [2, 3, 4, 7, 9, 10, 11, 12, 13, 14, 15, 16, 17, 18, 19, 20, 21, 22, 23, 24, 25, 26, 27, 28, 29, 30, 31, 32, 33, 34, 35, 36, 37, 38] (fun l3 v4 => [(7, .c (.osl 2 v4 0 l3.length))]) (fun l3 v4 => [.box [.tree 2 (p1.vars.map ap.enc), .tree 1 (p1.in_.map (eK .i64)), .tree 1 (p1.out_.map (eK .i64)), .tree 6 (p1.rules.map ah.enc)], .box [.tree 1 (p2.at_.map (eK .i64)), .tree 1 (p2.keep.map (eK .i64)), .int .i64 p2.cells], .arr 1 v4 3 (l3.map (eK .i64))]) (fun l3 => fm l3 = some r) ?_ ?_
 ·skip;refine ao [2] ?_
  refine az ?_;obtain ⟨o1, hl1, hm1⟩ := bd hm;refine aZ (S := ((List Int) × Int)) (V := Nat) (O := (List Int)) [7, 9, 10, 13, 14, 15, 16, 17, 18, 19, 20, 21, 22, 23, 24, 25, 26, 27, 28, 29, 30, 31, 32, 33, 34, 35, 36, 37, 38] (fun (l17, x19) v18 => [(7, .c (.osl 2 v18 0 l17.length)), (13, .c (.int .i64 x19))]) (fun (l17, x19) v18 => [.box [.tree 2 (p1.vars.map ap.enc), .tree 1 (p1.in_.map (eK .i64)), .tree 1 (p1.out_.map (eK .i64)), .tree 6 (p1.rules.map ah.enc)], .box [.tree 1 (p2.at_.map (eK .i64)), .tree 1 (p2.keep.map (eK .i64)), .int .i64 p2.cells], .arr 1 v18 3 (l17.map (eK .i64))]) _ _ 0 hl1 ?_ ?_
  ·exact ls
  ·rintro ⟨l17, x19⟩ v18 r1 hm hr1;replace hm : jE p1 p2 p3 l17 x19 = some r1 := hm;refine aH ?_;unfold jE at hm;refine ao [] ?_;refine aq fun k1 hk1 => ?_
   by_cases h1 : x19 < (p3.length : Int)
   ·rw [iP h1] at hm;refine af rfl (dT h1) ?_;refine au ?_;refine am (hk1 _ _ ?_);refine aI (S := (List Int)) (V := Nat) [7, 9, 10, 14, 15, 16, 17, 18, 19, 20, 21, 22, 23, 24, 25, 26, 27, 28, 29, 30, 31, 32, 33, 34, 35, 36, 37] (fun l22 v23 => [(7, .c (.osl 2 v23 0 l22.length))]) (fun l22 v23 => [.box [.tree 2 (p1.vars.map ap.enc), .tree 1 (p1.in_.map (eK .i64)), .tree 1 (p1.out_.map (eK .i64)), .tree 6 (p1.rules.map ah.enc)], .box [.tree 1 (p2.at_.map (eK .i64)), .tree 1 (p2.keep.map (eK .i64)), .int .i64 p2.cells], .arr 1 v23 3 (l22.map (eK .i64))]) (fun l22 => fp x19 l22 = some r1) ?_ ?_
    ·skip;refine az ?_
     obtain ⟨hg2a, hm⟩ := gd hm;refine bi (em (eK .i64) p3 x19.toNat) [14, 15, 16] ?_;obtain ⟨hg3a, hm⟩ := gd hm;refine aL [17, 18, 19, 20, 21, 22] fun k kp hk hp => ?_;refine gox (em ap.enc p1.vars ((p3.getD x19.toNat default).toNat)) ?_;obtain ⟨y24, hc4, hm⟩ := bd hm;refine RP (fun _ => lm ((p1.vars.getD ((p3.getD x19.toNat default).toNat) default).n) _ hc4) ?_;refine aa ?_;refine go ?_;refine hk _ _ ?_;clear hk hp k kp;refine az ?_;obtain ⟨o2, hl2, hm2⟩ := bd hm;refine aZ (S := ((List Int) × Int)) (V := Nat) (O := (List Int)) [7, 10, 24, 25, 26, 27, 28, 29, 30, 31, 32, 33, 34, 35, 36, 37] (fun (l39, x41) v40 => [(7, .c (.osl 2 v40 0 l39.length)), (24, .c (.int .i64 x41))]) (fun (l39, x41) v40 => [.box [.tree 2 (p1.vars.map ap.enc), .tree 1 (p1.in_.map (eK .i64)), .tree 1 (p1.out_.map (eK .i64)), .tree 6 (p1.rules.map ah.enc)], .box [.tree 1 (p2.at_.map (eK .i64)), .tree 1 (p2.keep.map (eK .i64)), .int .i64 p2.cells], .arr 1 v40 3 (l39.map (eK .i64))]) _ _ v18 hl2 ?_ ?_
     ·exact ls
     ·rintro ⟨l39, x41⟩ v40 r2 hm hr2;replace hm : jD p2 p3 x19 y24 l39 x41 = some r2 := hm;refine aH ?_;unfold jD at hm;refine ao [] ?_;refine aq fun k2 hk2 => ?_
      by_cases h5 : x41 < y24
      ·rw [iP h5] at hm;refine af rfl (dT h5) ?_;refine au ?_;refine am (hk2 _ _ ?_);refine aq fun k3 hk3 => ?_;refine az ?_;refine ao [25, 26] ?_;obtain ⟨⟨hg6a, ⟨hg6bx, hg6by⟩⟩, hm⟩ := gd hm;refine nl (em (eK .i64) p2.at_ ((p3.getD x19.toNat default).toNat)) ?_;refine ar ?_;refine am (hk3 _ _ ?_);refine a8 ?_;refine aB ((l39 ++ (lit ([(IntKind.wrap .i64 ((p2.at_.getD ((p3.getD x19.toNat default).toNat) default) + x41))] : List Int))), (IntKind.wrap .i64 (x41 + 1))) (v40 + 1) hm ?_;exact ls
      ·rw [iN h5] at hm;refine ai rfl (dF h5) ?_;refine bj ?_;have ho7 := aA hm hr2;subst ho7;replace hm : fp x19 l39 = some r1 := hm2;refine aY (aQ (aF (ar ?_)));refine aw l39 v40 hm ?_;exact ls
    ·rintro l22 v23 hm;replace hm : fp x19 l22 = some r1 := hm;refine aH ?_;unfold fp at hm;refine a8 ?_;refine aB (l22, (IntKind.wrap .i64 (x19 + 1))) v23 hm ?_;exact ls
   ·rw [iN h1] at hm;refine ai rfl (dF h1) ?_;refine bj ?_;have ho8 := aA hm hr1;subst ho8;replace hm : fm l17 = some r := hm1;refine aY (aQ (aF ?_));refine aw l17 v18 hm ?_;exact ls
 ·rintro l3 v4 hm;replace hm : fm l3 = some r := hm;refine aH ?_;unfold fm at hm;refine ao [7, 39] ?_;refine iZ (bw 2 rfl) ?_;refine ak ?_
  cases hm
  exact kr 0
theorem od (p1 : ae) (p2 : aK) (r : (bq × (List Int) × ay)) (hm : jd p1 p2 = some r) : bu Try.prog 19 [.a [.tree 2 (p1.vars.map ap.enc), .tree 1 (p1.in_.map (eK .i64)), .tree 1 (p1.out_.map (eK .i64)), .tree 6 (p1.rules.map ah.enc)], .a [.tree 1 (p2.at_.map (eK .i64)), .tree 1 (p2.keep.map (eK .i64)), .int .i64 p2.cells]] (.t [.a [.int .i64 ((r.1).cells), .tree 1 (((r.1).put).map (eK .i64)), .tree 1 (((r.1).get).map (eK .i64)), .tree 6 (((r.1).steps).map av.enc)], .c (.tree 1 (r.2.1.map (eK .i64))), .a [.int .i64 ((r.2.2).code), .int .i64 ((r.2.2).at_)]]) := by
 refine aG 147 [.cell 4 46, .tmp 5, .cell 6 30] Try.func19 rfl rfl rfl (by kernel_rfl) (by simp) ?_;refine bk ?_;unfold jd at hm;refine ao [0, 1, 5] ?_;refine aq fun k1 hk1 => ?_;refine aL [16, 17] fun k kp hk hp => ?_;refine go ?_;obtain ⟨y1, hc1, hm⟩ := bd hm;refine RP (fun _ => te p1 _ hc1) ?_;refine aa ?_;refine go ?_;refine hk _ _ ?_;clear hk hp k kp;refine ao [18, 19] ?_
 by_cases h2 : ¬ ((y1).code) = 0
 ·rw [iP h2] at hm;refine af rfl (bne_iff_ne.2 h2) ?_;refine qw [2, 3, 7, 20, 21, 22] (by kernel_rfl) [2] [0, 0, 1, 5, 15] [false, false, false, false, true] [false, false, true, false, false] [[], [7], [], [], []] (by kernel_rfl) fun k hk => ?_;refine gp ?_;refine hk _ _ ?_;clear hk k
  refine bD (eI 2 [.int .i64 0, .tree 1 ([].map (eK .i64)), .tree 1 ([].map (eK .i64)), .tree 6 ([].map av.enc)] rfl (by and_intros <;> trivial)) ?_
  refine jV rfl (by simp only [bZ, bL, reduceIte, ↓reduceIte, reduceCtorEq, Int.reduceToNat, Nat.reduceDiv, Nat.reduceMod, Nat.reduceLT, Nat.reduceLeDiff, Nat.reduceAdd, Nat.reduceSub, Nat.reduceMul, Nat.reduceEqDiff, Nat.reduceBEq, Nat.reduceBNe, Nat.reduceGT]; rfl) ?_
  refine bD (ex 5 (.c (.tree 1 (([] : List _).map (eK .i64)))) rfl (by and_intros <;> trivial)) ?_
  refine nm ?_;refine ak ?_;refine ag ?_
  cases hm
  exact kr 0
 ·rw [iN h2] at hm;refine ai rfl (bne_eq_false_iff_eq.2 (Decidable.not_not.1 h2)) ?_;refine au ?_;refine am (hk1 _ _ ?_);refine aq fun k2 hk2 => ?_;refine aL [7, 20, 23, 24] fun k kp hk hp => ?_;refine go ?_;obtain ⟨y2, hc3, hm⟩ := bd hm;refine RP (fun _ => qh p1 _ hc3) ?_;refine aa ?_;refine go ?_;refine hk _ _ ?_;clear hk hp k kp
  by_cases h4 : y2 = true
  ·rw [iP h4] at hm;refine ai rfl (by rw [show y2 = true from (h4)]; rfl) ?_;refine au ?_;refine am (hk2 _ _ ?_);refine aq fun k3 hk3 => ?_;refine aL [25, 28, 29, 30] fun k kp hk hp => ?_;refine go ?_;obtain ⟨y3, hc5, hm⟩ := bd hm;refine RP (fun _ => rS p1 p2 _ hc5) ?_;refine aa ?_;refine go ?_;refine hk _ _ ?_;clear hk hp k kp
   by_cases h6 : y3 = true
   ·rw [iP h6] at hm;refine ai rfl (by rw [show y3 = true from (h6)]; rfl) ?_;refine au ?_;refine am (hk3 _ _ ?_);refine ao [31, 34, 35, 36, 37] ?_;refine iZ (mH 5 7 6 98 (by decide) rfl rfl) ?_;refine iZ (mH 5 8 1 3 (by decide) rfl rfl) ?_;refine aI (S := (List av)) (V := Nat) [5, 9, 10, 38, 39, 40, 41, 42, 43, 44, 45, 46, 47, 48, 49, 50, 51, 52, 53, 54] (fun l6 v7 => []) (fun l6 v7 => [.box [.tree 2 (p1.vars.map ap.enc), .tree 1 (p1.in_.map (eK .i64)), .tree 1 (p1.out_.map (eK .i64)), .tree 6 (p1.rules.map ah.enc)], .box [.tree 1 (p2.at_.map (eK .i64)), .tree 1 (p2.keep.map (eK .i64)), .int .i64 p2.cells], .box [.int .i64 0, .nils, .nils, .nils], .box [.int .i64 0, .int .i64 0], .box [.int .i64 ((y1).code), .int .i64 ((y1).at_)], .box [.tree 2 (p1.vars.map ap.enc), .tree 1 (p1.in_.map (eK .i64)), .tree 1 (p1.out_.map (eK .i64)), .tree 6 (p1.rules.map ah.enc), .tree 1 (p2.at_.map (eK .i64)), .tree 1 (p2.keep.map (eK .i64)), .int .i64 p2.cells, .osl 6 v7 0 l6.length, .osl 7 0 0 0], .arr 6 v7 98 (l6.map av.enc), .arr 1 0 3 ([].map (eK .i64))]) (fun l6 => hP p1 p2 l6 = some r) ?_ ?_
    ·skip;refine ao [38] ?_
     refine az ?_;obtain ⟨o3, hl3, hm3⟩ := bd hm;refine aZ (S := ((List av) × Int)) (V := Nat) (O := (List av) ⊕ (bq × (List Int) × ay)) [5, 9, 10, 41, 42, 43, 44, 45, 46, 47, 48, 49, 50, 51, 52, 53, 54] (fun (l78, x80) v79 => [(41, .c (.int .i64 x80))]) (fun (l78, x80) v79 => [.box [.tree 2 (p1.vars.map ap.enc), .tree 1 (p1.in_.map (eK .i64)), .tree 1 (p1.out_.map (eK .i64)), .tree 6 (p1.rules.map ah.enc)], .box [.tree 1 (p2.at_.map (eK .i64)), .tree 1 (p2.keep.map (eK .i64)), .int .i64 p2.cells], .box [.int .i64 0, .nils, .nils, .nils], .box [.int .i64 0, .int .i64 0], .box [.int .i64 ((y1).code), .int .i64 ((y1).at_)], .box [.tree 2 (p1.vars.map ap.enc), .tree 1 (p1.in_.map (eK .i64)), .tree 1 (p1.out_.map (eK .i64)), .tree 6 (p1.rules.map ah.enc), .tree 1 (p2.at_.map (eK .i64)), .tree 1 (p2.keep.map (eK .i64)), .int .i64 p2.cells, .osl 6 v79 0 l78.length, .osl 7 0 0 0], .arr 6 v79 98 (l78.map av.enc), .arr 1 0 3 ([].map (eK .i64))]) _ _ 0 hl3 ?_ ?_
     ·exact ls
     ·rintro ⟨l78, x80⟩ v79 r3 hm hr3;replace hm : dl p1 p2 l78 x80 = some r3 := hm;refine aH ?_;unfold dl at hm;refine ao [] ?_;refine aq fun k8 hk8 => ?_
      by_cases h26 : x80 < (p1.rules.length : Int)
      ·rw [iP h26] at hm;refine af rfl (dT h26) ?_;refine au ?_;refine am (hk8 _ _ ?_);refine aq fun k9 hk9 => ?_;refine az ?_;obtain ⟨hg27a, hm⟩ := gd hm;refine bi (em ah.enc p1.rules x80.toNat) [42, 43, 44, 45] ?_;refine aL [10, 46, 47, 48, 49] fun k kp hk hp => ?_;refine go ?_;obtain ⟨y81, hc28, hm⟩ := bd hm;refine RA (m4 x80 (p1.rules.getD x80.toNat default) p1.vars p1.in_ p1.out_ p1.rules p2.at_ p2.keep p2.cells l78 [] v79 0 _ hc28) [5, 6, 7] ?_;rintro p σ' hq29 _;obtain ⟨v82, rfl, rfl⟩ := hq29;refine aa ?_;refine go ?_;refine hk _ _ ?_;clear hk hp k kp
       by_cases h30 : y81.1 = true
       ·rw [iP h30] at hm;refine ai rfl (by rw [show y81.1 = true from (h30)]; rfl) ?_;refine au ?_;refine ar ?_;refine am (hk9 _ _ ?_);refine a8 ?_;refine aB (y81.2, (IntKind.wrap .i64 (x80 + 1))) v82 hm ?_;exact ls
       ·rw [iN h30] at hm;refine af rfl (by rw [show y81.1 = false from (fB h30)]; rfl) ?_;refine ao [2, 3, 8, 9, 39, 40, 41, 50, 51, 52, 53] ?_
        refine bD (eI 2 [.int .i64 0, .tree 1 ([].map (eK .i64)), .tree 1 ([].map (eK .i64)), .tree 6 ([].map av.enc)] rfl (by and_intros <;> trivial)) ?_
        refine jV rfl (by simp only [bZ, bL, reduceIte, ↓reduceIte, reduceCtorEq, Int.reduceToNat, Nat.reduceDiv, Nat.reduceMod, Nat.reduceLT, Nat.reduceLeDiff, Nat.reduceAdd, Nat.reduceSub, Nat.reduceMul, Nat.reduceEqDiff, Nat.reduceBEq, Nat.reduceBNe, Nat.reduceGT]; rfl) ?_
        refine bD (ex 5 (.c (.tree 1 (([] : List _).map (eK .i64)))) rfl (by and_intros <;> trivial)) ?_
        refine nm ?_;have ho31 := aA hm hr3;subst ho31;replace hm : some ((bq.mk 0 [] [] []), [], (ay.mk 4 x80)) = some r := hm3;refine ak ?_;refine ab (ag (aD (ab (ax ?_))))
        cases hm
        exact kr 0
      ·rw [iN h26] at hm;refine ai rfl (dF h26) ?_;refine bj ?_;have ho32 := aA hm hr3;subst ho32;replace hm : hP p1 p2 l78 = some r := hm3;refine aY (aQ (aF ?_));refine aw l78 v79 hm ?_;exact ls
    ·rintro l6 v7 hm;replace hm : hP p1 p2 l6 = some r := hm;refine aH ?_;unfold hP at hm;refine aI (S := (List av)) (V := Nat) [11, 12, 13, 55, 56, 57, 58, 59, 60, 61, 62, 63, 64, 65, 66, 67, 68, 69, 70, 71, 72, 73, 74, 75, 76, 77, 78, 79, 80, 81, 82, 83, 84, 85, 86, 87, 88, 89, 90, 91, 92] (fun l10 v11 => []) (fun l10 v11 => [.box [.tree 2 (p1.vars.map ap.enc), .tree 1 (p1.in_.map (eK .i64)), .tree 1 (p1.out_.map (eK .i64)), .tree 6 (p1.rules.map ah.enc)], .box [.tree 1 (p2.at_.map (eK .i64)), .tree 1 (p2.keep.map (eK .i64)), .int .i64 p2.cells], .box [.int .i64 0, .nils, .nils, .nils], .box [.int .i64 0, .int .i64 0], .box [.int .i64 ((y1).code), .int .i64 ((y1).at_)], .box [.tree 2 (p1.vars.map ap.enc), .tree 1 (p1.in_.map (eK .i64)), .tree 1 (p1.out_.map (eK .i64)), .tree 6 (p1.rules.map ah.enc), .tree 1 (p2.at_.map (eK .i64)), .tree 1 (p2.keep.map (eK .i64)), .int .i64 p2.cells, .osl 6 v11 0 l10.length, .osl 7 0 0 0], .arr 6 v11 98 (l10.map av.enc), .arr 1 0 3 ([].map (eK .i64))]) (fun l10 => hO p1 p2 l10 = some r) ?_ ?_
     ·skip;refine ao [55] ?_
      refine az ?_;obtain ⟨o2, hl2, hm2⟩ := bd hm;refine aZ (S := ((List av) × Int)) (V := Nat) (O := (List av)) [11, 12, 13, 58, 59, 60, 61, 62, 63, 64, 65, 66, 67, 68, 69, 70, 71, 72, 73, 74, 75, 76, 77, 78, 79, 80, 81, 82, 83, 84, 85, 86, 87, 88, 89, 90, 91, 92] (fun (l60, x62) v61 => [(58, .c (.int .i64 x62))]) (fun (l60, x62) v61 => [.box [.tree 2 (p1.vars.map ap.enc), .tree 1 (p1.in_.map (eK .i64)), .tree 1 (p1.out_.map (eK .i64)), .tree 6 (p1.rules.map ah.enc)], .box [.tree 1 (p2.at_.map (eK .i64)), .tree 1 (p2.keep.map (eK .i64)), .int .i64 p2.cells], .box [.int .i64 0, .nils, .nils, .nils], .box [.int .i64 0, .int .i64 0], .box [.int .i64 ((y1).code), .int .i64 ((y1).at_)], .box [.tree 2 (p1.vars.map ap.enc), .tree 1 (p1.in_.map (eK .i64)), .tree 1 (p1.out_.map (eK .i64)), .tree 6 (p1.rules.map ah.enc), .tree 1 (p2.at_.map (eK .i64)), .tree 1 (p2.keep.map (eK .i64)), .int .i64 p2.cells, .osl 6 v61 0 l60.length, .osl 7 0 0 0], .arr 6 v61 98 (l60.map av.enc), .arr 1 0 3 ([].map (eK .i64))]) _ _ v7 hl2 ?_ ?_
      ·exact ls
      ·rintro ⟨l60, x62⟩ v61 r2 hm hr2;replace hm : dk p1 p2 l60 x62 = some r2 := hm;refine aH ?_;unfold dk at hm;refine ao [] ?_;refine aq fun k6 hk6 => ?_
       by_cases h18 : x62 < (p1.rules.length : Int)
       ·rw [iP h18] at hm;refine af rfl (dT h18) ?_;refine au ?_;refine am (hk6 _ _ ?_);refine aq fun k7 hk7 => ?_;refine az ?_;obtain ⟨hg19a, hm⟩ := gd hm;refine bi (em ah.enc p1.rules x62.toNat) [59, 60, 61, 62] ?_;obtain ⟨hg20a, hm⟩ := gd hm;refine bi (em ap.enc p1.vars (((p1.rules.getD x62.toNat default).out_).toNat)) [63, 64, 65, 66, 67, 68, 69] ?_;refine ao [70, 71] ?_
        by_cases h21 : ((p1.rules.getD x62.toNat default).op) = 13
        ·rw [iP h21] at hm;refine af rfl (eQ h21) ?_;obtain ⟨⟨hg22a, hg22b, hg22c⟩, hm⟩ := gd hm;refine pT (by kernel_rfl) [0, 0, 2, 0, 14, 30, 0, 0, 128, 0, 512, 1536, 3584, 8064, 16256, 0, 65408, 130944, 262143] [false, false, false, false, false, false, false, false, false, false, false, false, false, false, false, false, false, false, true] (by kernel_rfl) fun k hk => ?_;refine gax (a2 (em (eK .i64) p2.keep x62.toNat) (a2 (em (eK .i64) ((p1.rules.getD x62.toNat default).a) 1) (em (eK .i64) p2.at_ ((((p1.rules.getD x62.toNat default).a).getD 1 default).toNat)))) ?_;obtain ⟨y63, hc23, hm⟩ := bd hm;refine AP (fun _ => gg (p2.at_.getD ((((p1.rules.getD x62.toNat default).a).getD 1 default).toNat) default) ((p1.vars.getD (((p1.rules.getD x62.toNat default).out_).toNat) default).n) _ hc23) ?_;refine ga ?_;obtain ⟨y64, hc24, hm⟩ := bd hm;refine ca (σ2 := [.box [.tree 2 (p1.vars.map ap.enc), .tree 1 (p1.in_.map (eK .i64)), .tree 1 (p1.out_.map (eK .i64)), .tree 6 (p1.rules.map ah.enc)], .box [.tree 1 (p2.at_.map (eK .i64)), .tree 1 (p2.keep.map (eK .i64)), .int .i64 p2.cells], .box [.int .i64 0, .nils, .nils, .nils], .box [.int .i64 0, .int .i64 0], .box [.int .i64 ((y1).code), .int .i64 ((y1).at_)], .box [.tree 2 (p1.vars.map ap.enc), .tree 1 (p1.in_.map (eK .i64)), .tree 1 (p1.out_.map (eK .i64)), .tree 6 (p1.rules.map ah.enc), .tree 1 (p2.at_.map (eK .i64)), .tree 1 (p2.keep.map (eK .i64)), .int .i64 p2.cells, .osl 6 (v61 + 1) 0 y64.length, .osl 7 0 0 ([].length)], .arr 6 (v61 + 1) 98 (y64.map av.enc), .arr 1 0 3 ([].map (eK .i64)), .box [.int .i64 ((p1.rules.getD x62.toNat default).op), .int .i64 ((p1.rules.getD x62.toNat default).k), .int .i64 ((p1.rules.getD x62.toNat default).out_), .int .i64 ((p1.rules.getD x62.toNat default).n), .tree 1 (((p1.rules.getD x62.toNat default).a).map (eK .i64)), .tree 4 (((p1.rules.getD x62.toNat default).e).map aj.enc)], .dead]) (res := .t []) (ct [5, 9, 6, 7] (d4 (p2.keep.getD x62.toNat default) ((p1.vars.getD (((p1.rules.getD x62.toNat default).out_).toNat) default).n) p1.vars p1.in_ p1.out_ p1.rules p2.at_ p2.keep p2.cells (lit ([(y63)] : List aj)) l60 [] 0 v61 0 _ hc24)) ?_;refine ga ?_;refine hk _ _ ?_;clear hk k;refine ar ?_;refine am (hk7 _ _ ?_);refine a8 ?_;refine aB (y64, (IntKind.wrap .i64 (x62 + 1))) (v61 + 1) hm ?_;exact ls
        ·rw [iN h21] at hm;refine ai rfl (nB h21) ?_;refine au ?_;refine ar ?_;refine am (hk7 _ _ ?_);refine a8 ?_;refine aB (l60, (IntKind.wrap .i64 (x62 + 1))) v61 hm ?_;exact ls
       ·rw [iN h18] at hm;refine ai rfl (dF h18) ?_;refine bj ?_;have ho25 := aA hm hr2;subst ho25;replace hm : hO p1 p2 l60 = some r := hm2;refine aY (aQ (aF ?_));refine aw l60 v61 hm ?_;exact ls
     ·rintro l10 v11 hm;replace hm : hO p1 p2 l10 = some r := hm;refine aH ?_;unfold hO at hm;refine aL [93, 94, 95, 96] fun k kp hk hp => ?_;refine go ?_;refine gm (bw 8 rfl) ?_;refine gt ?_;obtain ⟨y12, hc7, hm⟩ := bd hm;refine RA (jW 0 0 (lit ([(aj.mk 1 0 0 1)] : List aj)) p1.vars p1.in_ p1.out_ p1.rules p2.at_ p2.keep p2.cells l10 [] v11 0 _ hc7) [5, 6, 7] ?_;rintro p σ' ⟨rfl, rfl⟩ _;refine aa ?_;refine go ?_;refine hk _ _ ?_;clear hk hp k kp;refine aI (S := (List Int)) (V := (Nat × Nat)) [15, 97, 98, 99, 100, 101, 102, 103, 104, 105, 106, 107, 108, 109, 110, 111, 112, 113, 114, 115, 116, 117, 118, 119, 120, 121, 122, 123, 124] (fun l17 (v16, v18) => []) (fun l17 (v16, v18) => [.box [.tree 2 (p1.vars.map ap.enc), .tree 1 (p1.in_.map (eK .i64)), .tree 1 (p1.out_.map (eK .i64)), .tree 6 (p1.rules.map ah.enc)], .box [.tree 1 (p2.at_.map (eK .i64)), .tree 1 (p2.keep.map (eK .i64)), .int .i64 p2.cells], .box [.int .i64 0, .nils, .nils, .nils], .box [.int .i64 0, .int .i64 0], .box [.int .i64 ((y1).code), .int .i64 ((y1).at_)], .box [.tree 2 (p1.vars.map ap.enc), .tree 1 (p1.in_.map (eK .i64)), .tree 1 (p1.out_.map (eK .i64)), .tree 6 (p1.rules.map ah.enc), .tree 1 (p2.at_.map (eK .i64)), .tree 1 (p2.keep.map (eK .i64)), .int .i64 p2.cells, .osl 6 v16 0 y12.length, .osl 7 v18 0 l17.length], .arr 6 v16 98 (y12.map av.enc), .arr 1 v18 3 (l17.map (eK .i64)), .dead]) (fun l17 => hN p1 p2 y12 l17 = some r) ?_ ?_
      ·skip;refine ao [97] ?_
       refine az ?_;obtain ⟨o1, hl1, hm1⟩ := bd hm;refine aZ (S := ((List Int) × Int)) (V := (Nat × Nat)) (O := (List Int)) [15, 100, 101, 102, 103, 104, 105, 106, 107, 108, 109, 110, 111, 112, 113, 114, 115, 116, 117, 118, 119, 120, 121, 122, 123, 124] (fun (l41, x43) (v40, v42) => [(100, .c (.int .i64 x43))]) (fun (l41, x43) (v40, v42) => [.box [.tree 2 (p1.vars.map ap.enc), .tree 1 (p1.in_.map (eK .i64)), .tree 1 (p1.out_.map (eK .i64)), .tree 6 (p1.rules.map ah.enc)], .box [.tree 1 (p2.at_.map (eK .i64)), .tree 1 (p2.keep.map (eK .i64)), .int .i64 p2.cells], .box [.int .i64 0, .nils, .nils, .nils], .box [.int .i64 0, .int .i64 0], .box [.int .i64 ((y1).code), .int .i64 ((y1).at_)], .box [.tree 2 (p1.vars.map ap.enc), .tree 1 (p1.in_.map (eK .i64)), .tree 1 (p1.out_.map (eK .i64)), .tree 6 (p1.rules.map ah.enc), .tree 1 (p2.at_.map (eK .i64)), .tree 1 (p2.keep.map (eK .i64)), .int .i64 p2.cells, .osl 6 v40 0 y12.length, .osl 7 v42 0 l41.length], .arr 6 v40 98 (y12.map av.enc), .arr 1 v42 3 (l41.map (eK .i64)), .dead]) _ _ (v11 + 1, 0) hl1 ?_ ?_
       ·exact ls
       ·rintro ⟨l41, x43⟩ ⟨v40, v42⟩ r1 hm hr1;replace hm : dj p1 p2 l41 x43 = some r1 := hm;refine aH ?_;unfold dj at hm;refine ao [] ?_;refine aq fun k4 hk4 => ?_
        by_cases h11 : x43 < (p1.in_.length : Int)
        ·rw [iP h11] at hm;refine af rfl (dT h11) ?_;refine au ?_;refine am (hk4 _ _ ?_);refine aq fun k5 hk5 => ?_;refine az ?_;obtain ⟨hg12a, hm⟩ := gd hm;refine bi (em (eK .i64) p1.in_ x43.toNat) [101, 102, 103] ?_;obtain ⟨hg13a, hm⟩ := gd hm;refine bi (em ap.enc p1.vars ((p1.in_.getD x43.toNat default).toNat)) [104, 105, 106, 107, 108, 109] ?_
         by_cases h14 : ((p1.vars.getD ((p1.in_.getD x43.toNat default).toNat) default).elem) = 98
         ·rw [iP h14] at hm;refine af rfl (eQ h14) ?_;refine wT (by kernel_rfl) [7] [0, 0, 2, 6, 14, 0, 0, 0, 128, 480, 1022, 2047, 4095, 8191] [false, false, false, false, false, false, false, false, false, false, false, true, true, true] [false, false, false, false, false, false, false, false, false, false, true, false, false, false] [[8], [], [], [], [], [], [], [], [], [], [], [], [], []] (by kernel_rfl) fun k hk => ?_;refine gp ?_;obtain ⟨y44, hc15, hm⟩ := bd hm;refine cap (σ2 := [.box [.tree 2 (p1.vars.map ap.enc), .tree 1 (p1.in_.map (eK .i64)), .tree 1 (p1.out_.map (eK .i64)), .tree 6 (p1.rules.map ah.enc)], .box [.tree 1 (p2.at_.map (eK .i64)), .tree 1 (p2.keep.map (eK .i64)), .int .i64 p2.cells], .box [.int .i64 0, .nils, .nils, .nils], .box [.int .i64 0, .int .i64 0], .box [.int .i64 ((y1).code), .int .i64 ((y1).at_)], .box [.tree 2 (p1.vars.map ap.enc), .tree 1 (p1.in_.map (eK .i64)), .tree 1 (p1.out_.map (eK .i64)), .tree 6 (p1.rules.map ah.enc), .tree 1 (p2.at_.map (eK .i64)), .tree 1 (p2.keep.map (eK .i64)), .int .i64 p2.cells, .osl 6 v40 0 y12.length, .osl 7 v42 0 l41.length], .arr 6 v40 98 (y12.map av.enc), .arr 1 v42 3 (l41.map (eK .i64)), .dead, .arr 1 0 3 ((lit ([(p1.in_.getD x43.toNat default)] : List Int)).map (eK .i64))]) (res := .c (.tree 1 (y44.map (eK .i64)))) (ct [9] (qj p1 p2 (lit ([(p1.in_.getD x43.toNat default)] : List Int)) 0 _ hc15)) ?_;obtain ⟨⟨hg16ax, hg16ay⟩, hm⟩ := gd hm;refine gp ?_;refine hk _ _ ?_;clear hk k;refine ar ?_;refine am (hk5 _ _ ?_);refine a8 ?_;refine aB ((l41 ++ y44), (IntKind.wrap .i64 (x43 + 1))) (v40, v42 + 1) hm ?_;exact ls
         ·rw [iN h14] at hm;refine ai rfl (nB h14) ?_;refine au ?_;refine ar ?_;refine am (hk5 _ _ ?_);refine a8 ?_;refine aB (l41, (IntKind.wrap .i64 (x43 + 1))) (v40, v42) hm ?_;exact ls
        ·rw [iN h11] at hm;refine ai rfl (dF h11) ?_;refine bj ?_;have ho17 := aA hm hr1;subst ho17;replace hm : hN p1 p2 y12 l41 = some r := hm1;refine aY (aQ (aF ?_));refine aw l41 (v40, v42) hm ?_;exact ls
      ·rintro l17 ⟨v16, v18⟩ hm;replace hm : hN p1 p2 y12 l17 = some r := hm;refine aH ?_;unfold hN at hm;refine qw [2, 3, 8, 125, 126, 127, 128, 129, 130, 131, 132, 133, 134, 135, 136, 137, 138, 139, 140, 141, 142, 143, 144, 145, 146] (by kernel_rfl) [2] [0, 1, 0, 0, 0, 16, 60, 0, 0, 0, 512, 2044, 0, 4096, 12288, 28672, 65535, 0, 131072, 393216, 917504, 0, 131071, 6291455, 16777215] [false, false, false, false, false, false, false, false, false, false, false, false, false, false, false, false, false, false, false, false, false, false, false, false, true] [false, false, false, false, false, false, false, false, false, false, false, false, false, false, false, false, false, false, false, false, false, false, true, false, false] [[], [], [], [], [], [], [], [], [], [], [], [], [], [], [], [], [], [8], [142], [143], [144], [], [], [], []] (by kernel_rfl) fun k hk => ?_;refine gp ?_;obtain ⟨y19, hc9, hm⟩ := bd hm;refine pap (fun _ => lK p1 p2 p1.in_ _ hc9) ?_;refine gp ?_;obtain ⟨y20, hc10, hm⟩ := bd hm;refine pap (fun _ => lK p1 p2 p1.out_ _ hc10) ?_;refine gp ?_;refine hk _ _ ?_;clear hk k;refine iZ (bw 6 rfl) ?_;refine iZ (bw 7 rfl) ?_;refine ak ?_
       cases hm
       exact kr 0
   ·rw [iN h6] at hm;refine af rfl (by rw [show y3 = false from (fB h6)]; rfl) ?_;refine ao [2, 3, 31, 32, 33] ?_
    refine bD (eI 2 [.int .i64 0, .tree 1 ([].map (eK .i64)), .tree 1 ([].map (eK .i64)), .tree 6 ([].map av.enc)] rfl (by and_intros <;> trivial)) ?_
    refine jV rfl (by simp only [bZ, bL, reduceIte, ↓reduceIte, reduceCtorEq, Int.reduceToNat, Nat.reduceDiv, Nat.reduceMod, Nat.reduceLT, Nat.reduceLeDiff, Nat.reduceAdd, Nat.reduceSub, Nat.reduceMul, Nat.reduceEqDiff, Nat.reduceBEq, Nat.reduceBNe, Nat.reduceGT]; rfl) ?_
    refine bD (ex 5 (.c (.tree 1 (([] : List _).map (eK .i64)))) rfl (by and_intros <;> trivial)) ?_
    refine nm ?_;refine ak ?_;refine ag ?_
    cases hm
    exact kr 0
  ·rw [iN h4] at hm;refine af rfl (by rw [show y2 = false from (fB h4)]; rfl) ?_;refine ao [2, 3, 25, 26, 27] ?_
   refine bD (eI 2 [.int .i64 0, .tree 1 ([].map (eK .i64)), .tree 1 ([].map (eK .i64)), .tree 6 ([].map av.enc)] rfl (by and_intros <;> trivial)) ?_
   refine jV rfl (by simp only [bZ, bL, reduceIte, ↓reduceIte, reduceCtorEq, Int.reduceToNat, Nat.reduceDiv, Nat.reduceMod, Nat.reduceLT, Nat.reduceLeDiff, Nat.reduceAdd, Nat.reduceSub, Nat.reduceMul, Nat.reduceEqDiff, Nat.reduceBEq, Nat.reduceBNe, Nat.reduceGT]; rfl) ?_
   refine bD (ex 5 (.c (.tree 1 (([] : List _).map (eK .i64)))) rfl (by and_intros <;> trivial)) ?_
   refine nm ?_;refine ak ?_;refine ag ?_
   cases hm
   exact kr 0
theorem pm (r : Bool) (hm : iB  = some r) : bu Try.prog 18 [] (.c (.bool r)) := by
 refine aG 62 [.tmp 0] Try.func18 rfl rfl rfl (by kernel_rfl) (by simp) ?_;refine bk ?_;unfold iB at hm;refine ao [0] ?_;refine ao [7, 8] ?_;refine bz [1, 2, 9, 10, 11, 12, 13, 14, 15, 16, 17, 18] fun k kp hk hp => ?_;refine an 8 ?_;refine go ?_
 refine eo (ex 16 (.a [.int .i64 14, .int .i64 0, .int .i64 1, .int .i64 0, .tree 1 ([].map (eK .i64)), .osl 5 0 0 1]) (by first | rfl | (simp only [bR, bT, tab, bX, reduceIte, ↓reduceIte, reduceCtorEq, Int.reduceToNat, Nat.reduceDiv, Nat.reduceMod, Nat.reduceLT, Nat.reduceLeDiff, Nat.reduceAdd, Nat.reduceSub, Nat.reduceMul, Nat.reduceEqDiff, Nat.reduceBEq, Nat.reduceBNe, Nat.reduceGT]; done)) (by and_intros <;> trivial)) ?_
 simp only [bE, Nat.reduceDiv, Nat.reduceMod, Nat.reduceLT, Nat.reduceLeDiff, Nat.reduceAdd, Nat.reduceSub, Nat.reduceMul, Nat.reduceEqDiff, Nat.reduceBEq, Nat.reduceBNe, Nat.reduceGT, Int.reduceToNat];refine an 0 ?_;refine go ?_;refine eo (bw 5 rfl) ?_;refine gz ?_;refine aa ?_;refine go ?_;refine hk _ _ ?_;clear hk hp k kp;refine i2 [.box [.int .u8 105, .int .i64 8], .box [.int .u8 105, .int .i64 3], .arr 2 0 63 ((lit ([(ap.mk 105 8), (ap.mk 105 3)] : List ap)).map ap.enc), .arr 1 0 3 ((lit ([0] : List Int)).map (eK .i64)), .arr 1 0 3 ((lit ([1] : List Int)).map (eK .i64)), .dead, .arr 6 0 39 ((lit ([(ah.mk 14 0 1 0 [] (lit ([(aj.mk 3 0 0 1)] : List aj)))] : List ah)).map ah.enc), .box [.osl 2 0 0 2, .osl 3 0 0 1, .osl 4 0 0 1, .osl 6 0 0 1]] ?_;refine aL [3, 19, 20, 21, 22, 23, 24, 25, 26, 27] fun k kp hk hp => ?_;refine go ?_;refine gm (bw 2 rfl) ?_;refine gt ?_;refine gm (bw 3 rfl) ?_;refine gt ?_;refine gm (bw 4 rfl) ?_;refine gt ?_;refine gm (bw 6 rfl) ?_;refine gt ?_;refine gm (bw 8 rfl) ?_;refine gt ?_;refine gm (bw 9 rfl) ?_;refine gt ?_;obtain ⟨y1, hc1, hm⟩ := bd hm;refine RP (fun _ => od (ae.mk (lit ([(ap.mk 105 8), (ap.mk 105 3)] : List ap)) (lit ([0] : List Int)) (lit ([1] : List Int)) (lit ([(ah.mk 14 0 1 0 [] (lit ([(aj.mk 3 0 0 1)] : List aj)))] : List ah))) (aK.mk (lit ([1, 9] : List Int)) (lit ([(-1)] : List Int)) 12) _ hc1) ?_;refine aa ?_;refine go ?_;refine hk _ _ ?_;clear hk hp k kp;refine bz [4, 5, 6, 28, 29, 30, 31, 32, 33, 34, 35, 36, 37, 38, 39, 40, 41, 42, 43, 44, 45, 46, 47, 48, 49, 50, 51, 52, 53, 54, 55, 56, 57, 58, 59, 60, 61] fun k kp hk hp => ?_;refine an 4 ?_;refine go ?_
 by_cases h2 : ((y1.2.2).code) = 0
 ·rw [iP h2] at hm;have h2b := eQ h2;refine an 5 ?_;refine gox h2b ?_
  by_cases h3 : (y1.2.1.length : Int) = 0
  ·rw [iP h3] at hm;have h3b := eQ h3;refine an 6 ?_;refine gox (a2 h2b h3b) ?_
   by_cases h4 : (((y1.1).steps).length : Int) = 2
   ·rw [iP h4] at hm;have h4b := eQ h4;obtain ⟨hg5a, hm⟩ := gd hm;refine an 9 ?_;refine gox (a2 (em av.enc ((y1.1).steps) 0) (a2 h2b (a2 h3b h4b))) ?_
    by_cases h6 : (((((y1.1).steps).getD 0 default).e).length : Int) = 1
    ·rw [iP h6] at hm;have h6b := eQ h6;obtain ⟨hg7a, hm⟩ := gd hm;refine aa ?_;refine gox (a2 (em av.enc ((y1.1).steps) 0) (a2 (em aj.enc ((((y1.1).steps).getD 0 default).e) 0) (a2 h2b (a2 h3b (a2 h4b h6b))))) ?_;refine hk _ _ ?_;clear hk hp k kp;refine ak ?_
     cases hm
     exact kr 0
    ·rw [iN h6] at hm;have h6b := nB h6;refine aa ?_;refine gox (a2 h2b (a2 h3b (a2 h4b h6b))) ?_;refine hk _ _ ?_;clear hk hp k kp;refine ak ?_
     cases hm
     exact kr 0
   ·rw [iN h4] at hm;have h4b := nB h4;refine aa ?_;refine gox (a2 h2b (a2 h3b h4b)) ?_;refine hk _ _ ?_;clear hk hp k kp;refine ak ?_
    cases hm
    exact kr 0
  ·rw [iN h3] at hm;have h3b := nB h3;refine aa ?_;refine gox (a2 h2b h3b) ?_;refine hk _ _ ?_;clear hk hp k kp;refine ak ?_
   cases hm
   exact kr 0
 ·rw [iN h2] at hm;have h2b := nB h2;refine aa ?_;refine gox h2b ?_;refine hk _ _ ?_;clear hk hp k kp;refine ak ?_
  cases hm
  exact kr 0
theorem bN (p1 : Int) (p2 : Int) (r : ay) (hm : ep p1 p2 = some r) : bu Try.prog 28 [.c (.int .i64 p1), .c (.int .i64 p2)] (.a [.int .i64 ((r).code), .int .i64 ((r).at_)]) := by
 refine aG 8 [.cell 4 30] Try.func28 rfl rfl rfl (by kernel_rfl) (by simp) ?_;refine bk ?_;unfold ep at hm;refine ao [] ?_;refine ao [0, 1, 5, 6, 7] ?_;refine ak ?_
 cases hm
 exact kr 0
theorem jp (p1 : List Int) (p2 : Int) (r : Bool) (hm : kA p1 p2 = some r) : bu Try.prog 17 [.c (.tree 1 (p1.map (eK .i64))), .c (.int .i64 p2)] (.c (.bool r)) := by
 refine aG 18 [.tmp 4] Try.func17 rfl rfl rfl (by kernel_rfl) (by simp) ?_;refine bk ?_;unfold kA at hm;refine ao [4] ?_;refine aI (S := Unit) (V := Unit) [0, 1, 4, 5, 6, 7, 8, 9, 10, 11, 12, 13, 14, 15, 16, 17] (fun _ _ => []) (fun _ _ => []) (fun _ => mb = some r) ?_ ?_
 ·skip;refine ao [] ?_
  refine az ?_;obtain ⟨o1, hl1, hm1⟩ := bd hm;refine aZ (S := Int) (V := Unit) (O := Unit ⊕ Bool) [4, 5, 6, 7, 8, 9, 10, 11, 12, 13, 14, 15, 16, 17] (fun x3 _ => [(5, .c (.int .i64 x3))]) (fun x3 _ => []) _ _ () hl1 ?_ ?_
  ·exact ls
  ·rintro x3 _ r1 hm hr1;replace hm : mc p1 p2 x3 = some r1 := hm;refine aH ?_;unfold mc at hm;refine aq fun k1 hk1 => ?_;refine ao [6, 7, 8] ?_
   by_cases h1 : x3 < (p1.length : Int)
   ·rw [iP h1] at hm;refine af rfl (dT h1) ?_;refine au ?_;refine am (hk1 _ _ ?_);refine aq fun k2 hk2 => ?_;refine az ?_;obtain ⟨hg2a, hm⟩ := gd hm;refine bi (em (eK .i64) p1 x3.toNat) [9, 12, 13, 14, 15, 16] ?_
    by_cases h3 : (p1.getD x3.toNat default) = p2
    ·rw [iP h3] at hm;refine af rfl (eQ h3) ?_;refine ao [0, 1, 5, 17] ?_;have ho4 := aA hm hr1;subst ho4;replace hm : some true = some r := hm1;refine ak ?_;refine ab (ag (aD (ab (ax ?_))))
     cases hm
     exact kr 0
    ·rw [iN h3] at hm;refine ai rfl (nB h3) ?_;refine au ?_;refine ar ?_;refine am (hk2 _ _ ?_);refine a8 ?_;refine aB (IntKind.wrap .i64 (x3 + 1)) () hm ?_;exact ls
   ·rw [iN h1] at hm;refine ai rfl (dF h1) ?_;refine bj ?_;have ho5 := aA hm hr1;subst ho5;replace hm : mb = some r := hm1;refine aY (aQ (aF ?_));refine aw () () hm ?_;exact ls
 ·rintro _ _ hm;replace hm : mb = some r := hm;refine aH ?_;unfold mb at hm;refine ao [] ?_;refine ak ?_
  cases hm
  exact kr 0
theorem rT (p1 : ae) (r : ay) (hm : lh p1 = some r) : bu Try.prog 47 [.a [.tree 2 (p1.vars.map ap.enc), .tree 1 (p1.in_.map (eK .i64)), .tree 1 (p1.out_.map (eK .i64)), .tree 6 (p1.rules.map ah.enc)]] (.a [.int .i64 ((r).code), .int .i64 ((r).at_)]) := by
 refine aG 136 [.cell 2 30] Try.func47 rfl rfl rfl (by kernel_rfl) (by simp) ?_;refine bk ?_;unfold lh at hm;refine ao [0] ?_;refine aq fun k1 hk1 => ?_;refine bz [6, 7, 8, 9, 10, 11, 12, 13, 14, 15, 16, 17, 18, 19, 20, 21, 22, 23, 24, 25, 26] fun k kp hk hp => ?_;refine an 5 ?_;refine go ?_
 by_cases h1 : (p1.vars.length : Int) > 400
 ·rw [iP h1] at hm;have h1b := dT h1;refine aa ?_;refine gox h1b ?_;refine hk _ _ ?_;clear hk hp k kp;refine af rfl rfl ?_;refine aL [1, 27, 28] fun k kp hk hp => ?_;refine go ?_;obtain ⟨y1, hc2, hm⟩ := bd hm;refine RP (fun _ => bN 7 (-1) _ hc2) ?_;refine aa ?_;refine go ?_;refine hk _ _ ?_;clear hk hp k kp;refine ak ?_;refine ag ?_
  cases hm
  exact kr 0
 ·rw [iN h1] at hm;have h1b := dF h1;refine an 6 ?_;refine gox h1b ?_
  by_cases h3 : (p1.in_.length : Int) > 400
  ·rw [iP h3] at hm;have h3b := dT h3;refine aa ?_;refine gox (a2 h1b h3b) ?_;refine hk _ _ ?_;clear hk hp k kp;refine af rfl rfl ?_;refine aL [1, 27, 28] fun k kp hk hp => ?_;refine go ?_;obtain ⟨y2, hc4, hm⟩ := bd hm;refine RP (fun _ => bN 7 (-1) _ hc4) ?_;refine aa ?_;refine go ?_;refine hk _ _ ?_;clear hk hp k kp;refine ak ?_;refine ag ?_
   cases hm
   exact kr 0
  ·rw [iN h3] at hm;have h3b := dF h3;refine an 6 ?_;refine gox (a2 h1b h3b) ?_
   by_cases h5 : (p1.out_.length : Int) > 400
   ·rw [iP h5] at hm;have h5b := dT h5;refine aa ?_;refine gox (a2 h1b (a2 h3b h5b)) ?_;refine hk _ _ ?_;clear hk hp k kp;refine af rfl rfl ?_;refine aL [1, 27, 28] fun k kp hk hp => ?_;refine go ?_;obtain ⟨y3, hc6, hm⟩ := bd hm;refine RP (fun _ => bN 7 (-1) _ hc6) ?_;refine aa ?_;refine go ?_;refine hk _ _ ?_;clear hk hp k kp;refine ak ?_;refine ag ?_
    cases hm
    exact kr 0
   ·rw [iN h5] at hm;have h5b := dF h5;refine aa ?_;refine gox (a2 h1b (a2 h3b h5b)) ?_;refine hk _ _ ?_;clear hk hp k kp
    by_cases h7 : (p1.rules.length : Int) > 400
    ·rw [iP h7] at hm;refine af rfl (dT h7) ?_;refine aL [1, 27, 28] fun k kp hk hp => ?_;refine go ?_;obtain ⟨y4, hc8, hm⟩ := bd hm;refine RP (fun _ => bN 7 (-1) _ hc8) ?_;refine aa ?_;refine go ?_;refine hk _ _ ?_;clear hk hp k kp;refine ak ?_;refine ag ?_
     cases hm
     exact kr 0
    ·rw [iN h7] at hm;refine ai rfl (dF h7) ?_;refine au ?_;refine am (hk1 _ _ ?_);refine aI (S := Unit) (V := Unit) [3, 27, 29, 30, 31, 32, 33, 34, 35, 36, 37, 38, 39, 40, 41, 42, 43, 44, 45, 46, 47, 48, 49, 50, 51, 52, 53, 54, 55, 56, 57, 58, 59, 60, 61, 62, 63, 64, 65, 66, 67, 68, 69, 70, 71, 72, 73] (fun _ _ => []) (fun _ _ => [.box [.tree 2 (p1.vars.map ap.enc), .tree 1 (p1.in_.map (eK .i64)), .tree 1 (p1.out_.map (eK .i64)), .tree 6 (p1.rules.map ah.enc)], .box [.int .i64 0, .int .i64 0]]) (fun _ => eq p1 = some r) ?_ ?_
     ·skip;refine ao [27] ?_
      refine az ?_;obtain ⟨o3, hl3, hm3⟩ := bd hm;refine aZ (S := Int) (V := Unit) (O := Unit ⊕ ay) [3, 29, 30, 31, 32, 33, 34, 35, 36, 37, 38, 39, 40, 41, 42, 43, 44, 45, 46, 47, 48, 49, 50, 51, 52, 53, 54, 55, 56, 57, 58, 59, 60, 61, 62, 63, 64, 65, 66, 67, 68, 69, 70, 71, 72, 73] (fun x21 _ => [(3, .c (.int .i64 x21))]) (fun x21 _ => [.box [.tree 2 (p1.vars.map ap.enc), .tree 1 (p1.in_.map (eK .i64)), .tree 1 (p1.out_.map (eK .i64)), .tree 6 (p1.rules.map ah.enc)], .box [.int .i64 0, .int .i64 0]]) _ _ () hl3 ?_ ?_
      ·exact ls
      ·rintro x21 _ r3 hm hr3;replace hm : hQ p1 x21 = some r3 := hm;refine aH ?_;unfold hQ at hm;refine aq fun k7 hk7 => ?_;refine ao [29, 30, 31, 32] ?_
       by_cases h32 : x21 < (p1.vars.length : Int)
       ·rw [iP h32] at hm;refine af rfl (dT h32) ?_;refine au ?_;refine am (hk7 _ _ ?_);refine aq fun k8 hk8 => ?_;refine az ?_;refine aI (S := Unit) (V := Unit) [33, 36, 37, 38, 39, 40, 41, 42, 43, 44, 45, 46, 47, 48, 49, 50, 51, 52, 53, 54] (fun _ _ => []) (fun _ _ => [.box [.tree 2 (p1.vars.map ap.enc), .tree 1 (p1.in_.map (eK .i64)), .tree 1 (p1.out_.map (eK .i64)), .tree 6 (p1.rules.map ah.enc)], .box [.int .i64 0, .int .i64 0]]) (fun _ => fK p1 x21 = some r3) ?_ ?_
        ·skip;obtain ⟨hg40a, hm⟩ := gd hm
         refine bz [33, 36, 37, 38, 39, 40, 41, 42, 43, 44, 45, 46, 47, 48, 49, 50] fun k kp hk hp => ?_;refine an 8 ?_;refine gox (em ap.enc p1.vars x21.toNat) ?_
         by_cases h41 : ¬ ((p1.vars.getD x21.toNat default).elem) = 105
         ·rw [iP h41] at hm;have h41b := bne_iff_ne.2 h41;refine aa ?_;refine gox (a2 (em ap.enc p1.vars x21.toNat) h41b) ?_;refine hk _ _ ?_;clear hk hp k kp
          by_cases h42 : ¬ ((p1.vars.getD x21.toNat default).elem) = 98
          ·rw [iP h42] at hm;refine af rfl (bne_iff_ne.2 h42) ?_;refine aL [1, 3, 51, 52, 53, 54] fun k kp hk hp => ?_;refine go ?_;obtain ⟨y24, hc43, hm⟩ := bd hm;refine RP (fun _ => bN 10 (IntKind.wrap .i64 ((-2) - x21)) _ hc43) ?_;refine aa ?_;refine go ?_;refine hk _ _ ?_;clear hk hp k kp;have ho44 := aA hm hr3;subst ho44;replace hm : some (y24) = some r := hm3;refine ak ?_;refine ax (ab (ag (aD (ab (ax ?_)))))
           cases hm
           exact kr 0
          ·rw [iN h42] at hm;refine ai rfl (bne_eq_false_iff_eq.2 (Decidable.not_not.1 h42)) ?_;refine au ?_;refine aw () () hm ?_;exact ls
         ·rw [iN h41] at hm;have h41b : (((p1.vars.getD x21.toNat default).elem) != 105) = false := bne_eq_false_iff_eq.2 (Decidable.not_not.1 h41);refine aa ?_;refine gox h41b ?_;refine hk _ _ ?_;clear hk hp k kp;refine ai rfl rfl ?_;refine au ?_;refine aw () () hm ?_;exact ls
        ·rintro _ _ hm;replace hm : fK p1 x21 = some r3 := hm;refine aH ?_;unfold fK at hm;obtain ⟨hg33a, hm⟩ := gd hm;refine bz [55, 56, 57, 58, 59, 60, 61, 62, 63, 64, 65, 66, 67, 68, 69] fun k kp hk hp => ?_;refine an 8 ?_;refine gox (em ap.enc p1.vars x21.toNat) ?_
         by_cases h34 : ((p1.vars.getD x21.toNat default).n) < 0
         ·rw [iP h34] at hm;have h34b := dT h34;refine aa ?_;refine gox h34b ?_;refine hk _ _ ?_;clear hk hp k kp;refine af rfl rfl ?_;refine aL [1, 3, 70, 71, 72, 73] fun k kp hk hp => ?_;refine go ?_;obtain ⟨y22, hc35, hm⟩ := bd hm;refine RP (fun _ => bN 13 (IntKind.wrap .i64 ((-2) - x21)) _ hc35) ?_;refine aa ?_;refine go ?_;refine hk _ _ ?_;clear hk hp k kp;have ho36 := aA hm hr3;subst ho36;replace hm : some (y22) = some r := hm3;refine ak ?_;refine ab (ag (aD (ab (ax ?_))))
          cases hm
          exact kr 0
         ·rw [iN h34] at hm;have h34b := dF h34;refine aa ?_;refine gox (a2 (em ap.enc p1.vars x21.toNat) h34b) ?_;refine hk _ _ ?_;clear hk hp k kp
          by_cases h37 : ((p1.vars.getD x21.toNat default).n) > 300
          ·rw [iP h37] at hm;refine af rfl (dT h37) ?_;refine aL [1, 3, 70, 71, 72, 73] fun k kp hk hp => ?_;refine go ?_;obtain ⟨y23, hc38, hm⟩ := bd hm;refine RP (fun _ => bN 13 (IntKind.wrap .i64 ((-2) - x21)) _ hc38) ?_;refine aa ?_;refine go ?_;refine hk _ _ ?_;clear hk hp k kp;have ho39 := aA hm hr3;subst ho39;replace hm : some (y23) = some r := hm3;refine ak ?_;refine ab (ag (aD (ab (ax ?_))))
           cases hm
           exact kr 0
          ·rw [iN h37] at hm;refine ai rfl (dF h37) ?_;refine au ?_;refine ar ?_;refine am (hk8 _ _ ?_);refine a8 ?_;refine aB (IntKind.wrap .i64 (x21 + 1)) () hm ?_;exact ls
       ·rw [iN h32] at hm;refine ai rfl (dF h32) ?_;refine bj ?_;have ho45 := aA hm hr3;subst ho45;replace hm : eq p1 = some r := hm3;refine aY (aQ (aF ?_));refine aw () () hm ?_;exact ls
     ·rintro _ _ hm;replace hm : eq p1 = some r := hm;refine aH ?_;unfold eq at hm;refine aI (S := Unit) (V := Unit) [4, 74, 75, 76, 77, 78, 79, 80, 81, 82, 83, 84, 85, 86, 87, 88, 89, 90, 91, 92, 93, 94, 95, 96, 97, 98, 99, 100, 101, 102, 103, 104, 105, 106, 107, 108, 109] (fun _ _ => []) (fun _ _ => [.box [.tree 2 (p1.vars.map ap.enc), .tree 1 (p1.in_.map (eK .i64)), .tree 1 (p1.out_.map (eK .i64)), .tree 6 (p1.rules.map ah.enc)], .box [.int .i64 0, .int .i64 0]]) (fun _ => fJ p1 = some r) ?_ ?_
      ·skip;refine ao [] ?_
       refine az ?_;obtain ⟨o2, hl2, hm2⟩ := bd hm;refine aZ (S := Int) (V := Unit) (O := Unit ⊕ ay) [4, 74, 75, 76, 77, 78, 79, 80, 81, 82, 83, 84, 85, 86, 87, 88, 89, 90, 91, 92, 93, 94, 95, 96, 97, 98, 99, 100, 101, 102, 103, 104, 105, 106, 107, 108, 109] (fun x13 _ => [(4, .c (.int .i64 x13))]) (fun x13 _ => [.box [.tree 2 (p1.vars.map ap.enc), .tree 1 (p1.in_.map (eK .i64)), .tree 1 (p1.out_.map (eK .i64)), .tree 6 (p1.rules.map ah.enc)], .box [.int .i64 0, .int .i64 0]]) _ _ () hl2 ?_ ?_
       ·exact ls
       ·rintro x13 _ r2 hm hr2;replace hm : i6 p1 x13 = some r2 := hm;refine aH ?_;unfold i6 at hm;refine aq fun k4 hk4 => ?_;refine ao [74, 75, 76, 77] ?_
        by_cases h18 : x13 < (p1.in_.length : Int)
        ·rw [iP h18] at hm;refine af rfl (dT h18) ?_;refine au ?_;refine am (hk4 _ _ ?_);refine aq fun k5 hk5 => ?_;refine az ?_;refine aq fun k6 hk6 => ?_;obtain ⟨hg19a, hm⟩ := gd hm;refine cS [78, 81, 82, 83, 84, 85, 86, 87, 88, 89, 90, 91, 92, 93, 94, 95, 96] (by kernel_rfl) [0, 1, 0, 7, 15, 31, 63, 127, 255, 127, 1023, 2047, 127, 4223, 12415, 32767, 65535] [false, false, false, true, true, true, true, false, false, false, false, false, false, false, false, true, true] (by kernel_rfl) fun k hk => ?_;refine c8 7 rfl ?_;refine gax (em (eK .i64) p1.in_ x13.toNat) ?_
         by_cases h20 : (p1.in_.getD x13.toNat default) < 0
         ·rw [iP h20] at hm;have h20b := dT h20;refine aM ?_;refine gax h20b ?_;refine hk _ _ ?_;clear hk k;refine af rfl rfl ?_;refine aL [1, 4, 97, 98] fun k kp hk hp => ?_;refine go ?_;obtain ⟨y14, hc21, hm⟩ := bd hm;refine RP (fun _ => bN 16 (-1) _ hc21) ?_;refine aa ?_;refine go ?_;refine hk _ _ ?_;clear hk hp k kp;have ho22 := aA hm hr2;subst ho22;replace hm : some (y14) = some r := hm2;refine ak ?_;refine ag (ab (ag (aD (ab (ax ?_)))))
          cases hm
          exact kr 0
         ·rw [iN h20] at hm;have h20b := dF h20;refine aM ?_;refine gax (a2 (em (eK .i64) p1.in_ x13.toNat) h20b) ?_;refine hk _ _ ?_;clear hk k
          by_cases h23 : (p1.in_.getD x13.toNat default) ≥ (p1.vars.length : Int)
          ·rw [iP h23] at hm;refine af rfl (dT h23) ?_;refine aL [1, 4, 97, 98] fun k kp hk hp => ?_;refine go ?_;obtain ⟨y15, hc24, hm⟩ := bd hm;refine RP (fun _ => bN 16 (-1) _ hc24) ?_;refine aa ?_;refine go ?_;refine hk _ _ ?_;clear hk hp k kp;have ho25 := aA hm hr2;subst ho25;replace hm : some (y15) = some r := hm2;refine ak ?_;refine ag (ab (ag (aD (ab (ax ?_)))))
           cases hm
           exact kr 0
          ·rw [iN h23] at hm;refine ai rfl (dF h23) ?_;refine au ?_;refine am (hk6 _ _ ?_);obtain ⟨hg26a, hm⟩ := gd hm;refine jx [97, 99, 100, 101, 102, 103, 104, 105, 106, 107] (by kernel_rfl) [0, 1, 0, 7, 0, 16, 0, 112, 240, 511] [false, false, false, false, false, false, false, false, false, true] (by kernel_rfl) fun k hk => ?_;refine gax (em (eK .i64) p1.in_ x13.toNat) ?_;obtain ⟨y16, hc27, hm⟩ := bd hm;refine AP (fun _ => jp (p1.in_.take x13.toNat) (p1.in_.getD x13.toNat default) _ hc27) ?_;refine gax (em (eK .i64) p1.in_ x13.toNat) ?_;refine hk _ _ ?_;clear hk k
           by_cases h28 : y16 = true
           ·rw [iP h28] at hm;refine af rfl (h28) ?_;refine aL [1, 4, 108, 109] fun k kp hk hp => ?_;refine go ?_;obtain ⟨y17, hc29, hm⟩ := bd hm;refine RP (fun _ => bN 8 (-1) _ hc29) ?_;refine aa ?_;refine go ?_;refine hk _ _ ?_;clear hk hp k kp;have ho30 := aA hm hr2;subst ho30;replace hm : some (y17) = some r := hm2;refine ak ?_;refine ab (ag (aD (ab (ax ?_))))
            cases hm
            exact kr 0
           ·rw [iN h28] at hm;refine ai rfl (fB h28) ?_;refine au ?_;refine ar ?_;refine am (hk5 _ _ ?_);refine a8 ?_;refine aB (IntKind.wrap .i64 (x13 + 1)) () hm ?_;exact ls
        ·rw [iN h18] at hm;refine ai rfl (dF h18) ?_;refine bj ?_;have ho31 := aA hm hr2;subst ho31;replace hm : fJ p1 = some r := hm2;refine aY (aQ (aF ?_));refine aw () () hm ?_;exact ls
      ·rintro _ _ hm;replace hm : fJ p1 = some r := hm;refine aH ?_;unfold fJ at hm;refine aI (S := Unit) (V := Unit) [1, 5, 110, 111, 112, 113, 114, 115, 116, 117, 118, 119, 120, 121, 122, 123, 124, 125, 126, 127, 128, 129, 130, 131, 132, 133, 134] (fun _ _ => []) (fun _ _ => [.box [.tree 2 (p1.vars.map ap.enc), .tree 1 (p1.in_.map (eK .i64)), .tree 1 (p1.out_.map (eK .i64)), .tree 6 (p1.rules.map ah.enc)], .box [.int .i64 0, .int .i64 0]]) (fun _ => i4 = some r) ?_ ?_
       ·skip;refine ao [] ?_
        refine az ?_;obtain ⟨o1, hl1, hm1⟩ := bd hm;refine aZ (S := Int) (V := Unit) (O := Unit ⊕ ay) [5, 110, 111, 112, 113, 114, 115, 116, 117, 118, 119, 120, 121, 122, 123, 124, 125, 126, 127, 128, 129, 130, 131, 132, 133, 134] (fun x7 _ => [(5, .c (.int .i64 x7))]) (fun x7 _ => [.box [.tree 2 (p1.vars.map ap.enc), .tree 1 (p1.in_.map (eK .i64)), .tree 1 (p1.out_.map (eK .i64)), .tree 6 (p1.rules.map ah.enc)], .box [.int .i64 0, .int .i64 0]]) _ _ () hl1 ?_ ?_
        ·exact ls
        ·rintro x7 _ r1 hm hr1;replace hm : i5 p1 x7 = some r1 := hm;refine aH ?_;unfold i5 at hm;refine aq fun k2 hk2 => ?_;refine ao [110, 111, 112, 113] ?_
         by_cases h9 : x7 < (p1.out_.length : Int)
         ·rw [iP h9] at hm;refine af rfl (dT h9) ?_;refine au ?_;refine am (hk2 _ _ ?_);refine aq fun k3 hk3 => ?_;refine az ?_;obtain ⟨hg10a, hm⟩ := gd hm;refine cS [114, 117, 118, 119, 120, 121, 122, 123, 124, 125, 126, 127, 128, 129, 130, 131, 132] (by kernel_rfl) [0, 1, 0, 7, 15, 31, 63, 127, 255, 127, 1023, 2047, 127, 4223, 12415, 32767, 65535] [false, false, false, true, true, true, true, false, false, false, false, false, false, false, false, true, true] (by kernel_rfl) fun k hk => ?_;refine c8 7 rfl ?_;refine gax (em (eK .i64) p1.out_ x7.toNat) ?_
          by_cases h11 : (p1.out_.getD x7.toNat default) < 0
          ·rw [iP h11] at hm;have h11b := dT h11;refine aM ?_;refine gax h11b ?_;refine hk _ _ ?_;clear hk k;refine af rfl rfl ?_;refine aL [1, 5, 133, 134] fun k kp hk hp => ?_;refine go ?_;obtain ⟨y8, hc12, hm⟩ := bd hm;refine RP (fun _ => bN 16 (-1) _ hc12) ?_;refine aa ?_;refine go ?_;refine hk _ _ ?_;clear hk hp k kp;have ho13 := aA hm hr1;subst ho13;replace hm : some (y8) = some r := hm1;refine ak ?_;refine ab (ag (aD (ab (ax ?_))))
           cases hm
           exact kr 0
          ·rw [iN h11] at hm;have h11b := dF h11;refine aM ?_;refine gax (a2 (em (eK .i64) p1.out_ x7.toNat) h11b) ?_;refine hk _ _ ?_;clear hk k
           by_cases h14 : (p1.out_.getD x7.toNat default) ≥ (p1.vars.length : Int)
           ·rw [iP h14] at hm;refine af rfl (dT h14) ?_;refine aL [1, 5, 133, 134] fun k kp hk hp => ?_;refine go ?_;obtain ⟨y9, hc15, hm⟩ := bd hm;refine RP (fun _ => bN 16 (-1) _ hc15) ?_;refine aa ?_;refine go ?_;refine hk _ _ ?_;clear hk hp k kp;have ho16 := aA hm hr1;subst ho16;replace hm : some (y9) = some r := hm1;refine ak ?_;refine ab (ag (aD (ab (ax ?_))))
            cases hm
            exact kr 0
           ·rw [iN h14] at hm;refine ai rfl (dF h14) ?_;refine au ?_;refine ar ?_;refine am (hk3 _ _ ?_);refine a8 ?_;refine aB (IntKind.wrap .i64 (x7 + 1)) () hm ?_;exact ls
         ·rw [iN h9] at hm;refine ai rfl (dF h9) ?_;refine bj ?_;have ho17 := aA hm hr1;subst ho17;replace hm : i4 = some r := hm1;refine aY (aQ (aF ?_));refine aw () () hm ?_;exact ls
       ·rintro _ _ hm;replace hm : i4 = some r := hm;refine aH ?_;unfold i4 at hm;refine ao [135] ?_;refine ak ?_
        cases hm
        exact kr 0
theorem pV (p1 : ae) (p2 : Int) (r : (List Int)) (hm : md p1 p2 = some r) : bu Try.prog 48 [.a [.tree 2 (p1.vars.map ap.enc), .tree 1 (p1.in_.map (eK .i64)), .tree 1 (p1.out_.map (eK .i64)), .tree 6 (p1.rules.map ah.enc)], .c (.int .i64 p2)] (.c (.tree 1 (r.map (eK .i64)))) := by
 refine aG 22 [.tmp 4] Try.func48 rfl rfl rfl (by kernel_rfl) (by simp) ?_;refine bk ?_;unfold md at hm;refine ao [0, 4] ?_;refine ao [] ?_;refine bD (ew 5 1 3 (by decide) rfl (Nat.le_of_ble_eq_true rfl)) ?_;refine lZ ?_;refine aI (S := (List Int)) (V := Nat) [1, 2, 5, 6, 7, 8, 9, 10, 11, 12, 13, 14, 15, 16, 17, 18, 19, 20] (fun l3 v4 => [(5, .c (.osl 1 v4 0 l3.length))]) (fun l3 v4 => [.box [.tree 2 (p1.vars.map ap.enc), .tree 1 (p1.in_.map (eK .i64)), .tree 1 (p1.out_.map (eK .i64)), .tree 6 (p1.rules.map ah.enc)], .arr 1 v4 3 (l3.map (eK .i64))]) (fun l3 => kh l3 = some r) ?_ ?_
 ·skip;refine ao [] ?_
  refine az ?_;obtain ⟨o1, hl1, hm1⟩ := bd hm;refine aZ (S := ((List Int) × Int)) (V := Nat) (O := (List Int)) [5, 6, 7, 8, 9, 10, 11, 12, 13, 14, 15, 16, 17, 18, 19, 20] (fun (l17, x19) v18 => [(5, .c (.osl 1 v18 0 l17.length)), (6, .c (.int .i64 x19))]) (fun (l17, x19) v18 => [.box [.tree 2 (p1.vars.map ap.enc), .tree 1 (p1.in_.map (eK .i64)), .tree 1 (p1.out_.map (eK .i64)), .tree 6 (p1.rules.map ah.enc)], .arr 1 v18 3 (l17.map (eK .i64))]) _ _ 0 hl1 ?_ ?_
  ·exact ls
  ·rintro ⟨l17, x19⟩ v18 r1 hm hr1;replace hm : fq p1 p2 l17 x19 = some r1 := hm;refine aH ?_;unfold fq at hm;refine aq fun k1 hk1 => ?_;refine ao [7, 8] ?_
   by_cases h1 : x19 < p2
   ·rw [iP h1] at hm;refine af rfl (dT h1) ?_;refine au ?_;refine am (hk1 _ _ ?_);refine aq fun k2 hk2 => ?_;refine az ?_;obtain ⟨⟨hg2a, ⟨hg2bx, hg2by⟩⟩, hm⟩ := gd hm;refine nl (em ah.enc p1.rules x19.toNat) ?_;refine ar ?_;refine am (hk2 _ _ ?_);refine a8 ?_;refine aB ((l17 ++ (lit ([(p1.rules.getD x19.toNat default).out_] : List Int))), (IntKind.wrap .i64 (x19 + 1))) (v18 + 1) hm ?_;exact ls
   ·rw [iN h1] at hm;refine ai rfl (dF h1) ?_;refine bj ?_;have ho3 := aA hm hr1;subst ho3;replace hm : kh l17 = some r := hm1;refine aY (aQ (aF ?_));refine aw l17 v18 hm ?_;exact ls
 ·rintro l3 v4 hm;replace hm : kh l3 = some r := hm;refine aH ?_;unfold kh at hm;refine ao [5, 21] ?_;refine iZ (bw 1 rfl) ?_;refine ak ?_
  cases hm
  exact kr 0
theorem ns (p1 : Int) (r : Int) (hm : jm p1 = some r) : bu Try.prog 49 [.c (.int .i64 p1)] (.c (.int .i64 r)) := by
  refine aG 17 [.tmp 2] Try.func49 rfl rfl rfl (by kernel_rfl) (by simp) ?_;refine jV (by simp only [iY, Env.ofList, List.length_nil, List.length_cons, bE, Nat.reduceDiv, Nat.reduceMod, Nat.reduceLT, Nat.reduceLeDiff, Nat.reduceAdd, Nat.reduceSub, Nat.reduceMul, Nat.reduceEqDiff, Nat.reduceBEq, Nat.reduceBNe, Nat.reduceGT, Int.reduceToNat]; rfl) rfl ?_;unfold jm at hm;refine aL [2] fun k kp hk hp => ?_;simp only [bR, bT, tab, bX, reduceIte, ↓reduceIte, reduceCtorEq, Int.reduceToNat, Nat.reduceDiv, Nat.reduceMod, Nat.reduceLT, Nat.reduceLeDiff, Nat.reduceAdd, Nat.reduceSub, Nat.reduceMul, Nat.reduceEqDiff, Nat.reduceBEq, Nat.reduceBNe, Nat.reduceGT]
  repeat refine ⟨by first | omega | assumption | decide | exact bH fun _ => rfl | (intro _; omega) | rfl | exact fun e => absurd (List.map_eq_nil_iff.1 e) (by assumption) | (and_intros <;> first | omega | assumption | decide | exact bH fun _ => rfl), ?_⟩
  refine hk _ _ ?_;clear hk hp k kp;refine aL [4] fun k kp hk hp => ?_;simp only [bR, bT, tab, bX, reduceIte, ↓reduceIte, reduceCtorEq, Int.reduceToNat, Nat.reduceDiv, Nat.reduceMod, Nat.reduceLT, Nat.reduceLeDiff, Nat.reduceAdd, Nat.reduceSub, Nat.reduceMul, Nat.reduceEqDiff, Nat.reduceBEq, Nat.reduceBNe, Nat.reduceGT, List.replicate, List.foldr]
  repeat refine ⟨by first | omega | assumption | decide | exact bH fun _ => rfl | (intro _; omega) | rfl | exact fun e => absurd (List.map_eq_nil_iff.1 e) (by assumption) | (and_intros <;> first | omega | assumption | decide | exact bH fun _ => rfl), ?_⟩
  refine hk _ _ ?_;clear hk hp k kp
  refine jV rfl (show _ = [.arr 1 0 3 ((lit ([(-1), 0, 1, 1, 2, 3, 2, 2, 1, 3, 3, 1, 2, 2, 0, 1, 1] : List Int)).map (eK .i64))] from by first | rfl | (simp only [List.take_of_length_le, List.length_map, List.length_append, List.length_cons, List.length_nil, List.length_replicate, List.length_set, List.map_append, List.map_cons, List.map_nil, List.map_replicate, List.map_set, Nat.le_refl, Nat.zero_add, List.nil_append, List.set_cons_zero, List.set_cons_succ, bX, eK, eB, eS, eL]; done) | (simp only [List.take_of_length_le, List.length_map, List.length_append, List.length_cons, List.length_nil, List.length_replicate, List.length_set, List.map_append, List.map_cons, List.map_nil, List.map_replicate, List.map_set, Nat.le_refl, Nat.zero_add, List.nil_append, List.set_cons_zero, List.set_cons_succ, bX, eK, eB, eS, eL]; rfl) | (simp; done)) ?_
  refine aq fun k1 hk1 => ?_
  by_cases h1 : p1 < 0
  · rw [iP h1] at hm
    have h1b := dT h1;refine aL [5, 6, 7, 8, 9, 10, 11] fun k kp hk hp => ?_;simp only [bR, bT, tab, bX, reduceIte, ↓reduceIte, reduceCtorEq, Int.reduceToNat, Nat.reduceDiv, Nat.reduceMod, Nat.reduceLT, Nat.reduceLeDiff, Nat.reduceAdd, Nat.reduceSub, Nat.reduceMul, Nat.reduceEqDiff, Nat.reduceBEq, Nat.reduceBNe, Nat.reduceGT, h1b]
    repeat refine ⟨by first | omega | assumption | decide | exact bH fun _ => rfl | (intro _; omega) | rfl | exact fun e => absurd (List.map_eq_nil_iff.1 e) (by assumption) | (and_intros <;> first | omega | assumption | decide | exact bH fun _ => rfl), ?_⟩
    refine hk _ _ ?_;clear hk hp k kp;refine af rfl rfl ?_;refine aL [0, 3, 12] fun k kp hk hp => ?_;simp only [bR, bT, tab, bX, reduceIte, ↓reduceIte, reduceCtorEq, Int.reduceToNat, Nat.reduceDiv, Nat.reduceMod, Nat.reduceLT, Nat.reduceLeDiff, Nat.reduceAdd, Nat.reduceSub, Nat.reduceMul, Nat.reduceEqDiff, Nat.reduceBEq, Nat.reduceBNe, Nat.reduceGT]
    repeat refine ⟨by first | omega | assumption | decide | exact bH fun _ => rfl | (intro _; omega) | rfl | exact fun e => absurd (List.map_eq_nil_iff.1 e) (by assumption) | (and_intros <;> first | omega | assumption | decide | exact bH fun _ => rfl), ?_⟩
    refine hk _ _ ?_;clear hk hp k kp;refine ak ?_;refine ag ?_
    cases hm
    exact kr 0
  · rw [iN h1] at hm
    have h1b := dF h1;refine aL [5, 6, 7, 8, 9, 10, 11] fun k kp hk hp => ?_;simp only [bR, bT, tab, bX, reduceIte, ↓reduceIte, reduceCtorEq, Int.reduceToNat, Nat.reduceDiv, Nat.reduceMod, Nat.reduceLT, Nat.reduceLeDiff, Nat.reduceAdd, Nat.reduceSub, Nat.reduceMul, Nat.reduceEqDiff, Nat.reduceBEq, Nat.reduceBNe, Nat.reduceGT, h1b]
    repeat refine ⟨by first | omega | assumption | decide | exact bH fun _ => rfl | (intro _; omega) | rfl | exact fun e => absurd (List.map_eq_nil_iff.1 e) (by assumption) | (and_intros <;> first | omega | assumption | decide | exact bH fun _ => rfl), ?_⟩
    refine hk _ _ ?_;clear hk hp k kp
    by_cases h2 : p1 ≥ (17 : Int)
    · rw [iP h2] at hm
      refine af rfl (dT h2) ?_;refine aL [0, 3, 12] fun k kp hk hp => ?_;simp only [bR, bT, tab, bX, reduceIte, ↓reduceIte, reduceCtorEq, Int.reduceToNat, Nat.reduceDiv, Nat.reduceMod, Nat.reduceLT, Nat.reduceLeDiff, Nat.reduceAdd, Nat.reduceSub, Nat.reduceMul, Nat.reduceEqDiff, Nat.reduceBEq, Nat.reduceBNe, Nat.reduceGT]
      repeat refine ⟨by first | omega | assumption | decide | exact bH fun _ => rfl | (intro _; omega) | rfl | exact fun e => absurd (List.map_eq_nil_iff.1 e) (by assumption) | (and_intros <;> first | omega | assumption | decide | exact bH fun _ => rfl), ?_⟩
      refine hk _ _ ?_;clear hk hp k kp;refine ak ?_;refine ag ?_
      cases hm
      exact kr 0
    · rw [iN h2] at hm
      refine ai rfl (dF h2) ?_;refine au ?_;refine am (hk1 _ _ ?_);obtain ⟨hg3a, hm⟩ := gd hm;refine aL [0, 3, 12, 13, 14, 15, 16] fun k kp hk hp => ?_
      simp only [bR, bT, tab, bX, reduceIte, ↓reduceIte, reduceCtorEq, Int.reduceToNat, Nat.reduceDiv, Nat.reduceMod, Nat.reduceLT, Nat.reduceLeDiff, Nat.reduceAdd, Nat.reduceSub, Nat.reduceMul, Nat.reduceEqDiff, Nat.reduceBEq, Nat.reduceBNe, Nat.reduceGT, vm (eK .i64) (lit ([(-1), 0, 1, 1, 2, 3, 2, 2, 1, 3, 3, 1, 2, 2, 0, 1, 1] : List Int)) p1.toNat (by first | omega | (simp only [lE, List.length_cons, List.length_nil, List.length_append, List.length_set, List.length_replicate, List.length_map, List.length_take, List.length_drop]; omega))]
      repeat refine ⟨by first | omega | assumption | decide | exact bH fun _ => rfl | (intro _; omega) | rfl | exact fun e => absurd (List.map_eq_nil_iff.1 e) (by assumption) | (and_intros <;> first | omega | assumption | decide | exact bH fun _ => rfl), ?_⟩
      refine hk _ _ ?_;clear hk hp k kp;refine ak ?_
      cases hm
      exact kr 0
theorem oe (p1 : List Int) (p2 : Int) (r : (List Int)) (hm : j3 p1 p2 = some r) : bu Try.prog 148 [.c (.tree 1 (p1.map (eK .i64))), .c (.int .i64 p2)] (.c (.tree 1 (r.map (eK .i64)))) := by
 refine aG 48 [.tmp 4] Try.func148 rfl rfl rfl (by kernel_rfl) (by simp) ?_;refine bk ?_;unfold j3 at hm;refine ao [4] ?_;refine ao [] ?_;refine ao [] ?_;refine bD (ew 5 1 3 (by decide) rfl (Nat.le_of_ble_eq_true rfl)) ?_;refine lZ ?_;refine aI (S := ((List Int) × Bool)) (V := Nat) [0, 5, 6, 7, 8, 9, 10, 11, 12, 13, 14, 15, 16, 17, 18, 19, 20, 21, 22, 23, 24, 25, 26, 27, 28, 29, 30, 31, 32, 33, 34, 35, 36, 37, 38, 39, 40] (fun (l3, b5) v4 => [(5, .c (.osl 0 v4 0 l3.length)), (6, .c (.bool b5))]) (fun (l3, b5) v4 => [.arr 1 v4 3 (l3.map (eK .i64))]) (fun (l3, b5) => fL p2 l3 b5 = some r) ?_ ?_
 ·skip;refine ao [] ?_
  refine az ?_;obtain ⟨o1, hl1, hm1⟩ := bd hm;refine aZ (S := ((List Int) × Bool × Int)) (V := Nat) (O := ((List Int) × Bool)) [5, 6, 7, 8, 9, 10, 11, 12, 13, 14, 15, 16, 17, 18, 19, 20, 21, 22, 23, 24, 25, 26, 27, 28, 29, 30, 31, 32, 33, 34, 35, 36, 37, 38, 39, 40] (fun (l20, b22, x23) v21 => [(5, .c (.osl 0 v21 0 l20.length)), (6, .c (.bool b22)), (7, .c (.int .i64 x23))]) (fun (l20, b22, x23) v21 => [.arr 1 v21 3 (l20.map (eK .i64))]) _ _ 0 hl1 ?_ ?_
  ·exact ls
  ·rintro ⟨l20, b22, x23⟩ v21 r1 hm hr1;replace hm : dN p1 p2 l20 b22 x23 = some r1 := hm;refine aH ?_;unfold dN at hm;refine aq fun k2 hk2 => ?_;refine ao [8, 9, 10] ?_
   by_cases h3 : x23 < (p1.length : Int)
   ·rw [iP h3] at hm;refine af rfl (dT h3) ?_;refine au ?_;refine am (hk2 _ _ ?_);refine aq fun k3 hk3 => ?_;refine az ?_;refine aI (S := ((List Int) × Bool)) (V := Nat) [5, 6, 11, 14, 15, 16, 17, 18, 19, 20, 21, 22, 23, 24, 25, 26, 27, 28, 29, 30, 31, 32, 33] (fun (l26, b28) v27 => [(5, .c (.osl 0 v27 0 l26.length)), (6, .c (.bool b28))]) (fun (l26, b28) v27 => [.arr 1 v27 3 (l26.map (eK .i64))]) (fun (l26, b28) => dM p1 x23 l26 b28 = some r1) ?_ ?_
    ·skip
     by_cases h5 : b22 = true
     ·rw [iP h5] at hm;have h5b := h5
      have h5c : (!b22) = false := by rw [h5b]; rfl
      refine bi (a2 h5b h5c) [11, 14, 15, 16, 17, 18, 19, 20, 21, 22] ?_;refine ai rfl rfl ?_;refine au ?_;refine aw (l20, b22) v21 hm ?_;exact la
     ·rw [iN h5] at hm;have h5b := fB h5
      have h5c : (!b22) = true := by rw [h5b]; rfl
      obtain ⟨hg6a, hm⟩ := gd hm;refine bi (a2 (em (eK .i64) p1 x23.toNat) (a2 h5b h5c)) [11, 14, 15, 16, 17, 18, 19, 20, 21, 22] ?_
      by_cases h7 : (p1.getD x23.toNat default) ≥ p2
      ·rw [iP h7] at hm;refine af rfl (dT h7) ?_;refine aq fun k4 hk4 => ?_;refine bi (em (eK .i64) p1 x23.toNat) [6, 23, 24, 25, 26, 27, 28] ?_
       by_cases h8 : (p1.getD x23.toNat default) > p2
       ·rw [iP h8] at hm;refine af rfl (dT h8) ?_;obtain ⟨⟨hg9ax, hg9ay⟩, hm⟩ := gd hm;refine a8 ?_;refine am (hk4 _ _ ?_);refine a8 ?_;refine aw ((l20 ++ (lit ([p2] : List Int))), true) (v21 + 1) hm ?_;exact la
       ·rw [iN h8] at hm;refine ai rfl (dF h8) ?_;refine au ?_;refine am (hk4 _ _ ?_);refine a8 ?_;refine aw (l20, true) v21 hm ?_;exact la
      ·rw [iN h7] at hm;refine ai rfl (dF h7) ?_;refine au ?_;refine aw (l20, b22) v21 hm ?_;exact la
    ·rintro ⟨l26, b28⟩ v27 hm;replace hm : dM p1 x23 l26 b28 = some r1 := hm;refine aH ?_;unfold dM at hm;obtain ⟨⟨hg4a, ⟨hg4bx, hg4by⟩⟩, hm⟩ := gd hm;refine nl (em (eK .i64) p1 x23.toNat) ?_;refine ar ?_;refine am (hk3 _ _ ?_);refine a8 ?_;refine aB ((l26 ++ (lit ([(p1.getD x23.toNat default)] : List Int))), b28, (IntKind.wrap .i64 (x23 + 1))) (v27 + 1) hm ?_;exact ls
   ·rw [iN h3] at hm;refine ai rfl (dF h3) ?_;refine bj ?_;have ho10 := aA hm hr1;subst ho10;replace hm : fL p2 l20 b22 = some r := hm1;refine aY (aQ (aF ?_));refine aw (l20, b22) v21 hm ?_;exact ls
 ·rintro ⟨l3, b5⟩ v4 hm;replace hm : fL p2 l3 b5 = some r := hm;refine aH ?_;unfold fL at hm;refine aq fun k1 hk1 => ?_;refine ao [6, 41] ?_
  by_cases h1 : b5 = true
  ·rw [iP h1] at hm;refine ai rfl (by rw [show b5 = true from (h1)]; rfl) ?_;refine au ?_;refine am (hk1 _ _ ?_);refine ao [1, 5, 42, 47] ?_;refine iZ (bw 0 rfl) ?_;refine ak ?_
   cases hm
   exact kr 0
  ·rw [iN h1] at hm;refine af rfl (by rw [show b5 = false from (fB h1)]; rfl) ?_;obtain ⟨⟨hg2ax, hg2ay⟩, hm⟩ := gd hm;refine a8 ?_;refine am (hk1 _ _ ?_);refine ao [1, 5, 42, 43, 44, 45, 46, 47] ?_;refine i2 [.arr 1 (v4 + 1) 3 ((l3 ++ (lit ([p2] : List Int))).map (eK .i64)), .arr 1 0 3 ((lit ([p2] : List Int)).map (eK .i64))] ?_;refine iZ (bw 0 rfl) ?_;refine ak ?_
   cases hm
   exact kr 0
theorem tf (p1 : aj) (r : Bool) (hm : me p1 = some r) : bu Try.prog 99 [.a [.int .i64 p1.op, .int .i64 p1.k, .int .i64 p1.v, .int .i64 p1.n]] (.c (.bool r)) := by
 refine aG 16 [.tmp 2] Try.func99 rfl rfl rfl (by kernel_rfl) (by simp) ?_;refine bk ?_;unfold me at hm;refine ao [0, 2] ?_;refine bz [1, 3, 4, 5, 6, 7, 8, 9, 10, 11, 12, 13, 14, 15] fun k kp hk hp => ?_;refine an 4 ?_;refine go ?_
 by_cases h1 : p1.op = 2
 ·rw [iP h1] at hm;have h1b := eQ h1;refine aa ?_;refine gox h1b ?_;refine hk _ _ ?_;clear hk hp k kp;refine ak ?_
  cases hm
  exact kr 0
 ·rw [iN h1] at hm;have h1b := nB h1;refine an 5 ?_;refine gox h1b ?_
  by_cases h2 : p1.op = 3
  ·rw [iP h2] at hm;have h2b := eQ h2;refine aa ?_;refine gox (a2 h1b h2b) ?_;refine hk _ _ ?_;clear hk hp k kp;refine ak ?_
   cases hm
   exact kr 0
  ·rw [iN h2] at hm;have h2b := nB h2;refine aa ?_;refine gox (a2 h1b h2b) ?_;refine hk _ _ ?_;clear hk hp k kp;refine ak ?_
   cases hm
   exact kr 0
theorem t8 (p1 : ah) (r : (List Int)) (hm : np p1 = some r) : bu Try.prog 103 [.a [.int .i64 p1.op, .int .i64 p1.k, .int .i64 p1.out_, .int .i64 p1.n, .tree 1 (p1.a.map (eK .i64)), .tree 4 (p1.e.map aj.enc)]] (.c (.tree 1 (r.map (eK .i64)))) := by
 refine aG 42 [.tmp 2] Try.func103 rfl rfl rfl (by kernel_rfl) (by simp) ?_;refine bk ?_;unfold np at hm;refine ao [0, 2] ?_;refine ao [] ?_;refine aI (S := (List Int)) (V := Unit) [3, 4, 6, 7, 8, 9, 10, 11, 12, 13, 14, 15, 16, 17, 18, 19] (fun l1 _ => [(3, .c (.tree 1 (l1.map (eK .i64))))]) (fun l1 _ => [.box [.int .i64 p1.op, .int .i64 p1.k, .int .i64 p1.out_, .int .i64 p1.n, .tree 1 (p1.a.map (eK .i64)), .tree 4 (p1.e.map aj.enc)]]) (fun l1 => iC p1 l1 = some r) ?_ ?_
 ·skip;refine ao [] ?_
  refine az ?_;refine bD (uK 3 1 rfl) ?_;refine nm ?_;obtain ⟨o2, hl2, hm2⟩ := bd hm;refine aZ (S := ((List Int) × Int)) (V := Unit) (O := (List Int)) [3, 4, 6, 7, 8, 9, 10, 11, 12, 13, 14, 15, 16, 17, 18, 19] (fun (l18, x19) _ => [(3, .c (.tree 1 (l18.map (eK .i64)))), (4, .c (.int .i64 x19))]) (fun (l18, x19) _ => [.box [.int .i64 p1.op, .int .i64 p1.k, .int .i64 p1.out_, .int .i64 p1.n, .tree 1 (p1.a.map (eK .i64)), .tree 4 (p1.e.map aj.enc)]]) _ _ () hl2 ?_ ?_
  ·exact ls
  ·rintro ⟨l18, x19⟩ _ r2 hm hr2;replace hm : fv p1 l18 x19 = some r2 := hm;refine aH ?_;unfold fv at hm;refine aq fun k3 hk3 => ?_;refine ao [6, 7, 8, 9] ?_
   by_cases h7 : x19 < (p1.a.length : Int)
   ·rw [iP h7] at hm;refine af rfl (dT h7) ?_;refine au ?_;refine am (hk3 _ _ ?_);refine aq fun k4 hk4 => ?_;refine az ?_;obtain ⟨hg8a, hm⟩ := gd hm;refine iX fun k kp hk hp => ?_;refine gox (em (eK .i64) p1.a x19.toNat) ?_;obtain ⟨y20, hc9, hm⟩ := bd hm;refine RP (fun _ => oe l18 (p1.a.getD x19.toNat default) _ hc9) ?_;refine aa ?_;refine go ?_;refine hk _ _ ?_;clear hk hp k kp;refine ar ?_;refine am (hk4 _ _ ?_);refine a8 ?_;refine aB (y20, (IntKind.wrap .i64 (x19 + 1))) () hm ?_;exact ls
   ·rw [iN h7] at hm;refine ai rfl (dF h7) ?_;refine bj ?_;have ho10 := aA hm hr2;subst ho10;replace hm : iC p1 l18 = some r := hm2;refine aY (aQ (aF ?_));refine aw l18 () hm ?_;exact ls
 ·rintro l1 _ hm;replace hm : iC p1 l1 = some r := hm;refine aH ?_;unfold iC at hm;refine aI (S := (List Int)) (V := Unit) [1, 3, 5, 20, 21, 22, 23, 24, 25, 26, 27, 28, 29, 30, 31, 32, 33, 34, 35, 36, 37, 38, 39, 40] (fun l2 _ => [(3, .c (.tree 1 (l2.map (eK .i64))))]) (fun l2 _ => [.box [.int .i64 p1.op, .int .i64 p1.k, .int .i64 p1.out_, .int .i64 p1.n, .tree 1 (p1.a.map (eK .i64)), .tree 4 (p1.e.map aj.enc)]]) (fun l2 => jn l2 = some r) ?_ ?_
  ·skip;refine ao [] ?_
   refine az ?_;obtain ⟨o1, hl1, hm1⟩ := bd hm;refine aZ (S := ((List Int) × Int)) (V := Unit) (O := (List Int)) [3, 5, 20, 21, 22, 23, 24, 25, 26, 27, 28, 29, 30, 31, 32, 33, 34, 35, 36, 37, 38, 39, 40] (fun (l7, x8) _ => [(3, .c (.tree 1 (l7.map (eK .i64)))), (5, .c (.int .i64 x8))]) (fun (l7, x8) _ => [.box [.int .i64 p1.op, .int .i64 p1.k, .int .i64 p1.out_, .int .i64 p1.n, .tree 1 (p1.a.map (eK .i64)), .tree 4 (p1.e.map aj.enc)]]) _ _ () hl1 ?_ ?_
   ·exact ls
   ·rintro ⟨l7, x8⟩ _ r1 hm hr1;replace hm : ft p1 l7 x8 = some r1 := hm;refine aH ?_;unfold ft at hm;refine aq fun k1 hk1 => ?_;refine ao [20, 21, 22, 23] ?_
    by_cases h1 : x8 < (p1.e.length : Int)
    ·rw [iP h1] at hm;refine af rfl (dT h1) ?_;refine au ?_;refine am (hk1 _ _ ?_);refine aq fun k2 hk2 => ?_;refine az ?_;obtain ⟨hg2a, hm⟩ := gd hm;refine aL [24, 27, 28, 29, 30, 31] fun k kp hk hp => ?_;refine gox (em aj.enc p1.e x8.toNat) ?_;obtain ⟨y9, hc3, hm⟩ := bd hm;refine RP (fun _ => tf (p1.e.getD x8.toNat default) _ hc3) ?_;refine aa ?_;refine gox (em aj.enc p1.e x8.toNat) ?_;refine hk _ _ ?_;clear hk hp k kp
     by_cases h4 : y9 = true
     ·rw [iP h4] at hm;refine af rfl (h4) ?_;refine iX fun k kp hk hp => ?_;refine gox (em aj.enc p1.e x8.toNat) ?_;obtain ⟨y10, hc5, hm⟩ := bd hm;refine RP (fun _ => oe l7 ((p1.e.getD x8.toNat default).v) _ hc5) ?_;refine aa ?_;refine go ?_;refine hk _ _ ?_;clear hk hp k kp;refine ar ?_;refine am (hk2 _ _ ?_);refine a8 ?_;refine aB (y10, (IntKind.wrap .i64 (x8 + 1))) () hm ?_;exact ls
     ·rw [iN h4] at hm;refine ai rfl (fB h4) ?_;refine au ?_;refine ar ?_;refine am (hk2 _ _ ?_);refine a8 ?_;refine aB (l7, (IntKind.wrap .i64 (x8 + 1))) () hm ?_;exact ls
    ·rw [iN h1] at hm;refine ai rfl (dF h1) ?_;refine bj ?_;have ho6 := aA hm hr1;subst ho6;replace hm : jn l7 = some r := hm1;refine aY (aQ (aF ?_));refine aw l7 () hm ?_;exact ls
  ·rintro l2 _ hm;replace hm : jn l2 = some r := hm;refine aH ?_;unfold jn at hm;refine ao [3, 41] ?_;refine ak ?_
   cases hm
   exact kr 0
theorem nt (p1 : ah) (r : (List Int)) (hm : li p1 = some r) : bu Try.prog 50 [.a [.int .i64 p1.op, .int .i64 p1.k, .int .i64 p1.out_, .int .i64 p1.n, .tree 1 (p1.a.map (eK .i64)), .tree 4 (p1.e.map aj.enc)]] (.c (.tree 1 (r.map (eK .i64)))) := by
 refine aG 9 [.tmp 2] Try.func50 rfl rfl rfl (by kernel_rfl) (by simp) ?_;refine bk ?_;unfold li at hm;refine ao [0, 2] ?_;refine aI (S := (List aj)) (V := Unit) [3, 4, 5, 6] (fun l1 _ => []) (fun l1 _ => [.box [.int .i64 p1.op, .int .i64 p1.k, .int .i64 p1.out_, .int .i64 p1.n, .tree 1 (p1.a.map (eK .i64)), .tree 4 (l1.map aj.enc)]]) (fun l1 => iD p1 l1 = some r) ?_ ?_
 ·skip;refine ao [3, 4] ?_
  by_cases h2 : p1.op < 14
  ·rw [iP h2] at hm;refine af rfl (dT h2) ?_;refine a8 ?_
   refine tP (eI 0 [.int .i64 p1.op, .int .i64 p1.k, .int .i64 p1.out_, .int .i64 p1.n, .tree 1 (p1.a.map (eK .i64)), .tree 4 []] rfl (by and_intros <;> trivial)) ?_
   refine gz ?_;refine aw [] () hm ?_;exact ls
  ·rw [iN h2] at hm;refine ai rfl (dF h2) ?_;refine au ?_;refine aw p1.e () hm ?_;exact ls
 ·rintro l1 _ hm;replace hm : iD p1 l1 = some r := hm;refine aH ?_;unfold iD at hm;refine aL [1, 7, 8] fun k kp hk hp => ?_;refine go ?_;obtain ⟨y2, hc1, hm⟩ := bd hm;refine RP (fun _ => t8 (ah.mk p1.op p1.k p1.out_ p1.n p1.a l1) _ hc1) ?_;refine aa ?_;refine go ?_;refine hk _ _ ?_;clear hk hp k kp;refine ak ?_
  cases hm
  exact kr 0
theorem lL (p1 : Int) (r : (Int × Int × Int)) (hm : kj p1 = some r) : bu Try.prog 104 [.c (.int .i64 p1)] (.t [.c (.int .u8 r.1), .c (.int .u8 r.2.1), .c (.int .i64 r.2.2)]) := by
 refine aG 23 [.tmp 2, .tmp 3, .tmp 4] Try.func104 rfl rfl rfl (by kernel_rfl) (by simp) ?_;refine bk ?_;unfold kj at hm;refine ao [2, 3, 4] ?_;refine ao [] ?_;refine ao [] ?_;refine aq fun k1 hk1 => ?_
 by_cases h1 : p1 < 1
 ·rw [iP h1] at hm;have h1b := dT h1;refine bi h1b [8, 9, 10, 11, 12] ?_;refine af rfl rfl ?_;refine ao [0, 5, 6, 13] ?_;refine ak ?_;refine ag ?_
  cases hm
  exact kr 0
 ·rw [iN h1] at hm;have h1b := dF h1;refine bi h1b [8, 9, 10, 11, 12] ?_
  by_cases h2 : p1 > 14
  ·rw [iP h2] at hm;refine af rfl (dT h2) ?_;refine ao [0, 5, 6, 13] ?_;refine ak ?_;refine ag ?_
   cases hm
   exact kr 0
  ·rw [iN h2] at hm;refine ai rfl (dF h2) ?_;refine au ?_;refine am (hk1 _ _ ?_);refine ao [13] ?_;refine aI (S := Int) (V := Unit) [7, 14, 15] (fun x1 _ => [(7, .c (.int .i64 x1))]) (fun x1 _ => []) (fun x1 => ki p1 x1 = some r) ?_ ?_
   ·skip;refine ao [14] ?_
    by_cases h4 : p1 ≥ 13
    ·rw [iP h4] at hm;refine af rfl (dT h4) ?_;refine a8 ?_;refine aw 1 () hm ?_;exact ls
    ·rw [iN h4] at hm;refine ai rfl (dF h4) ?_;refine au ?_;refine aw 2 () hm ?_;exact ls
   ·rintro x1 _ hm;replace hm : ki p1 x1 = some r := hm;refine aH ?_;unfold ki at hm;obtain ⟨⟨hg3a, hg3b⟩, hm⟩ := gd hm;refine zm [0, 5, 6, 7, 16, 17, 18, 19, 20, 21, 22] [0, 0, 3, 0, 0, 24, 0, 7, 191, 511] [false, false, false, false, false, false, false, false, false, true] ?_;refine ak ?_
    cases hm
    exact kr 0
theorem kN (p1 : Int) (r : Bool) (hm : jo p1 = some r) : bu Try.prog 105 [.c (.int .i64 p1)] (.c (.bool r)) := by
 refine aG 19 [.tmp 2] Try.func105 rfl rfl rfl (by kernel_rfl) (by simp) ?_;refine bk ?_;unfold jo at hm;refine ao [2] ?_;refine aL [0, 6, 7, 8, 9, 10, 11] fun k kp hk hp => ?_;refine go ?_;obtain ⟨y1, hc1, hm⟩ := bd hm;refine RP (fun _ => lL p1 _ hc1) ?_;refine aa ?_;refine go ?_;refine hk _ _ ?_;clear hk hp k kp
 by_cases h2 : y1.2.2 = 2
 ·rw [iP h2] at hm;have h2b := eQ h2;refine bi h2b [3, 4, 5, 12, 13, 14, 15, 16, 17, 18] ?_;refine ak ?_
  cases hm
  exact kr 0
 ·rw [iN h2] at hm;have h2b := nB h2;refine bi h2b [3, 4, 5, 12, 13, 14, 15, 16, 17, 18] ?_;refine ak ?_
  cases hm
  exact kr 0
theorem rU (p1 : Int) (r : Bool) (hm : lj p1 = some r) : bu Try.prog 149 [.c (.int .i64 p1)] (.c (.bool r)) := by
 refine aG 9 [.tmp 2] Try.func149 rfl rfl rfl (by kernel_rfl) (by simp) ?_;refine bk ?_;unfold lj at hm;refine ao [2] ?_
 by_cases h1 : p1 ≥ (-1000000)
 ·rw [iP h1] at hm;have h1b := dT h1;refine bi h1b [0, 3, 4, 5, 6, 7, 8] ?_;refine ak ?_
  cases hm
  exact kr 0
 ·rw [iN h1] at hm;have h1b := dF h1;refine bi h1b [0, 3, 4, 5, 6, 7, 8] ?_;refine ak ?_
  cases hm
  exact kr 0
theorem nu (p1 : ae) (p2 : List aj) (p3 : Int) (r : Int) (hm : jF p1 p2 p3 = some r) : bu Try.prog 106 [.a [.tree 2 (p1.vars.map ap.enc), .tree 1 (p1.in_.map (eK .i64)), .tree 1 (p1.out_.map (eK .i64)), .tree 6 (p1.rules.map ah.enc)], .c (.tree 4 (p2.map aj.enc)), .c (.int .i64 p3)] (.c (.int .u8 r)) := by
 refine aG 277 [.tmp 6] Try.func106 rfl rfl rfl (by kernel_rfl) (by simp) ?_;refine bk ?_;unfold jF at hm;refine ao [0, 6] ?_;refine ao [] ?_;refine bD (ew 7 1 5 (by decide) rfl (Nat.le_of_ble_eq_true rfl)) ?_;refine lZ ?_;refine aI (S := (List Int)) (V := Nat) [1, 2, 3, 6, 7, 8, 9, 10, 11, 12, 13, 14, 15, 16, 17, 18, 19, 20, 21, 22, 23, 24, 25, 26, 27, 28, 29, 30, 31, 32, 33, 34, 35, 36, 37, 38, 39, 40, 41, 42, 43, 44, 45, 46, 47, 48, 49, 50, 51, 52, 53, 54, 55, 56, 57, 58, 59, 60, 61, 62, 63, 64, 65, 66, 67, 68, 69, 70, 71, 72, 73, 74, 75, 76, 77, 78, 79, 80, 81, 82, 83, 84, 85, 86, 87, 88, 89, 90, 91, 92, 93, 94, 95, 96, 97, 98, 99, 100, 101, 102, 103, 104, 105, 106, 107, 108, 109, 110, 111, 112, 113, 114, 115, 116, 117, 118, 119, 120, 121, 122, 123, 124, 125, 126, 127, 128, 129, 130, 131, 132, 133, 134, 135, 136, 137, 138, 139, 140, 141, 142, 143, 144, 145, 146, 147, 148, 149, 150, 151, 152, 153, 154, 155, 156, 157, 158, 159, 160, 161, 162, 163, 164, 165, 166, 167, 168, 169, 170, 171, 172, 173, 174, 175, 176, 177, 178, 179, 180, 181, 182, 183, 184, 185, 186, 187, 188, 189, 190, 191, 192, 193, 194, 195, 196, 197, 198, 199, 200, 201, 202, 203, 204, 205, 206, 207, 208, 209, 210, 211, 212, 213, 214, 215, 216, 217, 218, 219, 220, 221, 222, 223, 224, 225, 226, 227, 228, 229, 230, 231, 232, 233, 234, 235, 236, 237, 238, 239, 240, 241, 242, 243, 244, 245, 246, 247, 248, 249, 250, 251, 252, 253, 254, 255, 256, 257, 258, 259, 260, 261, 262, 263, 264, 265, 266, 267, 268, 269, 270] (fun l3 v4 => [(7, .c (.osl 1 v4 0 l3.length))]) (fun l3 v4 => [.box [.tree 2 (p1.vars.map ap.enc), .tree 1 (p1.in_.map (eK .i64)), .tree 1 (p1.out_.map (eK .i64)), .tree 6 (p1.rules.map ah.enc)], .arr 1 v4 5 (l3.map (eK .u8))]) (fun l3 => fw l3 = some r) ?_ ?_
 ·skip;refine ao [] ?_
  refine az ?_;obtain ⟨o1, hl1, hm1⟩ := bd hm;refine aZ (S := ((List Int) × Int)) (V := Nat) (O := (List Int) ⊕ Int) [6, 7, 8, 9, 10, 11, 12, 13, 14, 15, 16, 17, 18, 19, 20, 21, 22, 23, 24, 25, 26, 27, 28, 29, 30, 31, 32, 33, 34, 35, 36, 37, 38, 39, 40, 41, 42, 43, 44, 45, 46, 47, 48, 49, 50, 51, 52, 53, 54, 55, 56, 57, 58, 59, 60, 61, 62, 63, 64, 65, 66, 67, 68, 69, 70, 71, 72, 73, 74, 75, 76, 77, 78, 79, 80, 81, 82, 83, 84, 85, 86, 87, 88, 89, 90, 91, 92, 93, 94, 95, 96, 97, 98, 99, 100, 101, 102, 103, 104, 105, 106, 107, 108, 109, 110, 111, 112, 113, 114, 115, 116, 117, 118, 119, 120, 121, 122, 123, 124, 125, 126, 127, 128, 129, 130, 131, 132, 133, 134, 135, 136, 137, 138, 139, 140, 141, 142, 143, 144, 145, 146, 147, 148, 149, 150, 151, 152, 153, 154, 155, 156, 157, 158, 159, 160, 161, 162, 163, 164, 165, 166, 167, 168, 169, 170, 171, 172, 173, 174, 175, 176, 177, 178, 179, 180, 181, 182, 183, 184, 185, 186, 187, 188, 189, 190, 191, 192, 193, 194, 195, 196, 197, 198, 199, 200, 201, 202, 203, 204, 205, 206, 207, 208, 209, 210, 211, 212, 213, 214, 215, 216, 217, 218, 219, 220, 221, 222, 223, 224, 225, 226, 227, 228, 229, 230, 231, 232, 233, 234, 235, 236, 237, 238, 239, 240, 241, 242, 243, 244, 245, 246, 247, 248, 249, 250, 251, 252, 253, 254, 255, 256, 257, 258, 259, 260, 261, 262, 263, 264, 265, 266, 267, 268, 269, 270] (fun (l17, x19) v18 => [(7, .c (.osl 1 v18 0 l17.length)), (8, .c (.int .i64 x19))]) (fun (l17, x19) v18 => [.box [.tree 2 (p1.vars.map ap.enc), .tree 1 (p1.in_.map (eK .i64)), .tree 1 (p1.out_.map (eK .i64)), .tree 6 (p1.rules.map ah.enc)], .arr 1 v18 5 (l17.map (eK .u8))]) _ _ 0 hl1 ?_ ?_
  ·exact ls
  ·rintro ⟨l17, x19⟩ v18 r1 hm hr1;replace hm : er p1 p2 p3 l17 x19 = some r1 := hm;refine aH ?_;unfold er at hm;refine aq fun k2 hk2 => ?_;refine ao [19, 20, 21] ?_
   by_cases h3 : x19 < (p2.length : Int)
   ·rw [iP h3] at hm;refine af rfl (dT h3) ?_;refine au ?_;refine am (hk2 _ _ ?_);refine aq fun k3 hk3 => ?_;refine az ?_;obtain ⟨hg4a, hm⟩ := gd hm;refine bi (em aj.enc p2 x19.toNat) [22, 25, 26, 27, 28] ?_;refine ao [29, 30] ?_;refine ao [31] ?_;refine az ?_;refine ao [34] ?_
    by_cases h5 : ((p2.getD x19.toNat default).op) = 1
    ·rw [iP h5] at hm;refine af rfl (eQ h5) ?_;refine ao [10, 32, 33, 35, 36] ?_
     by_cases h6 : ((p2.getD x19.toNat default).k) = 0
     ·rw [iP h6] at hm;refine af rfl (eQ h6) ?_;obtain ⟨⟨hg7ax, hg7ay⟩, hm⟩ := gd hm;refine a8 ?_;refine ar (ar ?_);refine am (hk3 _ _ ?_);refine a8 ?_;refine aB ((l17 ++ (lit ([105] : List Int))), (IntKind.wrap .i64 (x19 + 1))) (v18 + 1) hm ?_;exact ls
     ·rw [iN h6] at hm;refine ai rfl (nB h6) ?_;refine bz [9, 37, 41, 42, 43, 44, 45, 46, 47, 48, 49, 50, 51, 52] fun k kp hk hp => ?_;refine an 4 ?_;refine go ?_
      by_cases h8 : ((p2.getD x19.toNat default).k) = 1
      ·rw [iP h8] at hm;have h8b := eQ h8;refine an 4 ?_;refine gox h8b ?_
       by_cases h9 : ((p2.getD x19.toNat default).n) = 0
       ·rw [iP h9] at hm;have h9b := eQ h9;refine aa ?_;refine gox (a2 h8b h9b) ?_;refine hk _ _ ?_;clear hk hp k kp;refine af rfl rfl ?_;obtain ⟨⟨hg10ax, hg10ay⟩, hm⟩ := gd hm;refine a8 ?_;refine ar (ar ?_);refine am (hk3 _ _ ?_);refine a8 ?_;refine aB ((l17 ++ (lit ([98] : List Int))), (IntKind.wrap .i64 (x19 + 1))) (v18 + 1) hm ?_;exact ls
       ·rw [iN h9] at hm;have h9b := nB h9;refine aa ?_;refine gox (a2 h8b h9b) ?_;refine hk _ _ ?_;clear hk hp k kp
        by_cases h11 : ((p2.getD x19.toNat default).n) = 1
        ·rw [iP h11] at hm;refine af rfl (eQ h11) ?_;obtain ⟨⟨hg12ax, hg12ay⟩, hm⟩ := gd hm;refine a8 ?_;refine ar (ar ?_);refine am (hk3 _ _ ?_);refine a8 ?_;refine aB ((l17 ++ (lit ([98] : List Int))), (IntKind.wrap .i64 (x19 + 1))) (v18 + 1) hm ?_;exact ls
        ·rw [iN h11] at hm;refine ai rfl (nB h11) ?_;refine ao [1, 2, 3, 7, 8, 53] ?_;have ho13 := aA hm hr1;subst ho13;replace hm : some 0 = some r := hm1;refine ak ?_;refine ab (ab (ag (aD (ab (ax ?_)))))
         cases hm
         exact kr 0
      ·rw [iN h8] at hm;have h8b := nB h8;refine aa ?_;refine gox h8b ?_;refine hk _ _ ?_;clear hk hp k kp;refine ai rfl rfl ?_;refine ao [1, 2, 3, 7, 8, 53] ?_;have ho14 := aA hm hr1;subst ho14;replace hm : some 0 = some r := hm1;refine ak ?_;refine ab (ab (ag (aD (ab (ax ?_)))))
       cases hm
       exact kr 0
    ·rw [iN h5] at hm;refine ai rfl (nB h5) ?_;refine ao [33, 58] ?_
     by_cases h15 : ((p2.getD x19.toNat default).op) = 2
     ·rw [iP h15] at hm;refine af rfl (eQ h15) ?_;refine aq fun k4 hk4 => ?_;obtain ⟨hg16a, hm⟩ := gd hm;refine bi (em ap.enc p1.vars (((p2.getD x19.toNat default).v).toNat)) [10, 32, 57, 59, 60, 61, 62, 63, 64, 65] ?_
      by_cases h17 : ¬ ((p1.vars.getD (((p2.getD x19.toNat default).v).toNat) default).n) = 0
      ·rw [iP h17] at hm;refine af rfl (bne_iff_ne.2 h17) ?_;refine ao [1, 2, 3, 7, 8, 9, 66] ?_;have ho18 := aA hm hr1;subst ho18;replace hm : some 0 = some r := hm1;refine ak ?_;refine ag (ab (ab (ag (aD (ab (ax ?_))))))
       cases hm
       exact kr 0
      ·rw [iN h17] at hm;refine ai rfl (bne_eq_false_iff_eq.2 (Decidable.not_not.1 h17)) ?_;refine au ?_;refine am (hk4 _ _ ?_);obtain ⟨⟨hg19ax, hg19ay⟩, hm⟩ := gd hm;refine nl (em ap.enc p1.vars (((p2.getD x19.toNat default).v).toNat)) ?_;refine ar (ar ?_);refine am (hk3 _ _ ?_);refine a8 ?_;refine aB ((l17 ++ (lit ([(p1.vars.getD (((p2.getD x19.toNat default).v).toNat) default).elem] : List Int))), (IntKind.wrap .i64 (x19 + 1))) (v18 + 1) hm ?_;exact ls
     ·rw [iN h15] at hm;refine ai rfl (nB h15) ?_;refine ao [57, 78] ?_
      by_cases h20 : ((p2.getD x19.toNat default).op) = 3
      ·rw [iP h20] at hm;refine af rfl (eQ h20) ?_;obtain ⟨hg21a, hm⟩ := gd hm;refine bi (em ap.enc p1.vars (((p2.getD x19.toNat default).v).toNat)) [10, 32, 77, 79, 80, 81, 82, 83, 84, 85] ?_;refine aq fun k5 hk5 => ?_
       by_cases h22 : ((p1.vars.getD (((p2.getD x19.toNat default).v).toNat) default).n) = 0
       ·rw [iP h22] at hm;have h22b := eQ h22;refine bi h22b [11, 86, 87, 88, 89, 90, 91, 92, 93, 94, 95, 96, 97, 98, 99, 100, 101, 102, 103, 104] ?_;refine af rfl rfl ?_;refine ao [1, 2, 3, 7, 8, 9, 105] ?_;have ho23 := aA hm hr1;subst ho23;replace hm : some 0 = some r := hm1;refine ak ?_;refine ag (ab (ab (ag (aD (ab (ax ?_))))))
        cases hm
        exact kr 0
       ·rw [iN h22] at hm;have h22b := nB h22;refine bz [11, 86, 87, 88, 89, 90, 91, 92, 93, 94, 95, 96, 97, 98, 99, 100, 101, 102, 103, 104] fun k kp hk hp => ?_;refine an 8 ?_;refine gox h22b ?_
        by_cases h24 : ((p2.getD x19.toNat default).n) < 0
        ·rw [iP h24] at hm;have h24b := dT h24;refine aa ?_;refine gox (a2 h22b h24b) ?_;refine hk _ _ ?_;clear hk hp k kp;refine af rfl rfl ?_;refine ao [1, 2, 3, 7, 8, 9, 105] ?_;have ho25 := aA hm hr1;subst ho25;replace hm : some 0 = some r := hm1;refine ak ?_;refine ag (ab (ab (ag (aD (ab (ax ?_))))))
         cases hm
         exact kr 0
        ·rw [iN h24] at hm;have h24b := dF h24;refine an 5 ?_;refine gox (a2 h22b h24b) ?_
         by_cases h26 : ((p1.vars.getD (((p2.getD x19.toNat default).v).toNat) default).n) < p3
         ·rw [iP h26] at hm;have h26b := dT h26;refine aa ?_;refine gox (a2 h22b (a2 h24b h26b)) ?_;refine hk _ _ ?_;clear hk hp k kp;refine af rfl rfl ?_;refine ao [1, 2, 3, 7, 8, 9, 105] ?_;have ho27 := aA hm hr1;subst ho27;replace hm : some 0 = some r := hm1;refine ak ?_;refine ag (ab (ab (ag (aD (ab (ax ?_))))))
          cases hm
          exact kr 0
         ·rw [iN h26] at hm;have h26b := dF h26;refine aa ?_;refine gox (a2 h22b (a2 h24b h26b)) ?_;refine hk _ _ ?_;clear hk hp k kp
          by_cases h28 : ((p2.getD x19.toNat default).n) > (IntKind.wrap .i64 (((p1.vars.getD (((p2.getD x19.toNat default).v).toNat) default).n) - p3))
          ·rw [iP h28] at hm;refine af rfl (dT h28) ?_;refine ao [1, 2, 3, 7, 8, 9, 105] ?_;have ho29 := aA hm hr1;subst ho29;replace hm : some 0 = some r := hm1;refine ak ?_;refine ag (ab (ab (ag (aD (ab (ax ?_))))))
           cases hm
           exact kr 0
          ·rw [iN h28] at hm;refine ai rfl (dF h28) ?_;refine au ?_;refine am (hk5 _ _ ?_);obtain ⟨⟨hg30ax, hg30ay⟩, hm⟩ := gd hm;refine nl (em ap.enc p1.vars (((p2.getD x19.toNat default).v).toNat)) ?_;refine ar (ar ?_);refine am (hk3 _ _ ?_);refine a8 ?_;refine aB ((l17 ++ (lit ([(p1.vars.getD (((p2.getD x19.toNat default).v).toNat) default).elem] : List Int))), (IntKind.wrap .i64 (x19 + 1))) (v18 + 1) hm ?_;exact ls
      ·rw [iN h20] at hm;refine ai rfl (nB h20) ?_;refine ao [77, 117] ?_
       by_cases h31 : ((p2.getD x19.toNat default).op) = 4
       ·rw [iP h31] at hm;refine af rfl (eQ h31) ?_;refine aq fun k6 hk6 => ?_;refine aL [9, 10, 32, 116, 118, 119, 120] fun k kp hk hp => ?_;refine go ?_;obtain ⟨y20, hc32, hm⟩ := bd hm;refine RP (fun _ => rU ((p2.getD x19.toNat default).n) _ hc32) ?_;refine aa ?_;refine go ?_;refine hk _ _ ?_;clear hk hp k kp
        by_cases h33 : y20 = true
        ·rw [iP h33] at hm;refine ai rfl (by rw [show y20 = true from (h33)]; rfl) ?_;refine au ?_;refine am (hk6 _ _ ?_);obtain ⟨⟨hg34ax, hg34ay⟩, hm⟩ := gd hm;refine a8 ?_;refine ar (ar ?_);refine am (hk3 _ _ ?_);refine a8 ?_;refine aB ((l17 ++ (lit ([105] : List Int))), (IntKind.wrap .i64 (x19 + 1))) (v18 + 1) hm ?_;exact ls
        ·rw [iN h33] at hm;refine af rfl (by rw [show y20 = false from (fB h33)]; rfl) ?_;refine ao [1, 2, 3, 7, 8, 121] ?_;have ho35 := aA hm hr1;subst ho35;replace hm : some 0 = some r := hm1;refine ak ?_;refine ag (ab (ab (ag (aD (ab (ax ?_))))))
         cases hm
         exact kr 0
       ·rw [iN h31] at hm;refine ai rfl (nB h31) ?_;refine ao [116, 126] ?_
        by_cases h36 : ((p2.getD x19.toNat default).op) = 5
        ·rw [iP h36] at hm;refine af rfl (eQ h36) ?_;refine aL [9, 32, 125, 127, 128, 129, 130, 131, 132, 133] fun k kp hk hp => ?_;refine go ?_;obtain ⟨y21, hc37, hm⟩ := bd hm;refine RP (fun _ => lL ((p2.getD x19.toNat default).k) _ hc37) ?_;refine aa ?_;refine go ?_;refine hk _ _ ?_;clear hk hp k kp;refine aq fun k7 hk7 => ?_
         by_cases h38 : ¬ y21.2.2 = 1
         ·rw [iP h38] at hm;have h38b := bne_iff_ne.2 h38;refine bi h38b [12, 14, 134, 135, 136, 137, 138, 139, 140, 141, 142, 143, 144, 145, 146, 147] ?_;refine af rfl rfl ?_;refine ao [1, 2, 3, 7, 8, 10, 13, 148] ?_;have ho39 := aA hm hr1;subst ho39;replace hm : some 0 = some r := hm1;refine ak ?_;refine ag (ab (ab (ag (aD (ab (ax ?_))))))
          cases hm
          exact kr 0
         ·rw [iN h38] at hm;have h38b : (y21.2.2 != 1) = false := bne_eq_false_iff_eq.2 (Decidable.not_not.1 h38);refine bz [12, 14, 134, 135, 136, 137, 138, 139, 140, 141, 142, 143, 144, 145, 146, 147] fun k kp hk hp => ?_;refine an 7 ?_;refine gox h38b ?_
          by_cases h40 : (l17.length : Int) < 1
          ·rw [iP h40] at hm;have h40b := dT h40;refine aa ?_;refine gox (a2 h38b h40b) ?_;refine hk _ _ ?_;clear hk hp k kp;refine af rfl rfl ?_;refine ao [1, 2, 3, 7, 8, 10, 13, 148] ?_;have ho41 := aA hm hr1;subst ho41;replace hm : some 0 = some r := hm1;refine ak ?_;refine ag (ab (ab (ag (aD (ab (ax ?_))))))
           cases hm
           exact kr 0
          ·rw [iN h40] at hm;have h40b := dF h40;obtain ⟨hg42a, hm⟩ := gd hm;refine aa ?_;refine gox (a2 (em (eK .u8) l17 ((IntKind.wrap .i64 ((l17.length : Int) - 1)).toNat)) (a2 h38b h40b)) ?_;refine hk _ _ ?_;clear hk hp k kp
           by_cases h43 : ¬ (l17.getD ((IntKind.wrap .i64 ((l17.length : Int) - 1)).toNat) default) = y21.1
           ·rw [iP h43] at hm;refine af rfl (bne_iff_ne.2 h43) ?_;refine ao [1, 2, 3, 7, 8, 10, 13, 148] ?_;have ho44 := aA hm hr1;subst ho44;replace hm : some 0 = some r := hm1;refine ak ?_;refine ag (ab (ab (ag (aD (ab (ax ?_))))))
            cases hm
            exact kr 0
           ·rw [iN h43] at hm;refine ai rfl (bne_eq_false_iff_eq.2 (Decidable.not_not.1 h43)) ?_;refine au ?_;refine am (hk7 _ _ ?_);refine nl (em (eK .u8) l17 ((IntKind.wrap .i64 ((l17.length : Int) - 1)).toNat)) ?_;refine ar (ar ?_);refine am (hk3 _ _ ?_);refine a8 ?_;refine aB ((l17.set ((IntKind.wrap .i64 ((l17.length : Int) - 1)).toNat) y21.2.1), (IntKind.wrap .i64 (x19 + 1))) v18 hm ?_;exact ls
        ·rw [iN h36] at hm;refine ai rfl (nB h36) ?_;refine ao [125, 155] ?_
         by_cases h45 : ((p2.getD x19.toNat default).op) = 6
         ·rw [iP h45] at hm;refine af rfl (eQ h45) ?_;refine aL [9, 32, 154, 156, 157, 158, 159, 160, 161, 162] fun k kp hk hp => ?_;refine go ?_;obtain ⟨y22, hc46, hm⟩ := bd hm;refine RP (fun _ => lL ((p2.getD x19.toNat default).k) _ hc46) ?_;refine aa ?_;refine go ?_;refine hk _ _ ?_;clear hk hp k kp;refine aq fun k8 hk8 => ?_
          by_cases h47 : ¬ y22.2.2 = 2
          ·rw [iP h47] at hm;have h47b := bne_iff_ne.2 h47;refine bi h47b [15, 17, 163, 164, 165, 166, 167, 168, 169, 170, 171, 172, 173, 174, 175, 176, 177, 178, 179, 180, 181, 182, 183, 184, 185] ?_;refine af rfl rfl ?_;refine ao [1, 2, 3, 7, 8, 10, 16, 186] ?_;have ho48 := aA hm hr1;subst ho48;replace hm : some 0 = some r := hm1;refine ak ?_;refine ag (ab (ab (ag (aD (ab (ax ?_))))))
           cases hm
           exact kr 0
          ·rw [iN h47] at hm;have h47b : (y22.2.2 != 2) = false := bne_eq_false_iff_eq.2 (Decidable.not_not.1 h47);refine bz [15, 17, 163, 164, 165, 166, 167, 168, 169, 170, 171, 172, 173, 174, 175, 176, 177, 178, 179, 180, 181, 182, 183, 184, 185] fun k kp hk hp => ?_;refine an 7 ?_;refine gox h47b ?_
           by_cases h49 : (l17.length : Int) < 2
           ·rw [iP h49] at hm;have h49b := dT h49;refine aa ?_;refine gox (a2 h47b h49b) ?_;refine hk _ _ ?_;clear hk hp k kp;refine af rfl rfl ?_;refine ao [1, 2, 3, 7, 8, 10, 16, 186] ?_;have ho50 := aA hm hr1;subst ho50;replace hm : some 0 = some r := hm1;refine ak ?_;refine ag (ab (ab (ag (aD (ab (ax ?_))))))
            cases hm
            exact kr 0
           ·rw [iN h49] at hm;have h49b := dF h49;obtain ⟨hg51a, hm⟩ := gd hm;refine an 9 ?_;refine gox (a2 (em (eK .u8) l17 ((IntKind.wrap .i64 ((l17.length : Int) - 1)).toNat)) (a2 h47b h49b)) ?_
            by_cases h52 : ¬ (l17.getD ((IntKind.wrap .i64 ((l17.length : Int) - 1)).toNat) default) = y22.1
            ·rw [iP h52] at hm;have h52b := bne_iff_ne.2 h52;refine aa ?_;refine gox (a2 h47b (a2 h49b h52b)) ?_;refine hk _ _ ?_;clear hk hp k kp;refine af rfl rfl ?_;refine ao [1, 2, 3, 7, 8, 10, 16, 186] ?_;have ho53 := aA hm hr1;subst ho53;replace hm : some 0 = some r := hm1;refine ak ?_;refine ag (ab (ab (ag (aD (ab (ax ?_))))))
             cases hm
             exact kr 0
            ·rw [iN h52] at hm;have h52b : ((l17.getD ((IntKind.wrap .i64 ((l17.length : Int) - 1)).toNat) default) != y22.1) = false := bne_eq_false_iff_eq.2 (Decidable.not_not.1 h52);obtain ⟨hg54a, hm⟩ := gd hm;refine aa ?_;refine gox (a2 (em (eK .u8) l17 ((IntKind.wrap .i64 ((l17.length : Int) - 2)).toNat)) (a2 h47b (a2 h49b h52b))) ?_;refine hk _ _ ?_;clear hk hp k kp
             by_cases h55 : ¬ (l17.getD ((IntKind.wrap .i64 ((l17.length : Int) - 2)).toNat) default) = y22.1
             ·rw [iP h55] at hm;refine af rfl (bne_iff_ne.2 h55) ?_;refine ao [1, 2, 3, 7, 8, 10, 16, 186] ?_;have ho56 := aA hm hr1;subst ho56;replace hm : some 0 = some r := hm1;refine ak ?_;refine ag (ab (ab (ag (aD (ab (ax ?_))))))
              cases hm
              exact kr 0
             ·rw [iN h55] at hm;refine ai rfl (bne_eq_false_iff_eq.2 (Decidable.not_not.1 h55)) ?_;refine au ?_;refine am (hk8 _ _ ?_);obtain ⟨⟨hg57a, ⟨hg57bx, hg57by⟩⟩, hm⟩ := gd hm;refine a8 ?_;refine ar (ar ?_);refine am (hk3 _ _ ?_);refine a8 ?_;refine aB (((l17.take ((IntKind.wrap .i64 ((l17.length : Int) - 2)).toNat)) ++ (lit ([y22.2.1] : List Int))), (IntKind.wrap .i64 (x19 + 1))) (v18 + 1) hm ?_;exact ls
         ·rw [iN h45] at hm;refine ai rfl (nB h45) ?_;refine ao [154, 195] ?_
          by_cases h58 : ((p2.getD x19.toNat default).op) = 7
          ·rw [iP h58] at hm;refine af rfl (eQ h58) ?_;refine aq fun k9 hk9 => ?_
           by_cases h59 : (l17.length : Int) < 3
           ·rw [iP h59] at hm;have h59b := dT h59;refine cS [9, 32, 194, 196, 197, 198, 199, 200, 201, 202, 203, 204, 205, 206, 207, 208, 209, 210, 211, 212, 213, 214, 215, 216, 217] (by kernel_rfl) [0, 1, 3, 7, 7, 23, 63, 127, 255, 511, 1023, 2047, 2047, 6143, 16383, 32767, 2047, 2047, 133119, 460799, 985087, 2097151, 4194303] [true, true, true, false, false, false, true, true, true, true, true, false, false, false, false, false, false, false, false, false, false, true, true] (by kernel_rfl) fun k hk => ?_;refine aM ?_;refine gax h59b ?_;refine hk _ _ ?_;clear hk k;refine af rfl rfl ?_;refine ao [1, 2, 3, 7, 8, 10, 218] ?_;have ho60 := aA hm hr1;subst ho60;replace hm : some 0 = some r := hm1;refine ak ?_;refine ag (ab (ab (ag (aD (ab (ax ?_))))))
            cases hm
            exact kr 0
           ·rw [iN h59] at hm;have h59b := dF h59;obtain ⟨hg61a, hm⟩ := gd hm;refine cS [9, 32, 194, 196, 197, 198, 199, 200, 201, 202, 203, 204, 205, 206, 207, 208, 209, 210, 211, 212, 213, 214, 215, 216, 217] (by kernel_rfl) [0, 1, 3, 7, 7, 23, 63, 127, 255, 511, 1023, 2047, 2047, 6143, 16383, 32767, 2047, 2047, 133119, 460799, 985087, 2097151, 4194303] [true, true, true, false, false, false, true, true, true, true, true, false, false, false, false, false, false, false, false, false, false, true, true] (by kernel_rfl) fun k hk => ?_;refine c8 11 rfl ?_;refine gax (a2 (em (eK .u8) l17 ((IntKind.wrap .i64 ((l17.length : Int) - 3)).toNat)) h59b) ?_
            by_cases h62 : ¬ (l17.getD ((IntKind.wrap .i64 ((l17.length : Int) - 3)).toNat) default) = 98
            ·rw [iP h62] at hm;have h62b := bne_iff_ne.2 h62;refine aM ?_;refine gax (a2 h59b h62b) ?_;refine hk _ _ ?_;clear hk k;refine af rfl rfl ?_;refine ao [1, 2, 3, 7, 8, 10, 218] ?_;have ho63 := aA hm hr1;subst ho63;replace hm : some 0 = some r := hm1;refine ak ?_;refine ag (ab (ab (ag (aD (ab (ax ?_))))))
             cases hm
             exact kr 0
            ·rw [iN h62] at hm;have h62b : ((l17.getD ((IntKind.wrap .i64 ((l17.length : Int) - 3)).toNat) default) != 98) = false := bne_eq_false_iff_eq.2 (Decidable.not_not.1 h62);obtain ⟨⟨hg64a, hg64b⟩, hm⟩ := gd hm;refine aM ?_;refine gax (a2 (em (eK .u8) l17 ((IntKind.wrap .i64 ((l17.length : Int) - 2)).toNat)) (a2 (em (eK .u8) l17 ((IntKind.wrap .i64 ((l17.length : Int) - 1)).toNat)) (a2 h59b h62b))) ?_;refine hk _ _ ?_;clear hk k
             by_cases h65 : ¬ (l17.getD ((IntKind.wrap .i64 ((l17.length : Int) - 2)).toNat) default) = (l17.getD ((IntKind.wrap .i64 ((l17.length : Int) - 1)).toNat) default)
             ·rw [iP h65] at hm;refine af rfl (bne_iff_ne.2 h65) ?_;refine ao [1, 2, 3, 7, 8, 10, 218] ?_;have ho66 := aA hm hr1;subst ho66;replace hm : some 0 = some r := hm1;refine ak ?_;refine ag (ab (ab (ag (aD (ab (ax ?_))))))
              cases hm
              exact kr 0
             ·rw [iN h65] at hm;refine ai rfl (bne_eq_false_iff_eq.2 (Decidable.not_not.1 h65)) ?_;refine au ?_;refine am (hk9 _ _ ?_);obtain ⟨⟨hg67a, ⟨hg67bx, hg67by⟩⟩, hm⟩ := gd hm;refine st (em (eK .u8) l17 ((IntKind.wrap .i64 ((l17.length : Int) - 1)).toNat)) [0, 0, 2, 7, 0, 0, 32, 112, 240, 496, 1023, 2047] [false, false, false, false, false, false, false, false, false, false, true, true] ?_;refine ar (ar ?_);refine am (hk3 _ _ ?_);refine a8 ?_;refine aB (((l17.take ((IntKind.wrap .i64 ((l17.length : Int) - 3)).toNat)) ++ (lit ([(l17.getD ((IntKind.wrap .i64 ((l17.length : Int) - 1)).toNat) default)] : List Int))), (IntKind.wrap .i64 (x19 + 1))) (v18 + 1) hm ?_;exact ls
          ·rw [iN h58] at hm;refine ai rfl (nB h58) ?_;refine ao [32, 194, 231] ?_
           by_cases h68 : ((p2.getD x19.toNat default).op) = 8
           ·rw [iP h68] at hm;refine af rfl (eQ h68) ?_;obtain ⟨hg69a, hm⟩ := gd hm;refine bi (em ap.enc p1.vars (((p2.getD x19.toNat default).v).toNat)) [9, 230, 232, 233, 234, 235, 236, 237] ?_;refine aq fun k10 hk10 => ?_;refine cS [238, 239, 240, 241, 242, 243, 244, 245, 246, 247, 248, 249, 250, 251, 252, 253, 254, 255, 256, 257, 258, 259, 260, 261] (by kernel_rfl) [0, 1, 3, 7, 15, 31, 63, 127, 255, 255, 767, 2047, 4095, 8191, 16383, 32767, 65535, 65535, 196607, 524287, 1048575, 65535, 2162687, 8388607, 16777215] [true, true, true, true, true, true, true, true, false, false, false, true, true, true, true, true, false, false, false, false, false, false, false, true, true] (by kernel_rfl) fun k hk => ?_;refine c8 4 rfl ?_;refine ga ?_
            by_cases h70 : ((p1.vars.getD (((p2.getD x19.toNat default).v).toNat) default).n) = 0
            ·rw [iP h70] at hm;have h70b := eQ h70;refine aM ?_;refine gax h70b ?_;refine hk _ _ ?_;clear hk k;refine af rfl rfl ?_;refine ao [1, 2, 3, 7, 8, 10, 18, 262] ?_;have ho71 := aA hm hr1;subst ho71;replace hm : some 0 = some r := hm1;refine ak ?_;refine ag (ab (ab (ag (aD (ab (ax ?_))))))
             cases hm
             exact kr 0
            ·rw [iN h70] at hm;have h70b := nB h70;refine c8 4 rfl ?_;refine gax h70b ?_
             by_cases h72 : (l17.length : Int) < 2
             ·rw [iP h72] at hm;have h72b := dT h72;refine aM ?_;refine gax (a2 h70b h72b) ?_;refine hk _ _ ?_;clear hk k;refine af rfl rfl ?_;refine ao [1, 2, 3, 7, 8, 10, 18, 262] ?_;have ho73 := aA hm hr1;subst ho73;replace hm : some 0 = some r := hm1;refine ak ?_;refine ag (ab (ab (ag (aD (ab (ax ?_))))))
              cases hm
              exact kr 0
             ·rw [iN h72] at hm;have h72b := dF h72;obtain ⟨hg74a, hm⟩ := gd hm;refine c8 8 rfl ?_;refine gax (a2 (em (eK .u8) l17 ((IntKind.wrap .i64 ((l17.length : Int) - 2)).toNat)) (a2 h70b h72b)) ?_
              by_cases h75 : ¬ (l17.getD ((IntKind.wrap .i64 ((l17.length : Int) - 2)).toNat) default) = 105
              ·rw [iP h75] at hm;have h75b := bne_iff_ne.2 h75;refine aM ?_;refine gax (a2 h70b (a2 h72b h75b)) ?_;refine hk _ _ ?_;clear hk k;refine af rfl rfl ?_;refine ao [1, 2, 3, 7, 8, 10, 18, 262] ?_;have ho76 := aA hm hr1;subst ho76;replace hm : some 0 = some r := hm1;refine ak ?_;refine ag (ab (ab (ag (aD (ab (ax ?_))))))
               cases hm
               exact kr 0
              ·rw [iN h75] at hm;have h75b : ((l17.getD ((IntKind.wrap .i64 ((l17.length : Int) - 2)).toNat) default) != 105) = false := bne_eq_false_iff_eq.2 (Decidable.not_not.1 h75);obtain ⟨hg77a, hm⟩ := gd hm;refine aM ?_;refine gax (a2 (em (eK .u8) l17 ((IntKind.wrap .i64 ((l17.length : Int) - 1)).toNat)) (a2 h70b (a2 h72b h75b))) ?_;refine hk _ _ ?_;clear hk k
               by_cases h78 : ¬ (l17.getD ((IntKind.wrap .i64 ((l17.length : Int) - 1)).toNat) default) = ((p1.vars.getD (((p2.getD x19.toNat default).v).toNat) default).elem)
               ·rw [iP h78] at hm;refine af rfl (bne_iff_ne.2 h78) ?_;refine ao [1, 2, 3, 7, 8, 10, 18, 262] ?_;have ho79 := aA hm hr1;subst ho79;replace hm : some 0 = some r := hm1;refine ak ?_;refine ag (ab (ab (ag (aD (ab (ax ?_))))))
                cases hm
                exact kr 0
               ·rw [iN h78] at hm;refine ai rfl (bne_eq_false_iff_eq.2 (Decidable.not_not.1 h78)) ?_;refine au ?_;refine am (hk10 _ _ ?_);obtain ⟨⟨hg80a, ⟨hg80bx, hg80by⟩⟩, hm⟩ := gd hm;refine AS [0, 0, 2, 7, 0, 16, 48, 127, 255] [false, false, false, false, false, false, false, true, true] ?_;refine ar (ar ?_);refine am (hk3 _ _ ?_);refine a8 ?_;refine aB (((l17.take ((IntKind.wrap .i64 ((l17.length : Int) - 2)).toNat)) ++ (lit ([(p1.vars.getD (((p2.getD x19.toNat default).v).toNat) default).elem] : List Int))), (IntKind.wrap .i64 (x19 + 1))) (v18 + 1) hm ?_;exact ls
           ·rw [iN h68] at hm;refine ai rfl (nB h68) ?_;refine ao [1, 2, 3, 7, 8, 9, 10, 230] ?_;have ho81 := aA hm hr1;subst ho81;replace hm : some 0 = some r := hm1;refine ak ?_;refine ab (ab (ag (aD (ab (ax ?_)))))
            cases hm
            exact kr 0
   ·rw [iN h3] at hm;refine ai rfl (dF h3) ?_;refine bj ?_;have ho82 := aA hm hr1;subst ho82;replace hm : fw l17 = some r := hm1;refine aY (aQ (aF ?_));refine aw l17 v18 hm ?_;exact ls
 ·rintro l3 v4 hm;replace hm : fw l3 = some r := hm;refine aH ?_;unfold fw at hm;refine aq fun k1 hk1 => ?_;refine ao [271, 272] ?_
  by_cases h1 : ¬ (l3.length : Int) = 1
  ·rw [iP h1] at hm;refine af rfl (bne_iff_ne.2 h1) ?_;refine ao [7, 273] ?_;refine ak ?_;refine ag ?_
   cases hm
   exact kr 0
  ·rw [iN h1] at hm;refine ai rfl (bne_eq_false_iff_eq.2 (Decidable.not_not.1 h1)) ?_;refine au ?_;refine am (hk1 _ _ ?_);obtain ⟨hg2a, hm⟩ := gd hm;refine bi (em (eK .u8) l3 0) [7, 273, 274, 275, 276] ?_;refine ak ?_
   cases hm
   exact kr 0
theorem qk (p1 : ae) (p2 : ah) (r : Bool) (hm : aE p1 p2 = some r) : bu Try.prog 51 [.a [.tree 2 (p1.vars.map ap.enc), .tree 1 (p1.in_.map (eK .i64)), .tree 1 (p1.out_.map (eK .i64)), .tree 6 (p1.rules.map ah.enc)], .a [.int .i64 p2.op, .int .i64 p2.k, .int .i64 p2.out_, .int .i64 p2.n, .tree 1 (p2.a.map (eK .i64)), .tree 4 (p2.e.map aj.enc)]] (.c (.bool r)) := by
 refine aG 443 [.tmp 4] Try.func51 rfl rfl rfl (by kernel_rfl) (by simp) ?_;refine bk ?_;unfold aE at hm;refine ao [0, 1, 4] ?_;obtain ⟨hg1a, hm⟩ := gd hm;refine bi (em ap.enc p1.vars p2.out_.toNat) [12, 13, 14, 15, 16, 17] ?_;refine bz [] fun k kp hk hp => ?_;refine an 0 ?_;refine go ?_
 refine RS (uQ 2 ((List.replicate 3 (ap.mk 0 0)).map ap.enc) rfl (by first | kernel_rfl | rfl) (by decide) (by intro e he; simp only [List.mem_map] at he; obtain ⟨x, _, rfl⟩ := he; rfl) (by simp) (by simp)) ?_
 simp only [bR, bT, tab, bX, reduceIte, ↓reduceIte, reduceCtorEq, Int.reduceToNat, Nat.reduceDiv, Nat.reduceMod, Nat.reduceLT, Nat.reduceLeDiff, Nat.reduceAdd, Nat.reduceSub, Nat.reduceMul, Nat.reduceEqDiff, Nat.reduceBEq, Nat.reduceBNe, Nat.reduceGT];refine aa ?_;refine go ?_;refine hk _ _ ?_;clear hk hp k kp;refine i2 [.box [.tree 2 (p1.vars.map ap.enc), .tree 1 (p1.in_.map (eK .i64)), .tree 1 (p1.out_.map (eK .i64)), .tree 6 (p1.rules.map ah.enc)], .box [.int .i64 p2.op, .int .i64 p2.k, .int .i64 p2.out_, .int .i64 p2.n, .tree 1 (p2.a.map (eK .i64)), .tree 4 (p2.e.map aj.enc)], .box [.int .u8 ((p1.vars.getD p2.out_.toNat default).elem), .int .i64 ((p1.vars.getD p2.out_.toNat default).n)], .arr 2 0 148 ((List.replicate 3 (ap.mk 0 0)).map ap.enc)] ?_;refine aI (S := (List ap)) (V := Unit) [7, 18, 19, 20, 21, 22, 23, 24, 25, 26, 27, 28, 29, 30, 31, 32, 33, 34, 35] (fun l2 _ => []) (fun l2 _ => [.box [.tree 2 (p1.vars.map ap.enc), .tree 1 (p1.in_.map (eK .i64)), .tree 1 (p1.out_.map (eK .i64)), .tree 6 (p1.rules.map ah.enc)], .box [.int .i64 p2.op, .int .i64 p2.k, .int .i64 p2.out_, .int .i64 p2.n, .tree 1 (p2.a.map (eK .i64)), .tree 4 (p2.e.map aj.enc)], .box [.int .u8 ((p1.vars.getD p2.out_.toNat default).elem), .int .i64 ((p1.vars.getD p2.out_.toNat default).n)], .arr 2 0 148 (l2.map ap.enc)]) (fun l2 => aO p1 p2 l2 = some r) ?_ ?_
 ·skip;refine ao [] ?_
  refine az ?_;obtain ⟨o1, hl1, hm1⟩ := bd hm;refine aZ (S := ((List ap) × Int)) (V := Unit) (O := (List ap)) [7, 18, 19, 20, 21, 22, 23, 24, 25, 26, 27, 28, 29, 30, 31, 32, 33, 34, 35] (fun (l19, x20) _ => [(7, .c (.int .i64 x20))]) (fun (l19, x20) _ => [.box [.tree 2 (p1.vars.map ap.enc), .tree 1 (p1.in_.map (eK .i64)), .tree 1 (p1.out_.map (eK .i64)), .tree 6 (p1.rules.map ah.enc)], .box [.int .i64 p2.op, .int .i64 p2.k, .int .i64 p2.out_, .int .i64 p2.n, .tree 1 (p2.a.map (eK .i64)), .tree 4 (p2.e.map aj.enc)], .box [.int .u8 ((p1.vars.getD p2.out_.toNat default).elem), .int .i64 ((p1.vars.getD p2.out_.toNat default).n)], .arr 2 0 148 (l19.map ap.enc)]) _ _ () hl1 ?_ ?_
  ·exact ls
  ·rintro ⟨l19, x20⟩ _ r1 hm hr1;replace hm : bJ p1 p2 l19 x20 = some r1 := hm;refine aH ?_;unfold bJ at hm;refine aq fun k2 hk2 => ?_;refine ao [18, 19, 20, 21] ?_
   by_cases h95 : x20 < (p2.a.length : Int)
   ·rw [iP h95] at hm;refine af rfl (dT h95) ?_;refine au ?_;refine am (hk2 _ _ ?_);refine aq fun k3 hk3 => ?_;refine az ?_;obtain ⟨⟨hg96a, hg96b, hg96c, hg96d⟩, hm⟩ := gd hm;refine st (a2 (em (eK .i64) p2.a x20.toNat) (a2 (em ap.enc p1.vars ((p2.a.getD x20.toNat default).toNat)) (em ap.enc l19 x20.toNat))) [0, 0, 2, 0, 8, 0, 56, 120, 254, 510, 1023, 2047] [false, false, false, false, false, false, false, false, false, false, true, true] ?_;refine ar ?_;refine am (hk3 _ _ ?_);refine a8 ?_;refine aB ((l19.set x20.toNat (p1.vars.getD ((p2.a.getD x20.toNat default).toNat) default)), (IntKind.wrap .i64 (x20 + 1))) () hm ?_;exact ls
   ·rw [iN h95] at hm;refine ai rfl (dF h95) ?_;refine bj ?_;have ho97 := aA hm hr1;subst ho97;replace hm : aO p1 p2 l19 = some r := hm1;refine aY (aQ (aF ?_));refine aw l19 () hm ?_;exact ls
 ·rintro l2 _ hm;replace hm : aO p1 p2 l2 = some r := hm;refine aH ?_;unfold aO at hm;refine aL [36, 37, 38, 39, 40, 41, 42] fun k kp hk hp => ?_;refine go ?_;obtain ⟨y3, hc2, hm⟩ := bd hm;refine RP (fun _ => lL p2.k _ hc2) ?_;refine aa ?_;refine go ?_;refine hk _ _ ?_;clear hk hp k kp;refine ao [43] ?_;refine aq fun k1 hk1 => ?_;refine ao [44] ?_;refine az ?_;refine ao [47] ?_
  by_cases h3 : p2.op = 1
  ·rw [iP h3] at hm;refine af rfl (eQ h3) ?_;refine bz [2, 3, 5, 6, 8, 9, 10, 11, 45, 46, 48, 49, 50, 51, 52, 53, 54, 55, 56, 57, 58, 59, 60, 61, 62, 63, 64, 65] fun k kp hk hp => ?_;refine an 4 ?_;refine go ?_
   by_cases h4 : ((p1.vars.getD p2.out_.toNat default).elem) = 105 ∧ ((p1.vars.getD p2.out_.toNat default).n) = 0
   ·rw [iP h4] at hm
    have h4b : ((((p1.vars.getD p2.out_.toNat default).elem) == 105) && (((p1.vars.getD p2.out_.toNat default).n) == 0)) = true := by simpa [Bool.and_eq_true] using h4
    refine aa ?_;refine gox h4b ?_;refine hk _ _ ?_;clear hk hp k kp;refine ak ?_;refine ab (ag ?_)
    cases hm
    exact kr 0
   ·rw [iN h4] at hm;have h4b : ((((p1.vars.getD p2.out_.toNat default).elem) == 105) && (((p1.vars.getD p2.out_.toNat default).n) == 0)) = false := fB (fun hh => h4 (by simpa [Bool.and_eq_true] using hh));refine an 4 ?_;refine gox h4b ?_
    by_cases h5 : ((p1.vars.getD p2.out_.toNat default).elem) = 98 ∧ ((p1.vars.getD p2.out_.toNat default).n) = 0
    ·rw [iP h5] at hm
     have h5b : ((((p1.vars.getD p2.out_.toNat default).elem) == 98) && (((p1.vars.getD p2.out_.toNat default).n) == 0)) = true := by simpa [Bool.and_eq_true] using h5
     refine an 4 ?_;refine gox (a2 h4b h5b) ?_
     by_cases h6 : p2.n = 0
     ·rw [iP h6] at hm;have h6b := eQ h6;refine aa ?_;refine gox (a2 h4b (a2 h5b h6b)) ?_;refine hk _ _ ?_;clear hk hp k kp;refine ak ?_;refine ab (ag ?_)
      cases hm
      exact kr 0
     ·rw [iN h6] at hm;have h6b := nB h6;refine aa ?_;refine gox (a2 h4b (a2 h5b h6b)) ?_;refine hk _ _ ?_;clear hk hp k kp;refine ak ?_;refine ab (ag ?_)
      cases hm
      exact kr 0
    ·rw [iN h5] at hm;have h5b : ((((p1.vars.getD p2.out_.toNat default).elem) == 98) && (((p1.vars.getD p2.out_.toNat default).n) == 0)) = false := fB (fun hh => h5 (by simpa [Bool.and_eq_true] using hh));refine aa ?_;refine gox (a2 h4b h5b) ?_;refine hk _ _ ?_;clear hk hp k kp;refine ak ?_;refine ab (ag ?_)
     cases hm
     exact kr 0
  ·rw [iN h3] at hm;refine ai rfl (nB h3) ?_;refine ao [46, 67] ?_
   by_cases h7 : p2.op = 2
   ·rw [iP h7] at hm;refine af rfl (eQ h7) ?_;obtain ⟨⟨hg8a, hg8b⟩, hm⟩ := gd hm;refine bi (em ap.enc l2 0) [2, 3, 5, 6, 8, 9, 10, 11, 45, 66, 68, 69, 70, 71] ?_;refine ak ?_;refine ab (ag ?_)
    cases hm
    exact kr 0
   ·rw [iN h7] at hm;refine ai rfl (nB h7) ?_;refine ao [66, 73] ?_
    by_cases h9 : p2.op = 3
    ·rw [iP h9] at hm;refine af rfl (eQ h9) ?_
     by_cases h10 : y3.2.2 = 1
     ·rw [iP h10] at hm;have h10b := eQ h10;obtain ⟨⟨hg11a, hg11b⟩, hm⟩ := gd hm;refine bz [2, 3, 5, 6, 8, 9, 10, 11, 45, 72, 74, 75, 76, 77, 78, 79, 80, 81, 82, 83, 84, 85, 86, 87, 88, 89, 90, 91] fun k kp hk hp => ?_;refine an 10 ?_;refine gox (a2 (em ap.enc l2 0) h10b) ?_
      by_cases h12 : ((l2.getD 0 default).elem) = y3.1
      ·rw [iP h12] at hm;have h12b := eQ h12;refine aa ?_;refine gox (a2 (em ap.enc l2 0) (a2 h10b h12b)) ?_;refine hk _ _ ?_;clear hk hp k kp;refine ak ?_;refine ab (ag ?_)
       cases hm
       exact kr 0
      ·rw [iN h12] at hm;have h12b := nB h12;refine aa ?_;refine gox (a2 h10b h12b) ?_;refine hk _ _ ?_;clear hk hp k kp;refine ak ?_;refine ab (ag ?_)
       cases hm
       exact kr 0
     ·rw [iN h10] at hm;have h10b := nB h10;refine bi h10b [2, 3, 5, 6, 8, 9, 10, 11, 45, 72, 74, 75, 76, 77, 78, 79, 80, 81, 82, 83, 84, 85, 86, 87, 88, 89, 90, 91] ?_;refine ak ?_;refine ab (ag ?_)
      cases hm
      exact kr 0
    ·rw [iN h9] at hm;refine ai rfl (nB h9) ?_;refine ao [72, 93] ?_
     by_cases h13 : p2.op = 4
     ·rw [iP h13] at hm;refine af rfl (eQ h13) ?_
      by_cases h14 : y3.2.2 = 2
      ·rw [iP h14] at hm;have h14b := eQ h14;obtain ⟨⟨hg15a, hg15b⟩, hm⟩ := gd hm;refine bz [2, 3, 5, 6, 8, 9, 10, 11, 45, 92, 94, 95, 96, 97, 98, 99, 100, 101, 102, 103, 104, 105, 106, 107, 108, 109, 110, 111, 112, 113, 114, 115, 116, 117, 118] fun k kp hk hp => ?_;refine an 10 ?_;refine gox (a2 (em ap.enc l2 0) h14b) ?_
       by_cases h16 : ((l2.getD 0 default).elem) = y3.1
       ·rw [iP h16] at hm;have h16b := eQ h16;obtain ⟨⟨hg17a, hg17b⟩, hm⟩ := gd hm;refine an 7 ?_;refine gox (a2 (em ap.enc l2 1) (a2 (em ap.enc l2 0) (a2 h14b h16b))) ?_
        by_cases h18 : ((l2.getD 1 default).elem) = ((l2.getD 0 default).elem) ∧ ((l2.getD 1 default).n) = ((l2.getD 0 default).n)
        ·rw [iP h18] at hm
         have h18b : ((((l2.getD 1 default).elem) == ((l2.getD 0 default).elem)) && (((l2.getD 1 default).n) == ((l2.getD 0 default).n))) = true := by simpa [Bool.and_eq_true] using h18
         refine aa ?_;refine gox (a2 (em ap.enc l2 0) (a2 h14b (a2 h16b h18b))) ?_;refine hk _ _ ?_;clear hk hp k kp;refine ak ?_;refine ab (ag ?_)
         cases hm
         exact kr 0
        ·rw [iN h18] at hm;have h18b : ((((l2.getD 1 default).elem) == ((l2.getD 0 default).elem)) && (((l2.getD 1 default).n) == ((l2.getD 0 default).n))) = false := fB (fun hh => h18 (by simpa [Bool.and_eq_true] using hh));refine aa ?_;refine gox (a2 h14b (a2 h16b h18b)) ?_;refine hk _ _ ?_;clear hk hp k kp;refine ak ?_;refine ab (ag ?_)
         cases hm
         exact kr 0
       ·rw [iN h16] at hm;have h16b := nB h16;refine aa ?_;refine gox (a2 h14b h16b) ?_;refine hk _ _ ?_;clear hk hp k kp;refine ak ?_;refine ab (ag ?_)
        cases hm
        exact kr 0
      ·rw [iN h14] at hm;have h14b := nB h14;refine bi h14b [2, 3, 5, 6, 8, 9, 10, 11, 45, 92, 94, 95, 96, 97, 98, 99, 100, 101, 102, 103, 104, 105, 106, 107, 108, 109, 110, 111, 112, 113, 114, 115, 116, 117, 118] ?_;refine ak ?_;refine ab (ag ?_)
       cases hm
       exact kr 0
     ·rw [iN h13] at hm;refine ai rfl (nB h13) ?_;refine ao [9, 10, 92, 120] ?_
      by_cases h19 : p2.op = 5
      ·rw [iP h19] at hm;refine af rfl (eQ h19) ?_;obtain ⟨⟨hg20a, hg20b⟩, hm⟩ := gd hm;refine bz [2, 3, 5, 6, 8, 11, 45, 119, 121, 122, 123, 124, 125, 126, 127, 128, 129, 130, 131, 132, 133, 134, 135, 136] fun k kp hk hp => ?_;refine an 5 ?_;refine gox (em ap.enc l2 0) ?_
       by_cases h21 : ((l2.getD 0 default).elem) = 98 ∧ ((l2.getD 0 default).n) = 0
       ·rw [iP h21] at hm
        have h21b : ((((l2.getD 0 default).elem) == 98) && (((l2.getD 0 default).n) == 0)) = true := by simpa [Bool.and_eq_true] using h21
        obtain ⟨⟨hg22a, hg22b⟩, hm⟩ := gd hm;refine an 6 ?_;refine gox (a2 (em ap.enc l2 1) h21b) ?_
        by_cases h23 : ((l2.getD 1 default).elem) = ((p1.vars.getD p2.out_.toNat default).elem) ∧ ((l2.getD 1 default).n) = ((p1.vars.getD p2.out_.toNat default).n)
        ·rw [iP h23] at hm
         have h23b : ((((l2.getD 1 default).elem) == ((p1.vars.getD p2.out_.toNat default).elem)) && (((l2.getD 1 default).n) == ((p1.vars.getD p2.out_.toNat default).n))) = true := by simpa [Bool.and_eq_true] using h23
         obtain ⟨⟨hg24a, hg24b⟩, hm⟩ := gd hm;refine aa ?_;refine gox (a2 (em ap.enc l2 2) (a2 h21b h23b)) ?_;refine hk _ _ ?_;clear hk hp k kp;refine ak ?_;refine ab (ag ?_)
         cases hm
         exact kr 0
        ·rw [iN h23] at hm;have h23b : ((((l2.getD 1 default).elem) == ((p1.vars.getD p2.out_.toNat default).elem)) && (((l2.getD 1 default).n) == ((p1.vars.getD p2.out_.toNat default).n))) = false := fB (fun hh => h23 (by simpa [Bool.and_eq_true] using hh));refine aa ?_;refine gox (a2 h21b h23b) ?_;refine hk _ _ ?_;clear hk hp k kp;refine ak ?_;refine ab (ag ?_)
         cases hm
         exact kr 0
       ·rw [iN h21] at hm;have h21b : ((((l2.getD 0 default).elem) == 98) && (((l2.getD 0 default).n) == 0)) = false := fB (fun hh => h21 (by simpa [Bool.and_eq_true] using hh));refine aa ?_;refine gox h21b ?_;refine hk _ _ ?_;clear hk hp k kp;refine ak ?_;refine ab (ag ?_)
        cases hm
        exact kr 0
      ·rw [iN h19] at hm;refine ai rfl (nB h19) ?_;refine ao [119, 138] ?_
       by_cases h25 : p2.op = 6
       ·rw [iP h25] at hm;refine af rfl (eQ h25) ?_;refine aL [2, 3, 5, 6, 8, 11, 45, 137, 139, 140, 141, 142, 143, 144, 145, 146, 147, 148, 149, 150, 151, 152, 153, 154, 155, 156, 157, 158, 159, 160, 161, 162, 163, 164, 165, 166, 167] fun k kp hk hp => ?_;refine go ?_;obtain ⟨y4, hc26, hm⟩ := bd hm;refine RP (fun _ => kN p2.k _ hc26) ?_
        by_cases h27 : y4 = true
        ·rw [iP h27] at hm;have h27b := h27;obtain ⟨⟨hg28a, hg28b⟩, hm⟩ := gd hm;refine an 8 ?_;refine gox (a2 (em ap.enc l2 0) h27b) ?_
         by_cases h29 : ((l2.getD 0 default).elem) = y3.1 ∧ ((l2.getD 0 default).n) = 0
         ·rw [iP h29] at hm
          have h29b : ((((l2.getD 0 default).elem) == y3.1) && (((l2.getD 0 default).n) == 0)) = true := by simpa [Bool.and_eq_true] using h29
          obtain ⟨⟨hg30a, hg30b⟩, hm⟩ := gd hm;refine an 6 ?_;refine gox (a2 (em ap.enc l2 1) (a2 h27b h29b)) ?_
          by_cases h31 : ((l2.getD 1 default).n) > 0
          ·rw [iP h31] at hm;have h31b := dT h31;refine an 7 ?_;refine gox (a2 (em ap.enc l2 1) (a2 h27b (a2 h29b h31b))) ?_
           by_cases h32 : ((l2.getD 1 default).elem) = y3.1
           ·rw [iP h32] at hm;have h32b := eQ h32;refine aa ?_;refine gox (a2 (em ap.enc l2 0) (a2 h27b (a2 h29b (a2 h31b h32b)))) ?_;refine hk _ _ ?_;clear hk hp k kp;refine ak ?_;refine ab (ag ?_)
            cases hm
            exact kr 0
           ·rw [iN h32] at hm;have h32b := nB h32;refine aa ?_;refine gox (a2 h27b (a2 h29b (a2 h31b h32b))) ?_;refine hk _ _ ?_;clear hk hp k kp;refine ak ?_;refine ab (ag ?_)
            cases hm
            exact kr 0
          ·rw [iN h31] at hm;have h31b := dF h31;refine aa ?_;refine gox (a2 h27b (a2 h29b h31b)) ?_;refine hk _ _ ?_;clear hk hp k kp;refine ak ?_;refine ab (ag ?_)
           cases hm
           exact kr 0
         ·rw [iN h29] at hm;have h29b : ((((l2.getD 0 default).elem) == y3.1) && (((l2.getD 0 default).n) == 0)) = false := fB (fun hh => h29 (by simpa [Bool.and_eq_true] using hh));refine aa ?_;refine gox (a2 h27b h29b) ?_;refine hk _ _ ?_;clear hk hp k kp;refine ak ?_;refine ab (ag ?_)
          cases hm
          exact kr 0
        ·rw [iN h27] at hm;have h27b := fB h27;refine aa ?_;refine gox h27b ?_;refine hk _ _ ?_;clear hk hp k kp;refine ak ?_;refine ab (ag ?_)
         cases hm
         exact kr 0
       ·rw [iN h25] at hm;refine ai rfl (nB h25) ?_;refine ao [137, 169] ?_
        by_cases h33 : p2.op = 7
        ·rw [iP h33] at hm;refine af rfl (eQ h33) ?_;refine aL [2, 3, 5, 6, 8, 11, 45, 168, 170, 171, 172, 173, 174, 175, 176, 177, 178, 179, 180, 181, 182, 183, 184, 185, 186, 187, 188, 189, 190, 191, 192, 193, 194, 195, 196, 197, 198] fun k kp hk hp => ?_;refine go ?_;obtain ⟨y5, hc34, hm⟩ := bd hm;refine RP (fun _ => kN p2.k _ hc34) ?_
         by_cases h35 : y5 = true
         ·rw [iP h35] at hm;have h35b := h35;obtain ⟨⟨hg36a, hg36b⟩, hm⟩ := gd hm;refine an 8 ?_;refine gox (a2 (em ap.enc l2 0) h35b) ?_
          by_cases h37 : ((l2.getD 0 default).elem) = y3.1 ∧ ((l2.getD 0 default).n) = 0
          ·rw [iP h37] at hm
           have h37b : ((((l2.getD 0 default).elem) == y3.1) && (((l2.getD 0 default).n) == 0)) = true := by simpa [Bool.and_eq_true] using h37
           obtain ⟨⟨hg38a, hg38b⟩, hm⟩ := gd hm;refine an 6 ?_;refine gox (a2 (em ap.enc l2 1) (a2 h35b h37b)) ?_
           by_cases h39 : ((l2.getD 1 default).n) > 0
           ·rw [iP h39] at hm;have h39b := dT h39;refine an 7 ?_;refine gox (a2 (em ap.enc l2 1) (a2 h35b (a2 h37b h39b))) ?_
            by_cases h40 : ((l2.getD 1 default).elem) = y3.1
            ·rw [iP h40] at hm;have h40b := eQ h40;refine aa ?_;refine gox (a2 (em ap.enc l2 1) (a2 h35b (a2 h37b (a2 h39b h40b)))) ?_;refine hk _ _ ?_;clear hk hp k kp;refine ak ?_;refine ab (ag ?_)
             cases hm
             exact kr 0
            ·rw [iN h40] at hm;have h40b := nB h40;refine aa ?_;refine gox (a2 h35b (a2 h37b (a2 h39b h40b))) ?_;refine hk _ _ ?_;clear hk hp k kp;refine ak ?_;refine ab (ag ?_)
             cases hm
             exact kr 0
           ·rw [iN h39] at hm;have h39b := dF h39;refine aa ?_;refine gox (a2 h35b (a2 h37b h39b)) ?_;refine hk _ _ ?_;clear hk hp k kp;refine ak ?_;refine ab (ag ?_)
            cases hm
            exact kr 0
          ·rw [iN h37] at hm;have h37b : ((((l2.getD 0 default).elem) == y3.1) && (((l2.getD 0 default).n) == 0)) = false := fB (fun hh => h37 (by simpa [Bool.and_eq_true] using hh));refine aa ?_;refine gox (a2 h35b h37b) ?_;refine hk _ _ ?_;clear hk hp k kp;refine ak ?_;refine ab (ag ?_)
           cases hm
           exact kr 0
         ·rw [iN h35] at hm;have h35b := fB h35;refine aa ?_;refine gox h35b ?_;refine hk _ _ ?_;clear hk hp k kp;refine ak ?_;refine ab (ag ?_)
          cases hm
          exact kr 0
        ·rw [iN h33] at hm;refine ai rfl (nB h33) ?_;refine ao [168, 200] ?_
         by_cases h41 : p2.op = 8
         ·rw [iP h41] at hm;refine af rfl (eQ h41) ?_;obtain ⟨⟨hg42a, hg42b⟩, hm⟩ := gd hm;refine bz [2, 3, 5, 6, 8, 11, 45, 199, 201, 202, 203, 204, 205, 206, 207, 208, 209, 210, 211, 212, 213, 214, 215, 216, 217] fun k kp hk hp => ?_;refine an 5 ?_;refine gox (em ap.enc l2 0) ?_
          by_cases h43 : ((l2.getD 0 default).n) = 0
          ·rw [iP h43] at hm;have h43b := eQ h43;refine an 5 ?_;refine gox h43b ?_
           by_cases h44 : ((p1.vars.getD p2.out_.toNat default).n) > 0
           ·rw [iP h44] at hm;have h44b := dT h44;refine aa ?_;refine gox (a2 (em ap.enc l2 0) (a2 h43b h44b)) ?_;refine hk _ _ ?_;clear hk hp k kp;refine ak ?_;refine ab (ag ?_)
            cases hm
            exact kr 0
           ·rw [iN h44] at hm;have h44b := dF h44;refine aa ?_;refine gox (a2 h43b h44b) ?_;refine hk _ _ ?_;clear hk hp k kp;refine ak ?_;refine ab (ag ?_)
            cases hm
            exact kr 0
          ·rw [iN h43] at hm;have h43b := nB h43;refine aa ?_;refine gox h43b ?_;refine hk _ _ ?_;clear hk hp k kp;refine ak ?_;refine ab (ag ?_)
           cases hm
           exact kr 0
         ·rw [iN h41] at hm;refine ai rfl (nB h41) ?_;refine ao [199, 219] ?_
          by_cases h45 : p2.op = 9
          ·rw [iP h45] at hm;refine af rfl (eQ h45) ?_;obtain ⟨⟨hg46a, hg46b⟩, hm⟩ := gd hm;refine bz [2, 3, 5, 6, 8, 11, 45, 218, 220, 221, 222, 223, 224, 225, 226, 227, 228, 229, 230, 231, 232, 233, 234, 235, 236, 237, 238, 239, 240, 241, 242, 243, 244] fun k kp hk hp => ?_;refine an 5 ?_;refine gox (em ap.enc l2 0) ?_
           by_cases h47 : ((l2.getD 0 default).n) > 0
           ·rw [iP h47] at hm;have h47b := dT h47;obtain ⟨⟨hg48a, hg48b⟩, hm⟩ := gd hm;refine an 6 ?_;refine gox (a2 (em ap.enc l2 1) h47b) ?_
            by_cases h49 : ((l2.getD 1 default).elem) = 105 ∧ ((l2.getD 1 default).n) = 0
            ·rw [iP h49] at hm
             have h49b : ((((l2.getD 1 default).elem) == 105) && (((l2.getD 1 default).n) == 0)) = true := by simpa [Bool.and_eq_true] using h49
             obtain ⟨⟨hg50a, hg50b⟩, hm⟩ := gd hm;refine an 9 ?_;refine gox (a2 (em ap.enc l2 2) (a2 (em ap.enc l2 0) (a2 h47b h49b))) ?_
             by_cases h51 : ((l2.getD 2 default).elem) = ((l2.getD 0 default).elem) ∧ ((l2.getD 2 default).n) = 0
             ·rw [iP h51] at hm
              have h51b : ((((l2.getD 2 default).elem) == ((l2.getD 0 default).elem)) && (((l2.getD 2 default).n) == 0)) = true := by simpa [Bool.and_eq_true] using h51
              refine aa ?_;refine gox (a2 (em ap.enc l2 2) (a2 h47b (a2 h49b h51b))) ?_;refine hk _ _ ?_;clear hk hp k kp;refine ak ?_;refine ab (ag ?_)
              cases hm
              exact kr 0
             ·rw [iN h51] at hm;have h51b : ((((l2.getD 2 default).elem) == ((l2.getD 0 default).elem)) && (((l2.getD 2 default).n) == 0)) = false := fB (fun hh => h51 (by simpa [Bool.and_eq_true] using hh));refine aa ?_;refine gox (a2 h47b (a2 h49b h51b)) ?_;refine hk _ _ ?_;clear hk hp k kp;refine ak ?_;refine ab (ag ?_)
              cases hm
              exact kr 0
            ·rw [iN h49] at hm;have h49b : ((((l2.getD 1 default).elem) == 105) && (((l2.getD 1 default).n) == 0)) = false := fB (fun hh => h49 (by simpa [Bool.and_eq_true] using hh));refine aa ?_;refine gox (a2 h47b h49b) ?_;refine hk _ _ ?_;clear hk hp k kp;refine ak ?_;refine ab (ag ?_)
             cases hm
             exact kr 0
           ·rw [iN h47] at hm;have h47b := dF h47;refine aa ?_;refine gox h47b ?_;refine hk _ _ ?_;clear hk hp k kp;refine ak ?_;refine ab (ag ?_)
            cases hm
            exact kr 0
          ·rw [iN h45] at hm;refine ai rfl (nB h45) ?_;refine ao [218, 246] ?_
           by_cases h52 : p2.op = 10
           ·rw [iP h52] at hm;refine af rfl (eQ h52) ?_;obtain ⟨⟨hg53a, hg53b⟩, hm⟩ := gd hm;refine bz [2, 3, 5, 6, 8, 11, 45, 245, 247, 248, 249, 250, 251, 252, 253, 254, 255, 256, 257, 258, 259, 260, 261, 262, 263, 264, 265, 266, 267, 268, 269, 270, 271] fun k kp hk hp => ?_;refine an 5 ?_;refine gox (em ap.enc l2 0) ?_
            by_cases h54 : ((l2.getD 0 default).n) > 0
            ·rw [iP h54] at hm;have h54b := dT h54;obtain ⟨⟨hg55a, hg55b⟩, hm⟩ := gd hm;refine an 6 ?_;refine gox (a2 (em ap.enc l2 1) h54b) ?_
             by_cases h56 : ((l2.getD 1 default).elem) = 105 ∧ ((l2.getD 1 default).n) = 0
             ·rw [iP h56] at hm
              have h56b : ((((l2.getD 1 default).elem) == 105) && (((l2.getD 1 default).n) == 0)) = true := by simpa [Bool.and_eq_true] using h56
              obtain ⟨⟨hg57a, hg57b⟩, hm⟩ := gd hm;refine an 9 ?_;refine gox (a2 (em ap.enc l2 2) (a2 (em ap.enc l2 0) (a2 h54b h56b))) ?_
              by_cases h58 : ((l2.getD 2 default).elem) = ((l2.getD 0 default).elem) ∧ ((l2.getD 2 default).n) = 0
              ·rw [iP h58] at hm
               have h58b : ((((l2.getD 2 default).elem) == ((l2.getD 0 default).elem)) && (((l2.getD 2 default).n) == 0)) = true := by simpa [Bool.and_eq_true] using h58
               refine aa ?_;refine gox (a2 (em ap.enc l2 0) (a2 h54b (a2 h56b h58b))) ?_;refine hk _ _ ?_;clear hk hp k kp;refine ak ?_;refine ab (ag ?_)
               cases hm
               exact kr 0
              ·rw [iN h58] at hm;have h58b : ((((l2.getD 2 default).elem) == ((l2.getD 0 default).elem)) && (((l2.getD 2 default).n) == 0)) = false := fB (fun hh => h58 (by simpa [Bool.and_eq_true] using hh));refine aa ?_;refine gox (a2 h54b (a2 h56b h58b)) ?_;refine hk _ _ ?_;clear hk hp k kp;refine ak ?_;refine ab (ag ?_)
               cases hm
               exact kr 0
             ·rw [iN h56] at hm;have h56b : ((((l2.getD 1 default).elem) == 105) && (((l2.getD 1 default).n) == 0)) = false := fB (fun hh => h56 (by simpa [Bool.and_eq_true] using hh));refine aa ?_;refine gox (a2 h54b h56b) ?_;refine hk _ _ ?_;clear hk hp k kp;refine ak ?_;refine ab (ag ?_)
              cases hm
              exact kr 0
            ·rw [iN h54] at hm;have h54b := dF h54;refine aa ?_;refine gox h54b ?_;refine hk _ _ ?_;clear hk hp k kp;refine ak ?_;refine ab (ag ?_)
             cases hm
             exact kr 0
           ·rw [iN h52] at hm;refine ai rfl (nB h52) ?_;refine ao [11, 245, 273] ?_
            by_cases h59 : p2.op = 11
            ·rw [iP h59] at hm;refine af rfl (eQ h59) ?_;refine bz [2, 3, 5, 6, 8, 45, 272, 274, 275, 276, 277, 278, 279, 280, 281, 282, 283, 284, 285, 286, 287, 288, 289, 290, 291, 292, 293, 294, 295, 296, 297, 298, 299, 300, 301, 302, 303, 304, 305, 306, 307, 308, 309, 310, 311, 312, 313, 314] fun k kp hk hp => ?_;refine an 4 ?_;refine go ?_
             by_cases h60 : ((p1.vars.getD p2.out_.toNat default).n) > 0
             ·rw [iP h60] at hm;have h60b := dT h60;obtain ⟨⟨hg61a, hg61b⟩, hm⟩ := gd hm;refine an 6 ?_;refine gox (a2 (em ap.enc l2 0) h60b) ?_
              by_cases h62 : ((l2.getD 0 default).n) > 0
              ·rw [iP h62] at hm;have h62b := dT h62;refine an 8 ?_;refine gox (a2 (em ap.enc l2 0) (a2 h60b h62b)) ?_
               by_cases h63 : ((p1.vars.getD p2.out_.toNat default).elem) = ((l2.getD 0 default).elem)
               ·rw [iP h63] at hm;have h63b := eQ h63;refine an 5 ?_;refine gox (a2 h60b (a2 h62b h63b)) ?_
                by_cases h64 : p2.n ≥ 0
                ·rw [iP h64] at hm;have h64b := dT h64;refine an 8 ?_;refine gox (a2 (em ap.enc l2 0) (a2 h60b (a2 h62b (a2 h63b h64b)))) ?_
                 by_cases h65 : ((p1.vars.getD p2.out_.toNat default).n) ≤ ((l2.getD 0 default).n)
                 ·rw [iP h65] at hm;have h65b := dT h65;refine aa ?_;refine gox (a2 (em ap.enc l2 0) (a2 h60b (a2 h62b (a2 h63b (a2 h64b h65b))))) ?_;refine hk _ _ ?_;clear hk hp k kp;refine ak ?_;refine ab (ag ?_)
                  cases hm
                  exact kr 0
                 ·rw [iN h65] at hm;have h65b := dF h65;refine aa ?_;refine gox (a2 h60b (a2 h62b (a2 h63b (a2 h64b h65b)))) ?_;refine hk _ _ ?_;clear hk hp k kp;refine ak ?_;refine ab (ag ?_)
                  cases hm
                  exact kr 0
                ·rw [iN h64] at hm;have h64b := dF h64;refine aa ?_;refine gox (a2 h60b (a2 h62b (a2 h63b h64b))) ?_;refine hk _ _ ?_;clear hk hp k kp;refine ak ?_;refine ab (ag ?_)
                 cases hm
                 exact kr 0
               ·rw [iN h63] at hm;have h63b := nB h63;refine aa ?_;refine gox (a2 h60b (a2 h62b h63b)) ?_;refine hk _ _ ?_;clear hk hp k kp;refine ak ?_;refine ab (ag ?_)
                cases hm
                exact kr 0
              ·rw [iN h62] at hm;have h62b := dF h62;refine aa ?_;refine gox (a2 h60b h62b) ?_;refine hk _ _ ?_;clear hk hp k kp;refine ak ?_;refine ab (ag ?_)
               cases hm
               exact kr 0
             ·rw [iN h60] at hm;have h60b := dF h60;refine aa ?_;refine gox h60b ?_;refine hk _ _ ?_;clear hk hp k kp;refine ak ?_;refine ab (ag ?_)
              cases hm
              exact kr 0
            ·rw [iN h59] at hm;refine ai rfl (nB h59) ?_;refine ao [272, 316] ?_
             by_cases h66 : p2.op = 12
             ·rw [iP h66] at hm;refine af rfl (eQ h66) ?_;obtain ⟨⟨hg67a, hg67b⟩, hm⟩ := gd hm;refine bz [2, 3, 5, 6, 8, 45, 315, 317, 318, 319, 320, 321, 322, 323, 324, 325, 326, 327, 328, 329, 330, 331, 332, 333, 334, 335, 336, 337, 338, 339, 340, 341, 342, 343, 344, 345, 346, 347, 348, 349, 350] fun k kp hk hp => ?_;refine an 5 ?_;refine gox (em ap.enc l2 0) ?_
              by_cases h68 : ((l2.getD 0 default).n) > 0
              ·rw [iP h68] at hm;have h68b := dT h68;obtain ⟨⟨hg69a, hg69b⟩, hm⟩ := gd hm;refine an 6 ?_;refine gox (a2 (em ap.enc l2 1) h68b) ?_
               by_cases h70 : ((l2.getD 1 default).n) > 0
               ·rw [iP h70] at hm;have h70b := dT h70;refine an 9 ?_;refine gox (a2 (em ap.enc l2 0) (a2 (em ap.enc l2 1) (a2 h68b h70b))) ?_
                by_cases h71 : ((l2.getD 0 default).elem) = ((l2.getD 1 default).elem)
                ·rw [iP h71] at hm;have h71b := eQ h71;refine aa ?_;refine gox (a2 (em ap.enc l2 0) (a2 (em ap.enc l2 1) (a2 h68b (a2 h70b h71b)))) ?_;refine hk _ _ ?_;clear hk hp k kp;refine ak ?_;refine ab (ag ?_)
                 cases hm
                 exact kr 0
                ·rw [iN h71] at hm;have h71b := nB h71;refine aa ?_;refine gox (a2 h68b (a2 h70b h71b)) ?_;refine hk _ _ ?_;clear hk hp k kp;refine ak ?_;refine ab (ag ?_)
                 cases hm
                 exact kr 0
               ·rw [iN h70] at hm;have h70b := dF h70;refine aa ?_;refine gox (a2 h68b h70b) ?_;refine hk _ _ ?_;clear hk hp k kp;refine ak ?_;refine ab (ag ?_)
                cases hm
                exact kr 0
              ·rw [iN h68] at hm;have h68b := dF h68;refine aa ?_;refine gox h68b ?_;refine hk _ _ ?_;clear hk hp k kp;refine ak ?_;refine ab (ag ?_)
               cases hm
               exact kr 0
             ·rw [iN h66] at hm;refine ai rfl (nB h66) ?_;refine ao [315, 352] ?_
              by_cases h72 : p2.op = 13
              ·rw [iP h72] at hm;refine af rfl (eQ h72) ?_;obtain ⟨⟨hg73a, hg73b⟩, hm⟩ := gd hm;refine bz [2, 3, 5, 6, 8, 45, 351, 353, 354, 355, 356, 357, 358, 359, 360, 361, 362] fun k kp hk hp => ?_;refine an 5 ?_;refine gox (em ap.enc l2 0) ?_
               by_cases h74 : ((l2.getD 0 default).elem) = ((p1.vars.getD p2.out_.toNat default).elem) ∧ ((l2.getD 0 default).n) = ((p1.vars.getD p2.out_.toNat default).n)
               ·rw [iP h74] at hm
                have h74b : ((((l2.getD 0 default).elem) == ((p1.vars.getD p2.out_.toNat default).elem)) && (((l2.getD 0 default).n) == ((p1.vars.getD p2.out_.toNat default).n))) = true := by simpa [Bool.and_eq_true] using h74
                obtain ⟨⟨hg75a, hg75b⟩, hm⟩ := gd hm;refine aa ?_;refine gox (a2 (em ap.enc l2 1) h74b) ?_;refine hk _ _ ?_;clear hk hp k kp;refine ak ?_;refine ab (ag ?_)
                cases hm
                exact kr 0
               ·rw [iN h74] at hm;have h74b : ((((l2.getD 0 default).elem) == ((p1.vars.getD p2.out_.toNat default).elem)) && (((l2.getD 0 default).n) == ((p1.vars.getD p2.out_.toNat default).n))) = false := fB (fun hh => h74 (by simpa [Bool.and_eq_true] using hh));refine aa ?_;refine gox h74b ?_;refine hk _ _ ?_;clear hk hp k kp;refine ak ?_;refine ab (ag ?_)
                cases hm
                exact kr 0
              ·rw [iN h72] at hm;refine ai rfl (nB h72) ?_;refine ao [351, 364] ?_
               by_cases h76 : p2.op = 14
               ·rw [iP h76] at hm;refine af rfl (eQ h76) ?_;refine jx [2, 3, 5, 6, 8, 45, 363, 365, 366, 367, 368, 369, 370, 371, 372, 373, 374] (by kernel_rfl) [0, 0, 2, 0, 8, 24, 63, 0, 128, 511, 1023] [false, false, false, false, false, false, false, false, false, true, true] (by kernel_rfl) fun k hk => ?_;refine ga ?_;obtain ⟨y6, hc77, hm⟩ := bd hm;refine AP (fun _ => kM ((p1.vars.getD p2.out_.toNat default).n) _ hc77) ?_;refine ga ?_;obtain ⟨y7, hc78, hm⟩ := bd hm;refine AP (fun _ => nu p1 p2.e y6 _ hc78) ?_;refine ga ?_;refine hk _ _ ?_;clear hk k;refine ak ?_;refine ab (ag ?_)
                cases hm
                exact kr 0
               ·rw [iN h76] at hm;refine ai rfl (nB h76) ?_;refine ao [45, 363, 376] ?_
                by_cases h79 : p2.op = 15
                ·rw [iP h79] at hm;refine af rfl (eQ h79) ?_;refine aL [2, 3, 5, 6, 8, 375, 377, 378, 379, 380, 381, 382, 383, 384, 385, 386, 387, 388, 389, 390, 391, 392, 393, 394, 395, 396, 397, 398, 399, 400, 401, 402, 403, 404, 405, 406, 407, 408, 409, 410, 411] fun k kp hk hp => ?_;refine go ?_;obtain ⟨y8, hc80, hm⟩ := bd hm;refine RP (fun _ => kN p2.k _ hc80) ?_
                 by_cases h81 : y8 = true
                 ·rw [iP h81] at hm;have h81b := h81;refine an 7 ?_;refine gox h81b ?_
                  by_cases h82 : ((p1.vars.getD p2.out_.toNat default).elem) = y3.1 ∧ ((p1.vars.getD p2.out_.toNat default).n) = 0
                  ·rw [iP h82] at hm
                   have h82b : ((((p1.vars.getD p2.out_.toNat default).elem) == y3.1) && (((p1.vars.getD p2.out_.toNat default).n) == 0)) = true := by simpa [Bool.and_eq_true] using h82
                   obtain ⟨⟨hg83a, hg83b⟩, hm⟩ := gd hm;refine an 6 ?_;refine gox (a2 (em ap.enc l2 0) (a2 h81b h82b)) ?_
                   by_cases h84 : ((l2.getD 0 default).elem) = ((p1.vars.getD p2.out_.toNat default).elem) ∧ ((l2.getD 0 default).n) = ((p1.vars.getD p2.out_.toNat default).n)
                   ·rw [iP h84] at hm
                    have h84b : ((((l2.getD 0 default).elem) == ((p1.vars.getD p2.out_.toNat default).elem)) && (((l2.getD 0 default).n) == ((p1.vars.getD p2.out_.toNat default).n))) = true := by simpa [Bool.and_eq_true] using h84
                    refine an 5 ?_;refine gox (a2 h81b (a2 h82b h84b)) ?_
                    by_cases h85 : p2.n ≥ 1
                    ·rw [iP h85] at hm;have h85b := dT h85;refine an 5 ?_;refine gox (a2 h81b (a2 h82b (a2 h84b h85b))) ?_
                     by_cases h86 : p2.n ≤ 300
                     ·rw [iP h86] at hm;have h86b := dT h86;refine aa ?_;refine gox (a2 h81b (a2 h82b (a2 h84b (a2 h85b h86b)))) ?_;obtain ⟨y9, hc87, hm⟩ := bd hm;refine RP (fun _ => nu p1 p2.e p2.n _ hc87) ?_;refine aa ?_;refine gox (a2 h81b (a2 h82b (a2 h84b (a2 h85b h86b)))) ?_;refine hk _ _ ?_;clear hk hp k kp;refine ak ?_;refine ab (ag ?_)
                      cases hm
                      exact kr 0
                     ·rw [iN h86] at hm;have h86b := dF h86;refine aa ?_;refine gox (a2 h81b (a2 h82b (a2 h84b (a2 h85b h86b)))) ?_;refine hk _ _ ?_;clear hk hp k kp;refine ak ?_;refine ab (ag ?_)
                      cases hm
                      exact kr 0
                    ·rw [iN h85] at hm;have h85b := dF h85;refine aa ?_;refine gox (a2 h81b (a2 h82b (a2 h84b h85b))) ?_;refine hk _ _ ?_;clear hk hp k kp;refine ak ?_;refine ab (ag ?_)
                     cases hm
                     exact kr 0
                   ·rw [iN h84] at hm;have h84b : ((((l2.getD 0 default).elem) == ((p1.vars.getD p2.out_.toNat default).elem)) && (((l2.getD 0 default).n) == ((p1.vars.getD p2.out_.toNat default).n))) = false := fB (fun hh => h84 (by simpa [Bool.and_eq_true] using hh));refine aa ?_;refine gox (a2 h81b (a2 h82b h84b)) ?_;refine hk _ _ ?_;clear hk hp k kp;refine ak ?_;refine ab (ag ?_)
                    cases hm
                    exact kr 0
                  ·rw [iN h82] at hm;have h82b : ((((p1.vars.getD p2.out_.toNat default).elem) == y3.1) && (((p1.vars.getD p2.out_.toNat default).n) == 0)) = false := fB (fun hh => h82 (by simpa [Bool.and_eq_true] using hh));refine aa ?_;refine gox (a2 h81b h82b) ?_;refine hk _ _ ?_;clear hk hp k kp;refine ak ?_;refine ab (ag ?_)
                   cases hm
                   exact kr 0
                 ·rw [iN h81] at hm;have h81b := fB h81;refine aa ?_;refine gox h81b ?_;refine hk _ _ ?_;clear hk hp k kp;refine ak ?_;refine ab (ag ?_)
                  cases hm
                  exact kr 0
                ·rw [iN h79] at hm;refine ai rfl (nB h79) ?_;refine au ?_;refine ar ?_;refine am (hk1 _ _ ?_);refine aL [2, 3, 5, 6, 8, 375, 412, 413, 414, 415, 416, 417, 418, 419, 420, 421, 422, 423, 424, 425, 426, 427, 428, 429, 430, 431, 432, 433, 434, 435, 436, 437, 438, 439, 440, 441, 442] fun k kp hk hp => ?_;refine go ?_;obtain ⟨y10, hc88, hm⟩ := bd hm;refine RP (fun _ => kN p2.k _ hc88) ?_
                 by_cases h89 : y10 = true
                 ·rw [iP h89] at hm;have h89b := h89;refine an 6 ?_;refine gox h89b ?_
                  by_cases h90 : ((p1.vars.getD p2.out_.toNat default).n) > 0
                  ·rw [iP h90] at hm;have h90b := dT h90;refine an 6 ?_;refine gox (a2 h89b h90b) ?_
                   by_cases h91 : ((p1.vars.getD p2.out_.toNat default).elem) = y3.1
                   ·rw [iP h91] at hm;have h91b := eQ h91;obtain ⟨⟨hg92a, hg92b⟩, hm⟩ := gd hm;refine an 7 ?_;refine gox (a2 (em ap.enc l2 0) (a2 h89b (a2 h90b h91b))) ?_
                    by_cases h93 : ((l2.getD 0 default).elem) = y3.1 ∧ ((l2.getD 0 default).n) = 0
                    ·rw [iP h93] at hm
                     have h93b : ((((l2.getD 0 default).elem) == y3.1) && (((l2.getD 0 default).n) == 0)) = true := by simpa [Bool.and_eq_true] using h93
                     refine aa ?_;refine gox (a2 h89b (a2 h90b (a2 h91b h93b))) ?_;obtain ⟨y11, hc94, hm⟩ := bd hm;refine RP (fun _ => nu p1 p2.e ((p1.vars.getD p2.out_.toNat default).n) _ hc94) ?_;refine aa ?_;refine gox (a2 h89b (a2 h90b (a2 h91b h93b))) ?_;refine hk _ _ ?_;clear hk hp k kp;refine ak ?_
                     cases hm
                     exact kr 0
                    ·rw [iN h93] at hm;have h93b : ((((l2.getD 0 default).elem) == y3.1) && (((l2.getD 0 default).n) == 0)) = false := fB (fun hh => h93 (by simpa [Bool.and_eq_true] using hh));refine aa ?_;refine gox (a2 h89b (a2 h90b (a2 h91b h93b))) ?_;refine hk _ _ ?_;clear hk hp k kp;refine ak ?_
                     cases hm
                     exact kr 0
                   ·rw [iN h91] at hm;have h91b := nB h91;refine aa ?_;refine gox (a2 h89b (a2 h90b h91b)) ?_;refine hk _ _ ?_;clear hk hp k kp;refine ak ?_
                    cases hm
                    exact kr 0
                  ·rw [iN h90] at hm;have h90b := dF h90;refine aa ?_;refine gox (a2 h89b h90b) ?_;refine hk _ _ ?_;clear hk hp k kp;refine ak ?_
                   cases hm
                   exact kr 0
                 ·rw [iN h89] at hm;have h89b := fB h89;refine aa ?_;refine gox h89b ?_;refine hk _ _ ?_;clear hk hp k kp;refine ak ?_
                  cases hm
                  exact kr 0
end Pam
