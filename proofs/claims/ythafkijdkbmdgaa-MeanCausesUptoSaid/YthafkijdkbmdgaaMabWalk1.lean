/- the walk of slices_Clone_int_int, printed by a program of ours -/
import Derived.Test.YthafkijdkbmdgaaMBase2
import Derived.Test.YthafkijdkbmdgaaMBase3
import Derived.Test.YthafkijdkbmdgaaMabFun1
import Derived.Test.YthafkijdkbmdgaaMTypes1
set_option linter.all false
set_option maxRecDepth 100000
set_option maxHeartbeats 8000000
namespace Pam
open Go Go.Proofs
theorem eP (p1 : List Int) (r : (List Int)) (hm : bJ p1 = some r) : da Try.prog 27 [.c (.tree 1 (p1.map (eK .i64)))] [] (fun p σ => (p = .c (.osl 0 1 0 r.length) ∧ σ = [.arr 1 1 3 (r.map (eK .i64))])) (fun _ _ => False) := by
 refine aC 8 [.tmp 2] Try.func27 rfl rfl rfl (by kernel_rfl) (by simp) ?_;refine bo ?_;unfold bJ at hm;refine ak [2] ?_;refine ap fun k1 hk1 => ?_
 by_cases h1 : p1 = []
 ·rw [iP h1] at hm;refine nY 0 (s := 1) (by rw [h1]; rfl) ?_ ?_
  ·refine oq ?_;refine ak [3] ?_;refine af rfl rfl ?_;refine ak [0, 4] ?_;refine dq (fg 2 1 3 (by decide) rfl (Nat.le_of_ble_eq_true rfl)) ?_;refine ma ?_;refine dq (kL 1 3 (by decide)) ?_;simp only [bZ, bL, reduceIte, ↓reduceIte, reduceCtorEq, Int.reduceToNat, Nat.reduceDiv, Nat.reduceMod, Nat.reduceLT, Nat.reduceLeDiff, Nat.reduceAdd, Nat.reduceSub, Nat.reduceMul, Nat.reduceEqDiff, Nat.reduceBEq, Nat.reduceBNe, Nat.reduceGT, List.length_cons, List.length_nil, List.length_append, List.cons_append, List.nil_append];refine eW (l7 1 0 (by decide) rfl rfl) ?_;refine eW (jK 0 1 (by decide) (Nat.le_of_ble_eq_true rfl) (Nat.le_of_ble_eq_true rfl) rfl rfl) ?_;refine am ?_;refine ag ?_
   cases hm
   exact kr 1
  ·refine oq ?_;refine ak [3] ?_;refine ai rfl rfl ?_;refine au ?_;refine an (hk1 _ _ ?_);refine ak [0, 4, 5, 6, 7] ?_;refine fo [.arr 1 1 3 ([].map (eK .i64))] ?_;refine am ?_
   cases hm
   exact kr 1
 ·rw [iN h1] at hm;refine ak [3] ?_;refine ai rfl rfl ?_;refine au ?_;refine an (hk1 _ _ ?_);obtain ⟨⟨hg2ax, hg2ay⟩, hm⟩ := gd hm;refine ak [0, 4, 5, 6, 7] ?_;refine fo [.arr 1 1 3 (p1.map (eK .i64))] ?_;refine am ?_
  cases hm
  exact kr 1
theorem jr (p1 : Int) (p2 : ax) (r : Bool) (hm : fP p1 p2 = some r) : da Try.prog 89 [.c (.optr 0 0), .c (.int .i64 p1)] [.box [.tree 2 (p2.system.vars.map ah.enc), .tree 1 (p2.system.in_.map (eK .i64)), .tree 1 (p2.system.out_.map (eK .i64)), .tree 6 (p2.system.rules.map ab.enc), .int .i64 p2.code]] (fun p σ => (p = .c (.bool r) ∧ σ = [.box [.tree 2 (p2.system.vars.map ah.enc), .tree 1 (p2.system.in_.map (eK .i64)), .tree 1 (p2.system.out_.map (eK .i64)), .tree 6 (p2.system.rules.map ab.enc), .int .i64 p2.code]])) (fun _ _ => False) := by
 refine aC 17 [.tmp 4] Try.func89 rfl rfl rfl (by kernel_rfl) (by simp) ?_;refine bo ?_;unfold fP at hm;refine ak [4] ?_
 by_cases h1 : p1 ≥ 0
 ·rw [iP h1] at hm;have h1b := dT h1;refine bU h1b [0, 1, 5, 6, 7, 8, 9, 10, 11, 12, 13, 14, 15, 16] ?_;refine am ?_
  cases hm
  exact kr 1
 ·rw [iN h1] at hm;have h1b := dF h1;refine bU h1b [0, 1, 5, 6, 7, 8, 9, 10, 11, 12, 13, 14, 15, 16] ?_;refine am ?_
  cases hm
  exact kr 1
theorem me (p1 : List Int) (p2 : Int) (r : Int) (hm : eA p1 p2 = some r) : dw Try.prog 102 [.c (.tree 1 (p1.map (eK .i64))), .c (.int .i64 p2)] (.c (.int .i64 r)) := by
 refine aC 19 [.tmp 4] Try.func102 rfl rfl rfl (by kernel_rfl) (by simp) ?_;refine bo ?_;unfold eA at hm;refine ak [4] ?_;refine aH (S := Unit) (V := Unit) [0, 1, 4, 5, 6, 7, 8, 9, 10, 11, 12, 13, 14, 15, 16, 17, 18] (fun _ _ => []) (fun _ _ => []) (fun _ => dC = some r) ?_ ?_
 ·skip;refine ak [6] ?_
  refine aw ?_;obtain ⟨o1, hl1, hm1⟩ := bd hm;refine bj (S := Int) (V := Unit) (O := Unit ⊕ Int) [4, 5, 8, 9, 10, 11, 12, 13, 14, 15, 16, 17, 18] (fun x3 _ => [(8, .c (.int .i64 x3))]) (fun x3 _ => []) _ _ () hl1 ?_ ?_
  ·exact ls
  ·rintro x3 _ r1 hm hr1;replace hm : dD p1 p2 x3 = some r1 := hm;refine aM ?_;unfold dD at hm;refine ak [] ?_;refine ap fun k1 hk1 => ?_
   by_cases h1 : x3 < (p1.length : Int)
   ·rw [iP h1] at hm;refine af rfl (dT h1) ?_;refine au ?_;refine an (hk1 _ _ ?_);refine ap fun k2 hk2 => ?_;refine aw ?_;refine ak [9, 10] ?_;obtain ⟨hg2a, hm⟩ := gd hm;refine bU (em (eK .i64) p1 x3.toNat) [11, 12, 13, 14, 15] ?_
    by_cases h3 : p2 = (p1.getD x3.toNat default)
    ·rw [iP h3] at hm;refine af rfl (eQ h3) ?_;refine ak [0, 1, 5, 7, 8, 16, 17] ?_;have ho4 := aQ hm hr1;subst ho4;replace hm : some x3 = some r := hm1;refine am ?_;refine aj (ag (bC (aj (aZ ?_))))
     cases hm
     exact kr 0
    ·rw [iN h3] at hm;refine ai rfl (nB h3) ?_;refine au ?_;refine aB ?_;refine an (hk2 _ _ ?_);refine ck ?_;refine aL (IntKind.wrap .i64 (x3 + 1)) () hm ?_;exact ls
   ·rw [iN h1] at hm;refine ai rfl (dF h1) ?_;refine bB ?_;have ho5 := aQ hm hr1;subst ho5;replace hm : dC = some r := hm1;refine bg (aY (aG ?_));refine ay () () hm ?_;exact ls
 ·rintro _ _ hm;replace hm : dC = some r := hm;refine aM ?_;unfold dC at hm;refine ak [] ?_;refine am ?_
  cases hm
  exact kr 0
theorem lj (p1 : List Int) (p2 : Int) (r : Bool) (hm : dE p1 p2 = some r) : dw Try.prog 90 [.c (.tree 1 (p1.map (eK .i64))), .c (.int .i64 p2)] (.c (.bool r)) := by
 refine aC 9 [.tmp 4] Try.func90 rfl rfl rfl (by kernel_rfl) (by simp) ?_;refine bo ?_;unfold dE at hm;refine ak [4] ?_;refine aF [0, 1, 5, 6, 7, 8] fun k kp hk hp => ?_;refine go ?_;obtain ⟨y1, hc1, hm⟩ := bd hm;refine RP (fun _ => me p1 p2 _ hc1) ?_;refine aa ?_;refine go ?_;refine hk _ _ ?_;clear hk hp k kp;refine am ?_
 cases hm
 exact kr 0
theorem pB (p1 : ax) (r : av) (hm : iD p1 = some r) : da Try.prog 72 [.c (.optr 0 0)] [.box [.tree 2 (p1.system.vars.map ah.enc), .tree 1 (p1.system.in_.map (eK .i64)), .tree 1 (p1.system.out_.map (eK .i64)), .tree 6 (p1.system.rules.map ab.enc), .int .i64 p1.code]] (fun p σ => (p = .a [.int .i64 ((r).code), .int .i64 ((r).at_)] ∧ σ = [.box [.tree 2 (p1.system.vars.map ah.enc), .tree 1 (p1.system.in_.map (eK .i64)), .tree 1 (p1.system.out_.map (eK .i64)), .tree 6 (p1.system.rules.map ab.enc), .int .i64 p1.code]])) (fun _ _ => False) := by
 refine aC 122 [.cell 2 35] Try.func72 rfl rfl rfl (by kernel_rfl) (by simp) ?_;refine bo ?_;unfold iD at hm;refine ak [] ?_;refine ap fun k1 hk1 => ?_;refine bl [9, 10, 11, 12, 13, 14, 15, 16, 17, 18, 19, 20, 21, 22, 23, 24, 25, 26, 27, 28, 29, 30, 31, 32, 33, 34, 35, 36, 37, 38, 39, 40, 41] fun k kp hk hp => ?_;refine ao 8 ?_;refine go ?_
 by_cases h1 : (p1.system.vars.length : Int) > 400
 ·rw [iP h1] at hm;have h1b := dT h1;refine aa ?_;refine gox h1b ?_;refine hk _ _ ?_;clear hk hp k kp;refine af rfl rfl ?_;refine ak [0, 42, 43] ?_;refine am ?_;refine ag ?_
  cases hm
  exact kr 1
 ·rw [iN h1] at hm;have h1b := dF h1;refine ao 9 ?_;refine gox h1b ?_
  by_cases h2 : (p1.system.rules.length : Int) > 400
  ·rw [iP h2] at hm;have h2b := dT h2;refine aa ?_;refine gox (a2 h1b h2b) ?_;refine hk _ _ ?_;clear hk hp k kp;refine af rfl rfl ?_;refine ak [0, 42, 43] ?_;refine am ?_;refine ag ?_
   cases hm
   exact kr 1
  ·rw [iN h2] at hm;have h2b := dF h2;refine ao 9 ?_;refine gox (a2 h1b h2b) ?_
   by_cases h3 : (p1.system.in_.length : Int) > 400
   ·rw [iP h3] at hm;have h3b := dT h3;refine aa ?_;refine gox (a2 h1b (a2 h2b h3b)) ?_;refine hk _ _ ?_;clear hk hp k kp;refine af rfl rfl ?_;refine ak [0, 42, 43] ?_;refine am ?_;refine ag ?_
    cases hm
    exact kr 1
   ·rw [iN h3] at hm;have h3b := dF h3;refine aa ?_;refine gox (a2 h1b (a2 h2b h3b)) ?_;refine hk _ _ ?_;clear hk hp k kp
    by_cases h4 : (p1.system.out_.length : Int) > 400
    ·rw [iP h4] at hm;refine af rfl (dT h4) ?_;refine ak [0, 42, 43] ?_;refine am ?_;refine ag ?_
     cases hm
     exact kr 1
    ·rw [iN h4] at hm;refine ai rfl (dF h4) ?_;refine au ?_;refine an (hk1 _ _ ?_);refine aH (S := Unit) (V := Unit) [3, 4, 42, 44, 45, 46, 47, 48, 49, 50, 51, 52, 53, 54, 55, 56, 57, 58, 59, 60, 61, 62, 63, 64, 65, 66, 67, 68, 69, 70, 71, 72, 73, 74, 75, 76, 77] (fun _ _ => []) (fun _ _ => [.box [.tree 2 (p1.system.vars.map ah.enc), .tree 1 (p1.system.in_.map (eK .i64)), .tree 1 (p1.system.out_.map (eK .i64)), .tree 6 (p1.system.rules.map ab.enc), .int .i64 p1.code], .box [.int .i64 0, .int .i64 0]]) (fun _ => dg p1 = some r) ?_ ?_
     ·skip;refine ak [42, 44, 45, 46, 47] ?_
      refine aw ?_;obtain ⟨o3, hl3, hm3⟩ := bd hm;refine bj (S := Int) (V := Unit) (O := Unit ⊕ av) [3, 4, 50, 51, 52, 53, 54, 55, 56, 57, 58, 59, 60, 61, 62, 63, 64, 65, 66, 67, 68, 69, 70, 71, 72, 73, 74, 75, 76, 77] (fun x14 _ => [(50, .c (.int .i64 x14))]) (fun x14 _ => [.box [.tree 2 (p1.system.vars.map ah.enc), .tree 1 (p1.system.in_.map (eK .i64)), .tree 1 (p1.system.out_.map (eK .i64)), .tree 6 (p1.system.rules.map ab.enc), .int .i64 p1.code], .box [.int .i64 0, .int .i64 0]]) _ _ () hl3 ?_ ?_
      ·exact ls
      ·rintro x14 _ r3 hm hr3;replace hm : eH p1 x14 = some r3 := hm;refine aM ?_;unfold eH at hm;refine ak [] ?_;refine ap fun k7 hk7 => ?_
       by_cases h23 : x14 < (p1.system.vars.length : Int)
       ·rw [iP h23] at hm;refine af rfl (dT h23) ?_;refine au ?_;refine an (hk7 _ _ ?_);refine ap fun k8 hk8 => ?_;refine aw ?_;obtain ⟨hg24a, hm⟩ := gd hm;refine bU (em ah.enc p1.system.vars x14.toNat) [51, 52, 53, 54] ?_;refine aH (S := Unit) (V := Unit) [55, 56, 57, 58, 59, 60, 61, 62, 63, 64, 65] (fun _ _ => []) (fun _ _ => [.box [.tree 2 (p1.system.vars.map ah.enc), .tree 1 (p1.system.in_.map (eK .i64)), .tree 1 (p1.system.out_.map (eK .i64)), .tree 6 (p1.system.rules.map ab.enc), .int .i64 p1.code], .box [.int .i64 0, .int .i64 0], .box [.int .u8 ((p1.system.vars.getD x14.toNat default).elem), .int .i64 ((p1.system.vars.getD x14.toNat default).n)]]) (fun _ => dO p1 x14 = some r3) ?_ ?_
        ·skip;refine bl [55, 56, 57, 58, 59, 60, 61] fun k kp hk hp => ?_
         refine ao 4 ?_;refine go ?_
         by_cases h29 : ¬ ((p1.system.vars.getD x14.toNat default).elem) = 105
         ·rw [iP h29] at hm;have h29b := bne_iff_ne.2 h29;refine aa ?_;refine gox h29b ?_;refine hk _ _ ?_;clear hk hp k kp
          by_cases h30 : ¬ ((p1.system.vars.getD x14.toNat default).elem) = 98
          ·rw [iP h30] at hm;refine af rfl (bne_iff_ne.2 h30) ?_;refine ak [0, 3, 4, 48, 49, 50, 62, 63, 64, 65] ?_;have ho31 := aQ hm hr3;subst ho31;replace hm : some (av.mk 10 (IntKind.wrap .i64 ((-2) - x14))) = some r := hm3;refine am ?_;refine aZ (aj (ag (bC (aj (aZ ?_)))))
           cases hm
           exact kr 1
          ·rw [iN h30] at hm;refine ai rfl (bne_eq_false_iff_eq.2 (Decidable.not_not.1 h30)) ?_;refine au ?_;refine ay () () hm ?_;exact ls
         ·rw [iN h29] at hm;have h29b : (((p1.system.vars.getD x14.toNat default).elem) != 105) = false := bne_eq_false_iff_eq.2 (Decidable.not_not.1 h29);refine aa ?_;refine gox h29b ?_;refine hk _ _ ?_;clear hk hp k kp;refine ai rfl rfl ?_;refine au ?_;refine ay () () hm ?_;exact ls
        ·rintro _ _ hm;replace hm : dO p1 x14 = some r3 := hm;refine aM ?_;unfold dO at hm;refine bl [4, 66, 67, 68, 69, 70, 71, 72] fun k kp hk hp => ?_;refine ao 4 ?_;refine go ?_
         by_cases h25 : ((p1.system.vars.getD x14.toNat default).n) < 0
         ·rw [iP h25] at hm;have h25b := dT h25;refine aa ?_;refine gox h25b ?_;refine hk _ _ ?_;clear hk hp k kp;refine af rfl rfl ?_;refine ak [0, 3, 48, 49, 50, 73, 74, 75, 76] ?_;have ho26 := aQ hm hr3;subst ho26;replace hm : some (av.mk 13 (IntKind.wrap .i64 ((-2) - x14))) = some r := hm3;refine am ?_;refine aj (ag (bC (aj (aZ ?_))))
          cases hm
          exact kr 1
         ·rw [iN h25] at hm;have h25b := dF h25;refine aa ?_;refine gox h25b ?_;refine hk _ _ ?_;clear hk hp k kp
          by_cases h27 : ((p1.system.vars.getD x14.toNat default).n) > 300
          ·rw [iP h27] at hm;refine af rfl (dT h27) ?_;refine ak [0, 3, 48, 49, 50, 73, 74, 75, 76] ?_;have ho28 := aQ hm hr3;subst ho28;replace hm : some (av.mk 13 (IntKind.wrap .i64 ((-2) - x14))) = some r := hm3;refine am ?_;refine aj (ag (bC (aj (aZ ?_))))
           cases hm
           exact kr 1
          ·rw [iN h27] at hm;refine ai rfl (dF h27) ?_;refine au ?_;refine aB ?_;refine an (hk8 _ _ ?_);refine ck ?_;refine aL (IntKind.wrap .i64 (x14 + 1)) () hm ?_;exact ls
       ·rw [iN h23] at hm;refine ai rfl (dF h23) ?_;refine bB ?_;have ho32 := aQ hm hr3;subst ho32;replace hm : dg p1 = some r := hm3;refine bg (aY (aG ?_));refine ay () () hm ?_;exact ls
     ·rintro _ _ hm;replace hm : dg p1 = some r := hm;refine aM ?_;unfold dg at hm;refine aH (S := Unit) (V := Unit) [5, 6, 78, 79, 80, 81, 82, 83, 84, 85, 86, 87, 88, 89, 90, 91, 92, 93, 94, 95, 96, 97, 98, 99, 100, 101, 102, 103, 104] (fun _ _ => []) (fun _ _ => [.box [.tree 2 (p1.system.vars.map ah.enc), .tree 1 (p1.system.in_.map (eK .i64)), .tree 1 (p1.system.out_.map (eK .i64)), .tree 6 (p1.system.rules.map ab.enc), .int .i64 p1.code], .box [.int .i64 0, .int .i64 0]]) (fun _ => dN p1 = some r) ?_ ?_
      ·skip;refine ak [78, 79, 80, 81] ?_
       refine aw ?_;obtain ⟨o2, hl2, hm2⟩ := bd hm;refine bj (S := Int) (V := Unit) (O := Unit ⊕ av) [5, 6, 84, 85, 86, 87, 88, 89, 90, 91, 92, 93, 94, 95, 96, 97, 98, 99, 100, 101, 102, 103, 104] (fun x8 _ => [(84, .c (.int .i64 x8))]) (fun x8 _ => [.box [.tree 2 (p1.system.vars.map ah.enc), .tree 1 (p1.system.in_.map (eK .i64)), .tree 1 (p1.system.out_.map (eK .i64)), .tree 6 (p1.system.rules.map ab.enc), .int .i64 p1.code], .box [.int .i64 0, .int .i64 0]]) _ _ () hl2 ?_ ?_
       ·exact ls
       ·rintro x8 _ r2 hm hr2;replace hm : fS p1 x8 = some r2 := hm;refine aM ?_;unfold fS at hm;refine ak [] ?_;refine ap fun k4 hk4 => ?_
        by_cases h12 : x8 < (p1.system.in_.length : Int)
        ·rw [iP h12] at hm;refine af rfl (dT h12) ?_;refine au ?_;refine an (hk4 _ _ ?_);refine ap fun k5 hk5 => ?_;refine aw ?_;obtain ⟨hg13a, hm⟩ := gd hm;refine bU (em (eK .i64) p1.system.in_ x8.toNat) [85, 86, 87, 88] ?_;refine ap fun k6 hk6 => ?_;refine aF [89, 90, 91] fun k kp hk hp => ?_;refine go ?_;obtain ⟨y9, hc14, hm⟩ := bd hm;refine RA (jr (p1.system.in_.getD x8.toNat default) p1  _ hc14) [0] ?_;rintro p σ' ⟨rfl, rfl⟩ _;refine aa ?_;refine go ?_;refine hk _ _ ?_;clear hk hp k kp
         by_cases h16 : y9 = true
         ·rw [iP h16] at hm;refine ai rfl (by rw [show y9 = true from (h16)]; rfl) ?_;refine au ?_;refine an (hk6 _ _ ?_);obtain ⟨hg17a, hm⟩ := gd hm;refine aF [5, 6, 92, 94, 95, 96, 97, 98, 99, 100, 101] fun k kp hk hp => ?_;refine go ?_;obtain ⟨y10, hc18, hm⟩ := bd hm;refine RP (fun _ => lj (p1.system.in_.take x8.toNat) (p1.system.in_.getD x8.toNat default) _ hc18) ?_;refine aa ?_;refine go ?_;refine hk _ _ ?_;clear hk hp k kp
          by_cases h19 : y10 = true
          ·rw [iP h19] at hm;refine af rfl (h19) ?_;refine ak [0, 82, 83, 84, 102, 103] ?_;have ho20 := aQ hm hr2;subst ho20;replace hm : some (av.mk 8 (-1)) = some r := hm2;refine am ?_;refine aj (ag (bC (aj (aZ ?_))))
           cases hm
           exact kr 1
          ·rw [iN h19] at hm;refine ai rfl (fB h19) ?_;refine au ?_;refine aB ?_;refine an (hk5 _ _ ?_);refine ck ?_;refine aL (IntKind.wrap .i64 (x8 + 1)) () hm ?_;exact ls
         ·rw [iN h16] at hm;refine af rfl (by rw [show y9 = false from (fB h16)]; rfl) ?_;refine ak [0, 5, 6, 82, 83, 84, 92, 93] ?_;have ho21 := aQ hm hr2;subst ho21;replace hm : some (av.mk 16 (-1)) = some r := hm2;refine am ?_;refine ag (aj (ag (bC (aj (aZ ?_)))))
          cases hm
          exact kr 1
        ·rw [iN h12] at hm;refine ai rfl (dF h12) ?_;refine bB ?_;have ho22 := aQ hm hr2;subst ho22;replace hm : dN p1 = some r := hm2;refine bg (aY (aG ?_));refine ay () () hm ?_;exact ls
      ·rintro _ _ hm;replace hm : dN p1 = some r := hm;refine aM ?_;unfold dN at hm;refine aH (S := Unit) (V := Unit) [0, 8, 105, 106, 107, 108, 109, 110, 111, 112, 113, 114, 115, 116, 117, 118, 119, 120] (fun _ _ => []) (fun _ _ => [.box [.tree 2 (p1.system.vars.map ah.enc), .tree 1 (p1.system.in_.map (eK .i64)), .tree 1 (p1.system.out_.map (eK .i64)), .tree 6 (p1.system.rules.map ab.enc), .int .i64 p1.code], .box [.int .i64 0, .int .i64 0]]) (fun _ => fQ = some r) ?_ ?_
       ·skip;refine ak [105, 106, 107, 108] ?_
        refine aw ?_;obtain ⟨o1, hl1, hm1⟩ := bd hm;refine bj (S := Int) (V := Unit) (O := Unit ⊕ av) [8, 111, 112, 113, 114, 115, 116, 117, 118, 119, 120] (fun x3 _ => [(111, .c (.int .i64 x3))]) (fun x3 _ => [.box [.tree 2 (p1.system.vars.map ah.enc), .tree 1 (p1.system.in_.map (eK .i64)), .tree 1 (p1.system.out_.map (eK .i64)), .tree 6 (p1.system.rules.map ab.enc), .int .i64 p1.code], .box [.int .i64 0, .int .i64 0]]) _ _ () hl1 ?_ ?_
        ·exact ls
        ·rintro x3 _ r1 hm hr1;replace hm : fR p1 x3 = some r1 := hm;refine aM ?_;unfold fR at hm;refine ak [] ?_;refine ap fun k2 hk2 => ?_
         by_cases h5 : x3 < (p1.system.out_.length : Int)
         ·rw [iP h5] at hm;refine af rfl (dT h5) ?_;refine au ?_;refine an (hk2 _ _ ?_);refine ap fun k3 hk3 => ?_;refine aw ?_;obtain ⟨hg6a, hm⟩ := gd hm;refine bU (em (eK .i64) p1.system.out_ x3.toNat) [112, 113, 114] ?_;refine aF [8, 115, 116, 117] fun k kp hk hp => ?_;refine go ?_;obtain ⟨y4, hc7, hm⟩ := bd hm;refine RA (jr (p1.system.out_.getD x3.toNat default) p1  _ hc7) [0] ?_;rintro p σ' ⟨rfl, rfl⟩ _;refine aa ?_;refine go ?_;refine hk _ _ ?_;clear hk hp k kp
          by_cases h9 : y4 = true
          ·rw [iP h9] at hm;refine ai rfl (by rw [show y4 = true from (h9)]; rfl) ?_;refine au ?_;refine aB ?_;refine an (hk3 _ _ ?_);refine ck ?_;refine aL (IntKind.wrap .i64 (x3 + 1)) () hm ?_;exact ls
          ·rw [iN h9] at hm;refine af rfl (by rw [show y4 = false from (fB h9)]; rfl) ?_;refine ak [0, 109, 110, 111, 118, 119] ?_;have ho10 := aQ hm hr1;subst ho10;replace hm : some (av.mk 16 (-1)) = some r := hm1;refine am ?_;refine aj (ag (bC (aj (aZ ?_))))
           cases hm
           exact kr 1
         ·rw [iN h5] at hm;refine ai rfl (dF h5) ?_;refine bB ?_;have ho11 := aQ hm hr1;subst ho11;replace hm : fQ = some r := hm1;refine bg (aY (aG ?_));refine ay () () hm ?_;exact ls
       ·rintro _ _ hm;replace hm : fQ = some r := hm;refine aM ?_;unfold fQ at hm;refine ak [121] ?_;refine am ?_
        cases hm
        exact kr 1
theorem mL (p1 : List Int) (v0_ : Nat) (r : List Int) (hm : eZ p1 = some r) : da Try.prog 80 [.c (.osl 0 v0_ 0 p1.length)] [.arr 1 v0_ 3 (p1.map (eK .i64))] (fun p σ => (p = .t [] ∧ σ = [.arr 1 v0_ 3 (r.map (eK .i64))])) (fun _ _ => False) := by
 unfold eZ at hm
 split at hm
 ·rename_i h
  simp only [sJ] at hm;subst hm;exact xD xE rfl ⟨_, Try.func80, rfl, by kernel_rfl⟩ 3 v0_ p1 h
 ·cases hm
theorem lA (p0 : Nat) (p1 : List Int) (v0_ : Nat) (r : List Int) (hm : dP p0 p1 = some r) : da Try.prog 81 [.c (.osl 0 v0_ 0 p0)] [.arr 1 v0_ 3 (p1.map (eK .i64))] (fun p σ => (p = .c (.osl 0 v0_ 0 r.length) ∧ σ = [.arr 1 v0_ 3 (r.map (eK .i64))])) (fun _ _ => False) := by
 unfold dP at hm
 split at hm
 ·rename_i h
  simp only [sJ] at hm;subst hm;obtain ⟨rfl, h⟩ := h;exact ue ug rfl ⟨_, Try.func81, rfl, by kernel_rfl⟩ 3 v0_ p1 h
 ·cases hm
theorem nE (p1 : ab) (r : (List Int)) (hm : lh p1 = some r) : dw Try.prog 61 [.a [.int .i64 p1.op, .int .i64 p1.k, .int .i64 p1.out_, .int .i64 p1.n, .tree 1 (p1.a.map (eK .i64)), .tree 4 (p1.e.map aq.enc)]] (.c (.tree 1 (r.map (eK .i64)))) := by
 refine aC 32 [.tmp 2] Try.func61 rfl rfl rfl (by kernel_rfl) (by simp) ?_;refine bo ?_;unfold lh at hm;refine ak [0, 2] ?_;refine aF [6, 7, 8] fun k kp hk hp => ?_;refine go ?_;obtain ⟨y1, hc1, hm⟩ := bd hm;refine RA (eP p1.a  _ hc1) [] ?_;rintro p σ' ⟨rfl, rfl⟩ _;refine aa ?_;refine go ?_;refine hk _ _ ?_;clear hk hp k kp;refine aH (S := (List Int)) (V := Nat) [1, 3, 5, 9, 10, 11, 12, 13, 14, 15, 16, 17, 18, 19, 20, 21, 22, 23, 24, 25, 26, 27] (fun l4 v5 => [(3, .c (.osl 1 v5 0 l4.length))]) (fun l4 v5 => [.box [.int .i64 p1.op, .int .i64 p1.k, .int .i64 p1.out_, .int .i64 p1.n, .tree 1 (p1.a.map (eK .i64)), .tree 4 (p1.e.map aq.enc)], .arr 1 v5 3 (l4.map (eK .i64))]) (fun l4 => jv l4 = some r) ?_ ?_
 ·skip;refine ak [1, 9] ?_
  refine aw ?_;obtain ⟨o1, hl1, hm1⟩ := bd hm;refine bj (S := ((List Int) × Int)) (V := Nat) (O := (List Int)) [3, 5, 12, 13, 14, 15, 16, 17, 18, 19, 20, 21, 22, 23, 24, 25, 26, 27] (fun (l20, x22) v21 => [(3, .c (.osl 1 v21 0 l20.length)), (12, .c (.int .i64 x22))]) (fun (l20, x22) v21 => [.box [.int .i64 p1.op, .int .i64 p1.k, .int .i64 p1.out_, .int .i64 p1.n, .tree 1 (p1.a.map (eK .i64)), .tree 4 (p1.e.map aq.enc)], .arr 1 v21 3 (l20.map (eK .i64))]) _ _ 1 hl1 ?_ ?_
  ·exact ls
  ·rintro ⟨l20, x22⟩ v21 r1 hm hr1;replace hm : fT p1 l20 x22 = some r1 := hm;refine aM ?_;unfold fT at hm;refine ak [] ?_;refine ap fun k1 hk1 => ?_
   by_cases h7 : x22 < (p1.e.length : Int)
   ·rw [iP h7] at hm;refine af rfl (dT h7) ?_;refine au ?_;refine an (hk1 _ _ ?_);refine ap fun k2 hk2 => ?_;refine aw ?_;obtain ⟨hg8a, hm⟩ := gd hm;refine bU (em aq.enc p1.e x22.toNat) [13, 14, 15] ?_;refine ak [16] ?_;refine aw ?_;refine aH (S := Bool) (V := Nat) [3, 17, 18, 19, 20, 21] (fun b25 v24 => [(3, .c (.osl 1 v24 0 l20.length)), (18, .c (.bool b25))]) (fun b25 v24 => [.box [.int .i64 p1.op, .int .i64 p1.k, .int .i64 p1.out_, .int .i64 p1.n, .tree 1 (p1.a.map (eK .i64)), .tree 4 (p1.e.map aq.enc)], .arr 1 v24 3 (l20.map (eK .i64)), .box [.int .i64 ((p1.e.getD x22.toNat default).op), .int .i64 ((p1.e.getD x22.toNat default).k), .int .i64 ((p1.e.getD x22.toNat default).v), .int .i64 ((p1.e.getD x22.toNat default).n)]]) (fun b25 => gV p1 l20 x22 b25 = some r1) ?_ ?_
    ·skip;refine ak [19] ?_
     by_cases h11 : ((p1.e.getD x22.toNat default).op) = 2
     ·rw [iP h11] at hm;refine af rfl (eQ h11) ?_;refine au ?_;refine ay (((p1.e.getD x22.toNat default).op) == 2) v21 hm ?_;exact ls
     ·rw [iN h11] at hm;refine ai rfl (nB h11) ?_;refine ak [20] ?_
      by_cases h12 : ((p1.e.getD x22.toNat default).op) = 3
      ·rw [iP h12] at hm;refine af rfl (eQ h12) ?_;refine au ?_;refine ay (((p1.e.getD x22.toNat default).op) == 3) v21 hm ?_;exact ls
      ·rw [iN h12] at hm;refine ai rfl (nB h12) ?_;refine ck ?_;refine ay (((p1.e.getD x22.toNat default).op) == 8) v21 hm ?_;exact ls
    ·rintro b25 v24 hm;replace hm : gV p1 l20 x22 b25 = some r1 := hm;refine aM ?_;unfold gV at hm
     by_cases h9 : b25 = true
     ·rw [iP h9] at hm;refine af rfl (h9) ?_;obtain ⟨⟨hg10ax, hg10ay⟩, hm⟩ := gd hm;refine ck ?_;refine aB (aB ?_);refine an (hk2 _ _ ?_);refine ck ?_;refine aL ((l20 ++ (lit ([(p1.e.getD x22.toNat default).v] : List Int))), (IntKind.wrap .i64 (x22 + 1))) (v24 + 1) hm ?_;exact ls
     ·rw [iN h9] at hm;refine ai rfl (fB h9) ?_;refine au ?_;refine aB (aB ?_);refine an (hk2 _ _ ?_);refine ck ?_;refine aL (l20, (IntKind.wrap .i64 (x22 + 1))) v24 hm ?_;exact ls
   ·rw [iN h7] at hm;refine ai rfl (dF h7) ?_;refine bB ?_;have ho13 := aQ hm hr1;subst ho13;replace hm : jv l20 = some r := hm1;refine bg (aY (aG ?_));refine ay l20 v21 hm ?_;exact ls
 ·rintro l4 v5 hm;replace hm : jv l4 = some r := hm;refine aM ?_;unfold jv at hm;refine aF [28, 29] fun k kp hk hp => ?_;refine go ?_;obtain ⟨y6, hc3, hm⟩ := bd hm;refine RA (mL l4 v5 _ hc3) [1] ?_;rintro p σ' ⟨rfl, rfl⟩ _;refine aa ?_;refine go ?_;refine hk _ _ ?_;clear hk hp k kp;refine aF [3, 30, 31] fun k kp hk hp => ?_;refine go ?_;obtain ⟨y7, hc5, hm⟩ := bd hm;refine RA (lA l4.length y6 v5 _ hc5) [1] ?_;rintro p σ' ⟨rfl, rfl⟩ _;refine aa ?_;refine go ?_;refine hk _ _ ?_;clear hk hp k kp;refine eW (bf 1 rfl) ?_;refine am ?_
  cases hm
  exact kr 0
theorem dj (p1 : Bool) (p2 : Int) (p3 : ax) (r : Int) (hm : bD p1 p2 p3 = some r) : da Try.prog 91 [.c (.optr 0 0), .c (.bool p1), .c (.int .i64 p2)] [.box [.tree 2 (p3.system.vars.map ah.enc), .tree 1 (p3.system.in_.map (eK .i64)), .tree 1 (p3.system.out_.map (eK .i64)), .tree 6 (p3.system.rules.map ab.enc), .int .i64 p3.code]] (fun p σ => (p = .t [] ∧ σ = [.box [.tree 2 (p3.system.vars.map ah.enc), .tree 1 (p3.system.in_.map (eK .i64)), .tree 1 (p3.system.out_.map (eK .i64)), .tree 6 (p3.system.rules.map ab.enc), .int .i64 r]])) (fun _ _ => False) := by
 refine aC 18 [] Try.func91 rfl rfl rfl (by kernel_rfl) (by simp) ?_;refine bo ?_;unfold bD at hm
 by_cases h1 : p1 = true
 ·rw [iP h1] at hm;have h1b := h1;refine bU h1b [1, 6, 7, 8, 9, 10, 11, 12] ?_
  by_cases h2 : p3.code = 0
  ·rw [iP h2] at hm;refine af rfl (eQ h2) ?_;refine ck ?_
   cases hm
   exact kn 1
  ·rw [iN h2] at hm;refine ai rfl (nB h2) ?_;refine au ?_
   cases hm
   exact kn 1
 ·rw [iN h1] at hm;have h1b := fB h1;refine bU h1b [1, 6, 7, 8, 9, 10, 11, 12] ?_;refine ai rfl rfl ?_;refine au ?_
  cases hm
  exact kn 1
theorem pC (p1 : Int) (r : Int) (hm : kM p1 = some r) : dw Try.prog 92 [.c (.int .i64 p1)] (.c (.int .i64 r)) := by
  refine aC 12 [.tmp 2] Try.func92 rfl rfl rfl (by kernel_rfl) (by simp) ?_;refine qO (by simp only [jI, Env.ofList, List.length_nil, List.length_cons, bE, Nat.reduceDiv, Nat.reduceMod, Nat.reduceLT, Nat.reduceLeDiff, Nat.reduceAdd, Nat.reduceSub, Nat.reduceMul, Nat.reduceEqDiff, Nat.reduceBEq, Nat.reduceBNe, Nat.reduceGT, Int.reduceToNat]; rfl) rfl ?_;unfold kM at hm;refine aF [2] fun k kp hk hp => ?_;simp only [bR, bT, tab, bX, reduceIte, ↓reduceIte, reduceCtorEq, Int.reduceToNat, Nat.reduceDiv, Nat.reduceMod, Nat.reduceLT, Nat.reduceLeDiff, Nat.reduceAdd, Nat.reduceSub, Nat.reduceMul, Nat.reduceEqDiff, Nat.reduceBEq, Nat.reduceBNe, Nat.reduceGT]
  repeat refine ⟨by first | omega | assumption | decide | exact fG fun _ => rfl | (intro _; omega) | rfl | exact fun e => absurd (List.map_eq_nil_iff.1 e) (by assumption) | (and_intros <;> first | omega | assumption | decide | exact fG fun _ => rfl), ?_⟩
  refine hk _ _ ?_;clear hk hp k kp;refine ap fun k1 hk1 => ?_
  by_cases h1 : p1 < 1
  · rw [iP h1] at hm
    have h1b := dT h1;refine aF [3, 4, 5, 6, 7] fun k kp hk hp => ?_;simp only [bR, bT, tab, bX, reduceIte, ↓reduceIte, reduceCtorEq, Int.reduceToNat, Nat.reduceDiv, Nat.reduceMod, Nat.reduceLT, Nat.reduceLeDiff, Nat.reduceAdd, Nat.reduceSub, Nat.reduceMul, Nat.reduceEqDiff, Nat.reduceBEq, Nat.reduceBNe, Nat.reduceGT, h1b]
    repeat refine ⟨by first | omega | assumption | decide | exact fG fun _ => rfl | (intro _; omega) | rfl | exact fun e => absurd (List.map_eq_nil_iff.1 e) (by assumption) | (and_intros <;> first | omega | assumption | decide | exact fG fun _ => rfl), ?_⟩
    refine hk _ _ ?_;clear hk hp k kp;refine af rfl rfl ?_;refine aF [0, 8] fun k kp hk hp => ?_;simp only [bR, bT, tab, bX, reduceIte, ↓reduceIte, reduceCtorEq, Int.reduceToNat, Nat.reduceDiv, Nat.reduceMod, Nat.reduceLT, Nat.reduceLeDiff, Nat.reduceAdd, Nat.reduceSub, Nat.reduceMul, Nat.reduceEqDiff, Nat.reduceBEq, Nat.reduceBNe, Nat.reduceGT]
    repeat refine ⟨by first | omega | assumption | decide | exact fG fun _ => rfl | (intro _; omega) | rfl | exact fun e => absurd (List.map_eq_nil_iff.1 e) (by assumption) | (and_intros <;> first | omega | assumption | decide | exact fG fun _ => rfl), ?_⟩
    refine hk _ _ ?_;clear hk hp k kp;refine am ?_;refine ag ?_
    cases hm
    exact kr 0
  · rw [iN h1] at hm
    have h1b := dF h1;refine aF [3, 4, 5, 6, 7] fun k kp hk hp => ?_;simp only [bR, bT, tab, bX, reduceIte, ↓reduceIte, reduceCtorEq, Int.reduceToNat, Nat.reduceDiv, Nat.reduceMod, Nat.reduceLT, Nat.reduceLeDiff, Nat.reduceAdd, Nat.reduceSub, Nat.reduceMul, Nat.reduceEqDiff, Nat.reduceBEq, Nat.reduceBNe, Nat.reduceGT, h1b]
    repeat refine ⟨by first | omega | assumption | decide | exact fG fun _ => rfl | (intro _; omega) | rfl | exact fun e => absurd (List.map_eq_nil_iff.1 e) (by assumption) | (and_intros <;> first | omega | assumption | decide | exact fG fun _ => rfl), ?_⟩
    refine hk _ _ ?_;clear hk hp k kp
    by_cases h2 : p1 > 16
    · rw [iP h2] at hm
      refine af rfl (dT h2) ?_;refine aF [0, 8] fun k kp hk hp => ?_;simp only [bR, bT, tab, bX, reduceIte, ↓reduceIte, reduceCtorEq, Int.reduceToNat, Nat.reduceDiv, Nat.reduceMod, Nat.reduceLT, Nat.reduceLeDiff, Nat.reduceAdd, Nat.reduceSub, Nat.reduceMul, Nat.reduceEqDiff, Nat.reduceBEq, Nat.reduceBNe, Nat.reduceGT]
      repeat refine ⟨by first | omega | assumption | decide | exact fG fun _ => rfl | (intro _; omega) | rfl | exact fun e => absurd (List.map_eq_nil_iff.1 e) (by assumption) | (and_intros <;> first | omega | assumption | decide | exact fG fun _ => rfl), ?_⟩
      refine hk _ _ ?_;clear hk hp k kp;refine am ?_;refine ag ?_
      cases hm
      exact kr 0
    · rw [iN h2] at hm
      refine ai rfl (dF h2) ?_;refine au ?_;refine an (hk1 _ _ ?_);obtain ⟨hg3a, hm⟩ := gd hm;refine bl [0, 8, 9, 10, 11] fun k kp hk hp => ?_;refine ao 2 ?_;simp only [bR, bT, tab, bX, reduceIte, ↓reduceIte, reduceCtorEq, Int.reduceToNat, Nat.reduceDiv, Nat.reduceMod, Nat.reduceLT, Nat.reduceLeDiff, Nat.reduceAdd, Nat.reduceSub, Nat.reduceMul, Nat.reduceEqDiff, Nat.reduceBEq, Nat.reduceBNe, Nat.reduceGT, List.replicate, List.foldr]
      repeat refine ⟨by first | omega | assumption | decide | exact fG fun _ => rfl | (intro _; omega) | rfl | exact fun e => absurd (List.map_eq_nil_iff.1 e) (by assumption) | (and_intros <;> first | omega | assumption | decide | exact fG fun _ => rfl), ?_⟩
      refine pz (zS (lit ([0, 0, 1, 1, 2, 3, 2, 2, 1, 3, 3, 1, 2, 2, 0, 1, 1] : List Int)) 17 rfl (by first | rfl | (simp only [bR, bT, tab, bX, reduceIte, ↓reduceIte, reduceCtorEq, Int.reduceToNat, Nat.reduceDiv, Nat.reduceMod, Nat.reduceLT, Nat.reduceLeDiff, Nat.reduceAdd, Nat.reduceSub, Nat.reduceMul, Nat.reduceEqDiff, Nat.reduceBEq, Nat.reduceBNe, Nat.reduceGT]; done)) (by first | rfl | (simp only [bR, bT, tab, bX, reduceIte, ↓reduceIte, reduceCtorEq, Int.reduceToNat, Nat.reduceDiv, Nat.reduceMod, Nat.reduceLT, Nat.reduceLeDiff, Nat.reduceAdd, Nat.reduceSub, Nat.reduceMul, Nat.reduceEqDiff, Nat.reduceBEq, Nat.reduceBNe, Nat.reduceGT]; done)) (by unfold lit; rfl) (by first | kernel_rfl | exact of_decide_eq_true (by kernel_rfl)) (by first | kernel_rfl | exact of_decide_eq_true (by kernel_rfl)) (by kernel_rfl) (by omega) (by omega)) (by first | rfl | (simp only [bR, bT, tab, bX, reduceIte, ↓reduceIte, reduceCtorEq, Int.reduceToNat, Nat.reduceDiv, Nat.reduceMod, Nat.reduceLT, Nat.reduceLeDiff, Nat.reduceAdd, Nat.reduceSub, Nat.reduceMul, Nat.reduceEqDiff, Nat.reduceBEq, Nat.reduceBNe, Nat.reduceGT]; done)) (by first | trivial | exact iu rfl) ?_
      simp only [bR, bT, tab, bX, reduceIte, ↓reduceIte, reduceCtorEq, Int.reduceToNat, Nat.reduceDiv, Nat.reduceMod, Nat.reduceLT, Nat.reduceLeDiff, Nat.reduceAdd, Nat.reduceSub, Nat.reduceMul, Nat.reduceEqDiff, Nat.reduceBEq, Nat.reduceBNe, Nat.reduceGT];refine aa ?_;simp only [bR, bT, tab, bX, reduceIte, ↓reduceIte, reduceCtorEq, Int.reduceToNat, Nat.reduceDiv, Nat.reduceMod, Nat.reduceLT, Nat.reduceLeDiff, Nat.reduceAdd, Nat.reduceSub, Nat.reduceMul, Nat.reduceEqDiff, Nat.reduceBEq, Nat.reduceBNe, Nat.reduceGT]
      repeat refine ⟨by first | omega | assumption | decide | exact fG fun _ => rfl | (intro _; omega) | rfl | exact fun e => absurd (List.map_eq_nil_iff.1 e) (by assumption) | (and_intros <;> first | omega | assumption | decide | exact fG fun _ => rfl), ?_⟩
      refine hk _ _ ?_;clear hk hp k kp;refine am ?_
      cases hm
      exact kr 0
theorem lH (p1 : Int) (r : (Int × Int × Int)) (hm : kf p1 = some r) : dw Try.prog 103 [.c (.int .i64 p1)] (.t [.c (.int .u8 r.1), .c (.int .u8 r.2.1), .c (.int .i64 r.2.2)]) := by
 refine aC 32 [.tmp 2, .tmp 3, .tmp 4] Try.func103 rfl rfl rfl (by kernel_rfl) (by simp) ?_;refine bo ?_;unfold kf at hm;refine ak [2, 3, 4] ?_;refine ap fun k1 hk1 => ?_;refine aw ?_
 by_cases h1 : p1 ≥ 1
 ·rw [iP h1] at hm;have h1b := dT h1;refine bU h1b [6, 7, 8, 9, 10, 11] ?_
  by_cases h2 : p1 ≤ 7
  ·rw [iP h2] at hm;refine af rfl (dT h2) ?_;refine ak [0, 5] ?_;refine am ?_;refine aj (ag ?_)
   cases hm
   exact kr 0
  ·rw [iN h2] at hm;refine ai rfl (dF h2) ?_
   by_cases h3 : p1 = 8
   ·rw [iP h3] at hm;have h3b := eQ h3;refine bU h3b [5, 13, 14, 15, 16, 17, 18] ?_;refine af rfl rfl ?_;refine ak [0, 12] ?_;refine am ?_;refine aj (ag ?_)
    cases hm
    exact kr 0
   ·rw [iN h3] at hm;have h3b := nB h3;refine bU h3b [5, 13, 14, 15, 16, 17, 18] ?_
    by_cases h4 : p1 = 9
    ·rw [iP h4] at hm;refine af rfl (eQ h4) ?_;refine ak [0, 12] ?_;refine am ?_;refine aj (ag ?_)
     cases hm
     exact kr 0
    ·rw [iN h4] at hm;refine ai rfl (nB h4) ?_
     by_cases h5 : p1 ≥ 10
     ·rw [iP h5] at hm;have h5b := dT h5;refine bU h5b [12, 20, 21, 22, 23, 24, 25] ?_
      by_cases h6 : p1 ≤ 12
      ·rw [iP h6] at hm;refine af rfl (dT h6) ?_;refine ak [0, 19] ?_;refine am ?_;refine aj (ag ?_)
       cases hm
       exact kr 0
      ·rw [iN h6] at hm;refine ai rfl (dF h6) ?_;refine ak [19, 27, 28] ?_
       by_cases h7 : p1 = 13
       ·rw [iP h7] at hm;refine af rfl (eQ h7) ?_;refine ak [0, 26] ?_;refine am ?_;refine aj (ag ?_)
        cases hm
        exact kr 0
       ·rw [iN h7] at hm;refine ai rfl (nB h7) ?_;refine ak [0, 26, 30, 31] ?_
        by_cases h8 : p1 = 14
        ·rw [iP h8] at hm;refine af rfl (eQ h8) ?_;refine ak [29] ?_;refine am ?_;refine aj (ag ?_)
         cases hm
         exact kr 0
        ·rw [iN h8] at hm;refine ai rfl (nB h8) ?_;refine au ?_;refine aB ?_;refine an (hk1 _ _ ?_);refine ak [29] ?_;refine am ?_
         cases hm
         exact kr 0
     ·rw [iN h5] at hm;have h5b := dF h5;refine bU h5b [12, 20, 21, 22, 23, 24, 25] ?_;refine ai rfl rfl ?_;refine ak [19, 27, 28] ?_
      by_cases h9 : p1 = 13
      ·rw [iP h9] at hm;refine af rfl (eQ h9) ?_;refine ak [0, 26] ?_;refine am ?_;refine aj (ag ?_)
       cases hm
       exact kr 0
      ·rw [iN h9] at hm;refine ai rfl (nB h9) ?_;refine ak [0, 26, 30, 31] ?_
       by_cases h10 : p1 = 14
       ·rw [iP h10] at hm;refine af rfl (eQ h10) ?_;refine ak [29] ?_;refine am ?_;refine aj (ag ?_)
        cases hm
        exact kr 0
       ·rw [iN h10] at hm;refine ai rfl (nB h10) ?_;refine au ?_;refine aB ?_;refine an (hk1 _ _ ?_);refine ak [29] ?_;refine am ?_
        cases hm
        exact kr 0
 ·rw [iN h1] at hm;have h1b := dF h1;refine bU h1b [6, 7, 8, 9, 10, 11] ?_;refine ai rfl rfl ?_
  by_cases h11 : p1 = 8
  ·rw [iP h11] at hm;have h11b := eQ h11;refine bU h11b [5, 13, 14, 15, 16, 17, 18] ?_;refine af rfl rfl ?_;refine ak [0, 12] ?_;refine am ?_;refine aj (ag ?_)
   cases hm
   exact kr 0
  ·rw [iN h11] at hm;have h11b := nB h11;refine bU h11b [5, 13, 14, 15, 16, 17, 18] ?_
   by_cases h12 : p1 = 9
   ·rw [iP h12] at hm;refine af rfl (eQ h12) ?_;refine ak [0, 12] ?_;refine am ?_;refine aj (ag ?_)
    cases hm
    exact kr 0
   ·rw [iN h12] at hm;refine ai rfl (nB h12) ?_
    by_cases h13 : p1 ≥ 10
    ·rw [iP h13] at hm;have h13b := dT h13;refine bU h13b [12, 20, 21, 22, 23, 24, 25] ?_
     by_cases h14 : p1 ≤ 12
     ·rw [iP h14] at hm;refine af rfl (dT h14) ?_;refine ak [0, 19] ?_;refine am ?_;refine aj (ag ?_)
      cases hm
      exact kr 0
     ·rw [iN h14] at hm;refine ai rfl (dF h14) ?_;refine ak [19, 27, 28] ?_
      by_cases h15 : p1 = 13
      ·rw [iP h15] at hm;refine af rfl (eQ h15) ?_;refine ak [0, 26] ?_;refine am ?_;refine aj (ag ?_)
       cases hm
       exact kr 0
      ·rw [iN h15] at hm;refine ai rfl (nB h15) ?_;refine ak [0, 26, 30, 31] ?_
       by_cases h16 : p1 = 14
       ·rw [iP h16] at hm;refine af rfl (eQ h16) ?_;refine ak [29] ?_;refine am ?_;refine aj (ag ?_)
        cases hm
        exact kr 0
       ·rw [iN h16] at hm;refine ai rfl (nB h16) ?_;refine au ?_;refine aB ?_;refine an (hk1 _ _ ?_);refine ak [29] ?_;refine am ?_
        cases hm
        exact kr 0
    ·rw [iN h13] at hm;have h13b := dF h13;refine bU h13b [12, 20, 21, 22, 23, 24, 25] ?_;refine ai rfl rfl ?_;refine ak [19, 27, 28] ?_
     by_cases h17 : p1 = 13
     ·rw [iP h17] at hm;refine af rfl (eQ h17) ?_;refine ak [0, 26] ?_;refine am ?_;refine aj (ag ?_)
      cases hm
      exact kr 0
     ·rw [iN h17] at hm;refine ai rfl (nB h17) ?_;refine ak [0, 26, 30, 31] ?_
      by_cases h18 : p1 = 14
      ·rw [iP h18] at hm;refine af rfl (eQ h18) ?_;refine ak [29] ?_;refine am ?_;refine aj (ag ?_)
       cases hm
       exact kr 0
      ·rw [iN h18] at hm;refine ai rfl (nB h18) ?_;refine au ?_;refine aB ?_;refine an (hk1 _ _ ?_);refine ak [29] ?_;refine am ?_
       cases hm
       exact kr 0
theorem pD (p1 : List Int) (p2 : ax) (r : Bool) (hm : iE p1 p2 = some r) : da Try.prog 104 [.c (.optr 0 0), .c (.tree 1 (p1.map (eK .i64)))] [.box [.tree 2 (p2.system.vars.map ah.enc), .tree 1 (p2.system.in_.map (eK .i64)), .tree 1 (p2.system.out_.map (eK .i64)), .tree 6 (p2.system.rules.map ab.enc), .int .i64 p2.code]] (fun p σ => (p = .c (.bool r) ∧ σ = [.box [.tree 2 (p2.system.vars.map ah.enc), .tree 1 (p2.system.in_.map (eK .i64)), .tree 1 (p2.system.out_.map (eK .i64)), .tree 6 (p2.system.rules.map ab.enc), .int .i64 p2.code]])) (fun _ _ => False) := by
 refine aC 33 [.tmp 4] Try.func104 rfl rfl rfl (by kernel_rfl) (by simp) ?_;refine bo ?_;unfold iE at hm;refine ak [4] ?_;refine aH (S := Unit) (V := Unit) [0, 1, 4, 6, 7, 8, 9, 10, 11, 12, 13, 14, 15, 16, 17, 18, 19, 20, 21, 22, 23, 24, 25, 26, 27, 28, 29, 30, 31, 32] (fun _ _ => []) (fun _ _ => [.box [.tree 2 (p2.system.vars.map ah.enc), .tree 1 (p2.system.in_.map (eK .i64)), .tree 1 (p2.system.out_.map (eK .i64)), .tree 6 (p2.system.rules.map ab.enc), .int .i64 p2.code]]) (fun _ => fU = some r) ?_ ?_
 ·skip;refine ak [] ?_
  refine aw ?_;obtain ⟨o1, hl1, hm1⟩ := bd hm;refine bj (S := Int) (V := Unit) (O := Unit ⊕ Bool) [4, 6, 9, 10, 11, 12, 13, 14, 15, 16, 17, 18, 19, 20, 21, 22, 23, 24, 25, 26, 27, 28, 29, 30, 31, 32] (fun x3 _ => [(9, .c (.int .i64 x3))]) (fun x3 _ => [.box [.tree 2 (p2.system.vars.map ah.enc), .tree 1 (p2.system.in_.map (eK .i64)), .tree 1 (p2.system.out_.map (eK .i64)), .tree 6 (p2.system.rules.map ab.enc), .int .i64 p2.code]]) _ _ () hl1 ?_ ?_
  ·exact ls
  ·rintro x3 _ r1 hm hr1;replace hm : fV p1 p2 x3 = some r1 := hm;refine aM ?_;unfold fV at hm;refine ak [] ?_;refine ap fun k1 hk1 => ?_
   by_cases h1 : x3 < (p1.length : Int)
   ·rw [iP h1] at hm;refine af rfl (dT h1) ?_;refine au ?_;refine an (hk1 _ _ ?_);refine ap fun k2 hk2 => ?_;refine aw ?_;obtain ⟨hg2a, hm⟩ := gd hm;refine bU (em (eK .i64) p1 x3.toNat) [10, 11, 12] ?_;obtain ⟨⟨hg3a, hg3b, hg3c⟩, hm⟩ := gd hm;refine m9 (a2 (em ah.enc p2.system.vars ((p1.getD x3.toNat default).toNat)) (a2 (em (eK .i64) p1 0) (em ah.enc p2.system.vars ((p1.getD 0 default).toNat)))) [6, 13, 14, 15, 16, 17, 18, 19, 20, 21, 22, 23, 24, 25, 26, 27, 28, 29, 30] [0, 1, 3, 7, 15, 0, 63, 127, 0, 256, 768, 1792, 3840, 0, 8192, 24576, 65280, 130816, 262143] [false, false, false, false, false, false, false, false, false, false, false, false, false, false, false, false, false, false, true] ?_
    by_cases h4 : ((p2.system.vars.getD ((p1.getD x3.toNat default).toNat) default).elem) = ((p2.system.vars.getD ((p1.getD 0 default).toNat) default).elem) ∧ ((p2.system.vars.getD ((p1.getD x3.toNat default).toNat) default).n) = ((p2.system.vars.getD ((p1.getD 0 default).toNat) default).n)
    ·rw [iP h4] at hm;refine ai rfl (by rw [show ((((p2.system.vars.getD ((p1.getD x3.toNat default).toNat) default).elem) == ((p2.system.vars.getD ((p1.getD 0 default).toNat) default).elem)) && (((p2.system.vars.getD ((p1.getD x3.toNat default).toNat) default).n) == ((p2.system.vars.getD ((p1.getD 0 default).toNat) default).n))) = true from (by simpa [Bool.and_eq_true] using h4)]; rfl) ?_;refine au ?_;refine aB ?_;refine an (hk2 _ _ ?_);refine ck ?_;refine aL (IntKind.wrap .i64 (x3 + 1)) () hm ?_;exact ls
    ·rw [iN h4] at hm;refine af rfl (by rw [show ((((p2.system.vars.getD ((p1.getD x3.toNat default).toNat) default).elem) == ((p2.system.vars.getD ((p1.getD 0 default).toNat) default).elem)) && (((p2.system.vars.getD ((p1.getD x3.toNat default).toNat) default).n) == ((p2.system.vars.getD ((p1.getD 0 default).toNat) default).n))) = false from (fB (fun hh => h4 (by simpa [Bool.and_eq_true] using hh)))]; rfl) ?_;refine ak [0, 1, 7, 8, 9, 31] ?_;have ho5 := aQ hm hr1;subst ho5;replace hm : some false = some r := hm1;refine am ?_;refine aj (ag (bC (aj (aZ ?_))))
     cases hm
     exact kr 1
   ·rw [iN h1] at hm;refine ai rfl (dF h1) ?_;refine bB ?_;have ho6 := aQ hm hr1;subst ho6;replace hm : fU = some r := hm1;refine bg (aY (aG ?_));refine ay () () hm ?_;exact ls
 ·rintro _ _ hm;replace hm : fU = some r := hm;refine aM ?_;unfold fU at hm;refine ak [] ?_;refine am ?_
  cases hm
  exact kr 1
theorem jo (p1 : Int) (r : ah) (hm : hN p1 = some r) : dw Try.prog 105 [.c (.int .u8 p1)] (.a [.int .u8 ((r).elem), .int .i64 ((r).n)]) := by
 refine aC 5 [.cell 2 50] Try.func105 rfl rfl rfl (by kernel_rfl) (by simp) ?_;refine bo ?_;unfold hN at hm;refine ak [] ?_;refine ak [0, 3, 4] ?_;refine am ?_
 cases hm
 exact kr 0
theorem kz (p1 : ax) (p2 : List Int) (v1_ : Nat) (r : Bool) (hm : fh p1 p2 = some r) : da Try.prog 104 [.c (.optr 0 0), .c (.osl 1 v1_ 0 p2.length)] [.box [.tree 2 (p1.system.vars.map ah.enc), .tree 1 (p1.system.in_.map (eK .i64)), .tree 1 (p1.system.out_.map (eK .i64)), .tree 6 (p1.system.rules.map ab.enc), .int .i64 p1.code], .arr 1 v1_ 3 (p2.map (eK .i64))] (fun p σ => (p = .c (.bool r) ∧ σ = [.box [.tree 2 (p1.system.vars.map ah.enc), .tree 1 (p1.system.in_.map (eK .i64)), .tree 1 (p1.system.out_.map (eK .i64)), .tree 6 (p1.system.rules.map ab.enc), .int .i64 p1.code], .arr 1 v1_ 3 (p2.map (eK .i64))])) (fun _ _ => False) := by
 refine aC 33 [.tmp 4] Try.func104 rfl rfl rfl (by kernel_rfl) (by simp) ?_;refine bo ?_;unfold fh at hm;refine ak [4] ?_;refine aH (S := Unit) (V := Unit) [0, 1, 4, 6, 7, 8, 9, 10, 11, 12, 13, 14, 15, 16, 17, 18, 19, 20, 21, 22, 23, 24, 25, 26, 27, 28, 29, 30, 31, 32] (fun _ _ => []) (fun _ _ => [.box [.tree 2 (p1.system.vars.map ah.enc), .tree 1 (p1.system.in_.map (eK .i64)), .tree 1 (p1.system.out_.map (eK .i64)), .tree 6 (p1.system.rules.map ab.enc), .int .i64 p1.code], .arr 1 v1_ 3 (p2.map (eK .i64))]) (fun _ => e7 = some r) ?_ ?_
 ·skip;refine ak [] ?_
  refine aw ?_;obtain ⟨o1, hl1, hm1⟩ := bd hm;refine bj (S := Int) (V := Unit) (O := Unit ⊕ Bool) [1, 4, 6, 7, 9, 10, 11, 12, 13, 14, 15, 16, 17, 18, 19, 20, 21, 22, 23, 24, 25, 26, 27, 28, 29, 30, 31, 32] (fun x3 _ => [(1, .c (.osl 1 v1_ 0 p2.length)), (7, .c (.osl 1 v1_ 0 p2.length)), (9, .c (.int .i64 x3))]) (fun x3 _ => [.box [.tree 2 (p1.system.vars.map ah.enc), .tree 1 (p1.system.in_.map (eK .i64)), .tree 1 (p1.system.out_.map (eK .i64)), .tree 6 (p1.system.rules.map ab.enc), .int .i64 p1.code], .arr 1 v1_ 3 (p2.map (eK .i64))]) _ _ () hl1 ?_ ?_
  ·exact ls
  ·rintro x3 _ r1 hm hr1;replace hm : e8 p1 p2 x3 = some r1 := hm;refine aM ?_;unfold e8 at hm;refine ak [] ?_;refine ap fun k1 hk1 => ?_
   by_cases h1 : x3 < (p2.length : Int)
   ·rw [iP h1] at hm;refine af rfl (dT h1) ?_;refine au ?_;refine an (hk1 _ _ ?_);refine ap fun k2 hk2 => ?_;refine aw ?_;obtain ⟨hg2a, hm⟩ := gd hm;refine bU (em (eK .i64) p2 x3.toNat) [10, 11, 12] ?_;obtain ⟨⟨hg3a, hg3b, hg3c⟩, hm⟩ := gd hm;refine m9 (a2 (em ah.enc p1.system.vars ((p2.getD x3.toNat default).toNat)) (a2 (em (eK .i64) p2 0) (em ah.enc p1.system.vars ((p2.getD 0 default).toNat)))) [6, 13, 14, 15, 16, 17, 18, 19, 20, 21, 22, 23, 24, 25, 26, 27, 28, 29, 30] [0, 1, 3, 7, 15, 0, 63, 127, 0, 256, 768, 1792, 3840, 0, 8192, 24576, 65280, 130816, 262143] [false, false, false, false, false, false, false, false, false, false, false, false, false, false, false, false, false, false, true] ?_
    by_cases h4 : ((p1.system.vars.getD ((p2.getD x3.toNat default).toNat) default).elem) = ((p1.system.vars.getD ((p2.getD 0 default).toNat) default).elem) ∧ ((p1.system.vars.getD ((p2.getD x3.toNat default).toNat) default).n) = ((p1.system.vars.getD ((p2.getD 0 default).toNat) default).n)
    ·rw [iP h4] at hm;refine ai rfl (by rw [show ((((p1.system.vars.getD ((p2.getD x3.toNat default).toNat) default).elem) == ((p1.system.vars.getD ((p2.getD 0 default).toNat) default).elem)) && (((p1.system.vars.getD ((p2.getD x3.toNat default).toNat) default).n) == ((p1.system.vars.getD ((p2.getD 0 default).toNat) default).n))) = true from (by simpa [Bool.and_eq_true] using h4)]; rfl) ?_;refine au ?_;refine aB ?_;refine an (hk2 _ _ ?_);refine ck ?_;refine aL (IntKind.wrap .i64 (x3 + 1)) () hm ?_;exact ls
    ·rw [iN h4] at hm;refine af rfl (by rw [show ((((p1.system.vars.getD ((p2.getD x3.toNat default).toNat) default).elem) == ((p1.system.vars.getD ((p2.getD 0 default).toNat) default).elem)) && (((p1.system.vars.getD ((p2.getD x3.toNat default).toNat) default).n) == ((p1.system.vars.getD ((p2.getD 0 default).toNat) default).n))) = false from (fB (fun hh => h4 (by simpa [Bool.and_eq_true] using hh)))]; rfl) ?_;refine ak [0, 1, 7, 8, 9, 31] ?_;have ho5 := aQ hm hr1;subst ho5;replace hm : some false = some r := hm1;refine am ?_;refine aj (ag (bC (aj (aZ ?_))))
     cases hm
     exact kr 2
   ·rw [iN h1] at hm;refine ai rfl (dF h1) ?_;refine bB ?_;have ho6 := aQ hm hr1;subst ho6;replace hm : e7 = some r := hm1;refine bg (aY (aG ?_));refine ay () () hm ?_;exact ls
 ·rintro _ _ hm;replace hm : e7 = some r := hm;refine aM ?_;unfold e7 at hm;refine ak [] ?_;refine am ?_
  cases hm
  exact kr 2
theorem ll (p1 : Int) (r : Bool) (hm : iF p1 = some r) : dw Try.prog 106 [.c (.int .i64 p1)] (.c (.bool r)) := by
 refine aC 19 [.tmp 2] Try.func106 rfl rfl rfl (by kernel_rfl) (by simp) ?_;refine bo ?_;unfold iF at hm;refine ak [2] ?_;refine aF [0, 6, 7, 8, 9, 10, 11] fun k kp hk hp => ?_;refine go ?_;obtain ⟨y1, hc1, hm⟩ := bd hm;refine RP (fun _ => lH p1 _ hc1) ?_;refine aa ?_;refine go ?_;refine hk _ _ ?_;clear hk hp k kp
 by_cases h2 : y1.2.2 = 2
 ·rw [iP h2] at hm;have h2b := eQ h2;refine bU h2b [3, 4, 5, 12, 13, 14, 15, 16, 17, 18] ?_;refine am ?_
  cases hm
  exact kr 0
 ·rw [iN h2] at hm;have h2b := nB h2;refine bU h2b [3, 4, 5, 12, 13, 14, 15, 16, 17, 18] ?_;refine am ?_
  cases hm
  exact kr 0
theorem pE (p1 : Int) (p2 : ax) (r : (ah × Bool)) (hm : iG p1 p2 = some r) : da Try.prog 107 [.c (.optr 0 0), .c (.int .i64 p1)] [.box [.tree 2 (p2.system.vars.map ah.enc), .tree 1 (p2.system.in_.map (eK .i64)), .tree 1 (p2.system.out_.map (eK .i64)), .tree 6 (p2.system.rules.map ab.enc), .int .i64 p2.code]] (fun p σ => (p = .t [.a [.int .u8 ((r.1).elem), .int .i64 ((r.1).n)], .c (.bool r.2)] ∧ σ = [.box [.tree 2 (p2.system.vars.map ah.enc), .tree 1 (p2.system.in_.map (eK .i64)), .tree 1 (p2.system.out_.map (eK .i64)), .tree 6 (p2.system.rules.map ab.enc), .int .i64 p2.code]])) (fun _ _ => False) := by
 refine aC 26 [.cell 4 50, .tmp 5] Try.func107 rfl rfl rfl (by kernel_rfl) (by simp) ?_;refine bo ?_;unfold iG at hm;refine ak [5] ?_;obtain ⟨hg1a, hm⟩ := gd hm;refine rf [0, 1, 6, 7, 8, 9, 10, 11, 12, 13, 14, 15, 16, 17, 18, 19, 20, 21, 22, 23, 24, 25] (by kernel_rfl) [1] [0, 1, 3, 7, 15, 0, 63, 127, 255, 511, 0, 1024, 3072, 7168, 15360, 0, 64512, 130048, 261120, 523264, 1023, 2097151] [false, false, false, false, false, false, false, false, false, false, false, false, false, false, false, false, false, false, false, false, false, true] [false, false, false, false, false, false, false, false, false, false, false, false, false, false, false, false, false, false, false, false, true, false] [[], [], [], [], [], [], [], [], [], [], [0], [16], [17], [18], [19], [1], [20, 21], [22], [23], [24], [], []] (by kernel_rfl) fun k hk => ?_;refine gpx (em ah.enc p2.system.vars p1.toNat) ?_;obtain ⟨y1, hc2, hm⟩ := bd hm;refine pap (fun _ => jo ((p2.system.vars.getD p1.toNat default).elem) _ hc2) ?_;refine gpx (em ah.enc p2.system.vars p1.toNat) ?_;refine hk _ _ ?_;clear hk k;refine am ?_
 cases hm
 exact kr 1
theorem bN (p1 : Int) (p2 : List Int) (v1_ : Nat) (r : Int) (hm : bt p1 p2 = some r) : da Try.prog 130 [.c (.int .i64 p1), .c (.optr 0 0)] [.box [.osl 1 v1_ 0 p2.length], .arr 1 v1_ 5 (p2.map (eK .u8))] (fun p σ => (p = .c (.int .u8 r) ∧ σ = [.box [.osl 1 v1_ 0 p2.length], .arr 1 v1_ 5 (p2.map (eK .u8))])) (fun _ _ => False) := by
 refine aC 15 [.tmp 3] Try.func130 rfl rfl rfl (by kernel_rfl) (by simp) ?_;refine bo ?_;unfold bt at hm;refine ak [3] ?_;refine ap fun k1 hk1 => ?_;refine ak [4, 5, 6] ?_
 by_cases h1 : p1 > (p2.length : Int)
 ·rw [iP h1] at hm;refine af rfl (dT h1) ?_;refine ak [0, 1, 7] ?_;refine am ?_;refine ag ?_
  cases hm
  exact kr 2
 ·rw [iN h1] at hm;refine ai rfl (dF h1) ?_;refine au ?_;refine an (hk1 _ _ ?_);obtain ⟨hg2a, hm⟩ := gd hm;refine bU (em (eK .u8) p2 ((IntKind.wrap .i64 ((p2.length : Int) - p1)).toNat)) [0, 1, 7, 8, 9, 10, 11, 12, 13, 14] ?_;refine am ?_
  cases hm
  exact kr 2
theorem oc (p1 : aq) (p2 : Int) (p3 : ax) (p4 : List Int) (v1_ : Nat) (r : (Int × Int × Bool)) (hm : aI p1 p2 p3 p4 = some r) : da Try.prog 128 [.c (.optr 0 0), .a [.int .i64 p1.op, .int .i64 p1.k, .int .i64 p1.v, .int .i64 p1.n], .c (.int .i64 p2), .c (.osl 1 v1_ 0 p4.length)] [.box [.tree 2 (p3.system.vars.map ah.enc), .tree 1 (p3.system.in_.map (eK .i64)), .tree 1 (p3.system.out_.map (eK .i64)), .tree 6 (p3.system.rules.map ab.enc), .int .i64 p3.code], .arr 1 v1_ 5 (p4.map (eK .u8))] (fun p σ => (p = .t [.c (.int .i64 r.1), .c (.int .u8 r.2.1), .c (.bool r.2.2)] ∧ σ = [.box [.tree 2 (p3.system.vars.map ah.enc), .tree 1 (p3.system.in_.map (eK .i64)), .tree 1 (p3.system.out_.map (eK .i64)), .tree 6 (p3.system.rules.map ab.enc), .int .i64 p3.code], .arr 1 v1_ 5 (p4.map (eK .u8))])) (fun _ _ => False) := by
 refine aC 180 [.tmp 8, .tmp 9, .tmp 10] Try.func128 rfl rfl rfl (by kernel_rfl) (by simp) ?_;refine bo ?_;unfold aI at hm;refine ak [1, 3, 8, 9, 10] ?_;refine ak [7, 17] ?_;refine ap fun k1 hk1 => ?_;refine ak [18] ?_;refine aw ?_;refine ak [21] ?_
 by_cases h1 : p1.op = 1
 ·rw [iP h1] at hm;refine af rfl (eQ h1) ?_;refine ap fun k2 hk2 => ?_;refine ak [0, 2, 11, 19, 20, 22, 23] ?_
  by_cases h2 : p1.k = 1
  ·rw [iP h2] at hm;refine af rfl (eQ h2) ?_;refine kE [5, 24, 25, 26, 27, 28, 29, 30, 31, 32] (by kernel_rfl) [0, 1, 3, 7, 15, 31, 63, 127, 15, 271, 1023] [true, true, true, true, false, false, false, false, false, false, true] (by kernel_rfl) fun k hk => ?_;refine iv 4 rfl ?_;refine ga ?_
   by_cases h3 : p1.n = 0
   ·rw [iP h3] at hm;have h3b := eQ h3;refine bG ?_;refine gax h3b ?_;refine hk _ _ ?_;clear hk k;refine am ?_;refine ag (aj (ag ?_))
    cases hm
    exact kr 2
   ·rw [iN h3] at hm;have h3b := nB h3;refine bG ?_;refine gax h3b ?_;refine hk _ _ ?_;clear hk k;refine am ?_;refine ag (aj (ag ?_))
    cases hm
    exact kr 2
  ·rw [iN h2] at hm;refine ai rfl (nB h2) ?_;refine au ?_;refine an (hk2 _ _ ?_);refine zP [5, 24, 33, 34, 35] [0, 1, 3, 0, 8, 31] [false, false, false, false, false, true] ?_;refine am ?_;refine aj (ag ?_)
   cases hm
   exact kr 2
 ·rw [iN h1] at hm;refine ai rfl (nB h1) ?_;refine ak [20, 37] ?_
  by_cases h4 : p1.op = 2
  ·rw [iP h4] at hm;refine af rfl (eQ h4) ?_;obtain ⟨hg5a, hm⟩ := gd hm;refine m9 (em ah.enc p3.system.vars p1.v.toNat) [0, 2, 5, 11, 19, 36, 38, 39, 40, 41, 42, 43, 44, 45, 46, 47, 48, 49, 50, 51, 52, 53, 54, 55, 56, 57, 58] [0, 1, 3, 7, 15, 0, 32, 127, 255, 511, 0, 1024, 3072, 7168, 15360, 0, 32768, 130048, 261120, 523264, 1047552, 0, 2098175, 8388607] [false, false, false, false, false, false, false, false, false, false, false, false, false, false, false, false, false, false, false, false, false, false, false, true] ?_;refine am ?_;refine aj (ag ?_)
   cases hm
   exact kr 2
  ·rw [iN h4] at hm;refine ai rfl (nB h4) ?_;refine ak [36, 60] ?_
   by_cases h6 : p1.op = 3
   ·rw [iP h6] at hm;refine af rfl (eQ h6) ?_;obtain ⟨hg7a, hm⟩ := gd hm;refine m9 (em ah.enc p3.system.vars p1.v.toNat) [0, 11, 19, 59, 61, 62, 63, 64, 65, 66, 67, 68, 69] [0, 1, 3, 7, 15, 0, 32, 127, 255, 0, 1023] [false, false, false, false, false, false, false, false, false, false, true] ?_;refine kE [2, 5, 12, 70, 71, 72, 73, 74, 75, 76, 77, 78, 79, 80, 81, 82, 83, 84, 85, 86, 87, 88] (by kernel_rfl) [0, 1, 0, 4, 12, 28, 60, 124, 252, 508, 1020, 2044, 4092, 2044, 10236, 2044, 59388, 131068, 262140, 2044, 526335, 2097151] [false, false, false, false, false, false, false, false, false, false, false, false, false, false, false, false, false, false, false, false, false, true] (by kernel_rfl) fun k hk => ?_;refine iv 6 rfl ?_;refine ga ?_
    by_cases h8 : ((p3.system.vars.getD p1.v.toNat default).n) > 0
    ·rw [iP h8] at hm;have h8b := dT h8;refine iv 5 rfl ?_;refine gax h8b ?_
     by_cases h9 : p1.n ≥ 0
     ·rw [iP h9] at hm;have h9b := dT h9;refine bG ?_;refine gax (a2 h8b h9b) ?_;refine hk _ _ ?_;clear hk k;refine am ?_;refine aj (ag ?_)
      cases hm
      exact kr 2
     ·rw [iN h9] at hm;have h9b := dF h9;refine bG ?_;refine gax (a2 h8b h9b) ?_;refine hk _ _ ?_;clear hk k;refine am ?_;refine aj (ag ?_)
      cases hm
      exact kr 2
    ·rw [iN h8] at hm;have h8b := dF h8;refine bG ?_;refine gax h8b ?_;refine hk _ _ ?_;clear hk k;refine am ?_;refine aj (ag ?_)
     cases hm
     exact kr 2
   ·rw [iN h6] at hm;refine ai rfl (nB h6) ?_;refine ak [2, 59, 90] ?_
    by_cases h10 : p1.op = 4
    ·rw [iP h10] at hm;refine af rfl (eQ h10) ?_;refine kE [0, 5, 11, 19, 89, 91, 92, 93, 94, 95, 96, 97, 98] (by kernel_rfl) [0, 1, 3, 7, 15, 31, 63, 127, 15, 271, 1023] [true, true, true, true, false, false, false, false, false, false, true] (by kernel_rfl) fun k hk => ?_;refine iv 4 rfl ?_;refine ga ?_
     by_cases h11 : p1.n ≥ (-1000000)
     ·rw [iP h11] at hm;have h11b := dT h11;refine bG ?_;refine gax h11b ?_;refine hk _ _ ?_;clear hk k;refine am ?_;refine aj (ag ?_)
      cases hm
      exact kr 2
     ·rw [iN h11] at hm;have h11b := dF h11;refine bG ?_;refine gax h11b ?_;refine hk _ _ ?_;clear hk k;refine am ?_;refine aj (ag ?_)
      cases hm
      exact kr 2
    ·rw [iN h10] at hm;refine ai rfl (nB h10) ?_;refine aH (S := Bool) (V := Unit) [89, 99, 100, 101] (fun b1 _ => [(99, .c (.bool b1))]) (fun b1 _ => [.box [.tree 2 (p3.system.vars.map ah.enc), .tree 1 (p3.system.in_.map (eK .i64)), .tree 1 (p3.system.out_.map (eK .i64)), .tree 6 (p3.system.rules.map ab.enc), .int .i64 p3.code], .arr 1 v1_ 5 (p4.map (eK .u8)), .box [.int .i64 p1.op, .int .i64 p1.k, .int .i64 p1.v, .int .i64 p1.n], .box [.osl 1 v1_ 0 p4.length]]) (fun b1 => bQ p1 p3 p4 b1 = some r) ?_ ?_
     ·skip;refine ak [89, 100] ?_
      by_cases h40 : p1.op = 5
      ·rw [iP h40] at hm;refine af rfl (eQ h40) ?_;refine au ?_;refine ay (p1.op == 5) () hm ?_;exact ls
      ·rw [iN h40] at hm;refine ai rfl (nB h40) ?_;refine ck ?_;refine ay (p1.op == 6) () hm ?_;exact ls
     ·rintro b1 _ hm;replace hm : bQ p1 p3 p4 b1 = some r := hm;refine aM ?_;unfold bQ at hm
      by_cases h12 : b1 = true
      ·rw [iP h12] at hm;refine af rfl (h12) ?_;refine aF [0, 19, 99, 102, 103, 104, 105, 106, 107, 108] fun k kp hk hp => ?_;refine go ?_;obtain ⟨y2, hc13, hm⟩ := bd hm;refine RP (fun _ => lH p1.k _ hc13) ?_;refine aa ?_;refine go ?_;refine hk _ _ ?_;clear hk hp k kp;refine bl [5, 11, 13, 14, 15, 109, 110, 111, 112, 113, 114, 115, 116, 117, 118, 119, 120, 121, 122, 123, 124, 125, 126, 127, 128, 129, 130, 131, 132] fun k kp hk hp => ?_;refine ao 9 ?_;refine go ?_
       by_cases h14 : y2.2.2 = (IntKind.wrap .i64 ((IntKind.wrap .i64 (p1.op - 5)) + 1))
       ·rw [iP h14] at hm;have h14b := eQ h14;refine aa ?_;refine gox h14b ?_;obtain ⟨y3, hc15, hm⟩ := bd hm;refine RA (bN 1 p4 v1_ _ hc15) [3, 1] ?_;rintro p σ' ⟨rfl, rfl⟩ _;refine ao 4 ?_;refine gox h14b ?_
        by_cases h17 : y3 = y2.1
        ·rw [iP h17] at hm;have h17b := eQ h17
         by_cases h18 : y2.2.2 = 1
         ·rw [iP h18] at hm;have h18b := eQ h18;refine aa ?_;refine gox (a2 h14b (a2 h17b h18b)) ?_;refine hk _ _ ?_;clear hk hp k kp;refine am ?_;refine aj (ag ?_)
          cases hm
          exact kr 2
         ·rw [iN h18] at hm;have h18b := nB h18;refine aa ?_;refine gox (a2 h14b (a2 h17b h18b)) ?_;obtain ⟨y4, hc19, hm⟩ := bd hm;refine RA (bN 2 p4 v1_ _ hc19) [3, 1] ?_;rintro p σ' ⟨rfl, rfl⟩ _;refine aa ?_;refine gox (a2 h14b (a2 h17b h18b)) ?_;refine hk _ _ ?_;clear hk hp k kp;refine am ?_;refine aj (ag ?_)
          cases hm
          exact kr 2
        ·rw [iN h17] at hm;have h17b := nB h17;refine aa ?_;refine gox (a2 h14b h17b) ?_;refine hk _ _ ?_;clear hk hp k kp;refine am ?_;refine aj (ag ?_)
         cases hm
         exact kr 2
       ·rw [iN h14] at hm;have h14b := nB h14;refine aa ?_;refine gox h14b ?_;refine hk _ _ ?_;clear hk hp k kp;refine am ?_;refine aj (ag ?_)
        cases hm
        exact kr 2
      ·rw [iN h12] at hm;refine ai rfl (fB h12) ?_;refine ak [99, 134] ?_
       by_cases h21 : p1.op = 7
       ·rw [iP h21] at hm;refine af rfl (eQ h21) ?_;refine aF [0, 5, 11, 19, 133, 135, 136, 137, 138, 139, 140, 141, 142, 143, 144, 145, 146, 147, 148, 149, 150, 151] fun k kp hk hp => ?_;refine go ?_;obtain ⟨y5, hc22, hm⟩ := bd hm;refine RA (bN 1 p4 v1_ _ hc22) [3, 1] ?_;rintro p σ' ⟨rfl, rfl⟩ _;refine aa ?_;refine go ?_;obtain ⟨y6, hc24, hm⟩ := bd hm;refine RA (bN 3 p4 v1_ _ hc24) [3, 1] ?_;rintro p σ' ⟨rfl, rfl⟩ _
        by_cases h26 : y6 = 98
        ·rw [iP h26] at hm;have h26b := eQ h26;refine aa ?_;refine gox h26b ?_;obtain ⟨y7, hc27, hm⟩ := bd hm;refine RA (bN 1 p4 v1_ _ hc27) [3, 1] ?_;rintro p σ' ⟨rfl, rfl⟩ _;refine aa ?_;refine gox h26b ?_;obtain ⟨y8, hc29, hm⟩ := bd hm;refine RA (bN 2 p4 v1_ _ hc29) [3, 1] ?_;rintro p σ' ⟨rfl, rfl⟩ _
         by_cases h31 : y7 = y8
         ·rw [iP h31] at hm;have h31b := eQ h31;refine aa ?_;refine gox (a2 h26b h31b) ?_;obtain ⟨y9, hc32, hm⟩ := bd hm;refine RA (bN 1 p4 v1_ _ hc32) [3, 1] ?_;rintro p σ' ⟨rfl, rfl⟩ _;refine aa ?_;refine gox (a2 h26b h31b) ?_;refine hk _ _ ?_;clear hk hp k kp;refine am ?_;refine aj (ag ?_)
          cases hm
          exact kr 2
         ·rw [iN h31] at hm;have h31b := nB h31;refine aa ?_;refine gox (a2 h26b h31b) ?_;refine hk _ _ ?_;clear hk hp k kp;refine am ?_;refine aj (ag ?_)
          cases hm
          exact kr 2
        ·rw [iN h26] at hm;have h26b := nB h26;refine aa ?_;refine gox h26b ?_;refine hk _ _ ?_;clear hk hp k kp;refine am ?_;refine aj (ag ?_)
         cases hm
         exact kr 2
       ·rw [iN h21] at hm;refine ai rfl (nB h21) ?_;refine ak [19, 133, 153] ?_
        by_cases h34 : p1.op = 8
        ·rw [iP h34] at hm;refine af rfl (eQ h34) ?_;obtain ⟨hg35a, hm⟩ := gd hm;refine m9 (em ah.enc p3.system.vars p1.v.toNat) [0, 5, 152, 154, 155, 156, 157, 158, 159, 160, 161, 162] [0, 1, 3, 7, 15, 0, 32, 127, 255, 0, 1023] [false, false, false, false, false, false, false, false, false, false, true] ?_;refine kE [11, 16, 163, 164, 165, 166, 167, 168, 169, 170, 171, 172, 173, 174, 175, 176, 177, 178, 179] (by kernel_rfl) [0, 1, 0, 4, 12, 28, 60, 124, 60, 316, 1020, 2044, 4092, 8188, 16380, 32764, 65532, 32764, 163839, 524287] [false, false, false, false, false, false, false, false, false, false, false, false, false, false, false, false, false, false, false, true] (by kernel_rfl) fun k hk => ?_;refine iv 6 rfl ?_;refine ga ?_
         by_cases h36 : ((p3.system.vars.getD p1.v.toNat default).n) > 0
         ·rw [iP h36] at hm;have h36b := dT h36;refine bG ?_;refine gax h36b ?_;obtain ⟨y10, hc37, hm⟩ := bd hm;refine cat (σ2 := [.box [.tree 2 (p3.system.vars.map ah.enc), .tree 1 (p3.system.in_.map (eK .i64)), .tree 1 (p3.system.out_.map (eK .i64)), .tree 6 (p3.system.rules.map ab.enc), .int .i64 p3.code], .arr 1 v1_ 5 (p4.map (eK .u8)), .box [.int .i64 p1.op, .int .i64 p1.k, .int .i64 p1.v, .int .i64 p1.n], .box [.osl 1 v1_ 0 p4.length], .box [.int .u8 ((p3.system.vars.getD p1.v.toNat default).elem), .int .i64 ((p3.system.vars.getD p1.v.toNat default).n)]]) (res := .c (.int .u8 y10)) (ct [3, 1] (bN 1 p4 v1_ _ hc37)) ?_;refine iv 5 rfl ?_;refine gax h36b ?_
          by_cases h38 : y10 = ((p3.system.vars.getD p1.v.toNat default).elem)
          ·rw [iP h38] at hm;have h38b := eQ h38;refine bG ?_;refine gax (a2 h36b h38b) ?_;obtain ⟨y11, hc39, hm⟩ := bd hm;refine cat (σ2 := [.box [.tree 2 (p3.system.vars.map ah.enc), .tree 1 (p3.system.in_.map (eK .i64)), .tree 1 (p3.system.out_.map (eK .i64)), .tree 6 (p3.system.rules.map ab.enc), .int .i64 p3.code], .arr 1 v1_ 5 (p4.map (eK .u8)), .box [.int .i64 p1.op, .int .i64 p1.k, .int .i64 p1.v, .int .i64 p1.n], .box [.osl 1 v1_ 0 p4.length], .box [.int .u8 ((p3.system.vars.getD p1.v.toNat default).elem), .int .i64 ((p3.system.vars.getD p1.v.toNat default).n)]]) (res := .c (.int .u8 y11)) (ct [3, 1] (bN 2 p4 v1_ _ hc39)) ?_;refine bG ?_;refine gax (a2 h36b h38b) ?_;refine hk _ _ ?_;clear hk k;refine am ?_;refine aj (ag ?_)
           cases hm
           exact kr 2
          ·rw [iN h38] at hm;have h38b := nB h38;refine bG ?_;refine gax (a2 h36b h38b) ?_;refine hk _ _ ?_;clear hk k;refine am ?_;refine aj (ag ?_)
           cases hm
           exact kr 2
         ·rw [iN h36] at hm;have h36b := dF h36;refine bG ?_;refine gax h36b ?_;refine hk _ _ ?_;clear hk k;refine am ?_;refine aj (ag ?_)
          cases hm
          exact kr 2
        ·rw [iN h34] at hm;refine ai rfl (nB h34) ?_;refine au ?_;refine aB ?_;refine an (hk1 _ _ ?_);refine ak [0, 5, 11, 152] ?_;refine am ?_
         cases hm
         exact kr 2
theorem pF (p1 : List aq) (p2 : Int) (p3 : ax) (r : (Int × Bool)) (hm : iH p1 p2 p3 = some r) : da Try.prog 121 [.c (.optr 0 0), .c (.tree 4 (p1.map aq.enc)), .c (.int .i64 p2)] [.box [.tree 2 (p3.system.vars.map ah.enc), .tree 1 (p3.system.in_.map (eK .i64)), .tree 1 (p3.system.out_.map (eK .i64)), .tree 6 (p3.system.rules.map ab.enc), .int .i64 p3.code]] (fun p σ => (p = .t [.c (.int .u8 r.1), .c (.bool r.2)] ∧ σ = [.box [.tree 2 (p3.system.vars.map ah.enc), .tree 1 (p3.system.in_.map (eK .i64)), .tree 1 (p3.system.out_.map (eK .i64)), .tree 6 (p3.system.rules.map ab.enc), .int .i64 p3.code]])) (fun _ _ => False) := by
 refine aC 53 [.tmp 6, .tmp 7] Try.func121 rfl rfl rfl (by kernel_rfl) (by simp) ?_;refine bo ?_;unfold iH at hm;refine ak [6, 7] ?_;refine ak [] ?_;refine dq (fg 8 1 5 (by decide) rfl (Nat.le_of_ble_eq_true rfl)) ?_;refine ma ?_;refine aH (S := (List Int)) (V := Nat) [0, 1, 2, 6, 7, 8, 10, 11, 12, 13, 14, 15, 16, 17, 18, 19, 20, 21, 22, 23, 24, 25, 26, 27, 28, 29, 30, 31, 32, 33, 34, 35, 36, 37, 38, 39, 40, 41, 42, 43, 44, 45, 46] (fun l3 v4 => [(8, .c (.osl 1 v4 0 l3.length))]) (fun l3 v4 => [.box [.tree 2 (p3.system.vars.map ah.enc), .tree 1 (p3.system.in_.map (eK .i64)), .tree 1 (p3.system.out_.map (eK .i64)), .tree 6 (p3.system.rules.map ab.enc), .int .i64 p3.code], .arr 1 v4 5 (l3.map (eK .u8))]) (fun l3 => cF l3 = some r) ?_ ?_
 ·skip;refine ak [1] ?_
  refine aw ?_;obtain ⟨o1, hl1, hm1⟩ := bd hm;refine bj (S := ((List Int) × Int)) (V := Nat) (O := (List Int) ⊕ (Int × Bool)) [6, 7, 8, 10, 11, 12, 13, 16, 17, 18, 19, 20, 21, 22, 23, 24, 25, 26, 27, 28, 29, 30, 31, 32, 33, 34, 35, 36, 37, 38, 39, 40, 41, 42, 43, 44, 45, 46] (fun (l17, x19) v18 => [(8, .c (.osl 1 v18 0 l17.length)), (16, .c (.int .i64 x19))]) (fun (l17, x19) v18 => [.box [.tree 2 (p3.system.vars.map ah.enc), .tree 1 (p3.system.in_.map (eK .i64)), .tree 1 (p3.system.out_.map (eK .i64)), .tree 6 (p3.system.rules.map ab.enc), .int .i64 p3.code], .arr 1 v18 5 (l17.map (eK .u8))]) _ _ 0 hl1 ?_ ?_
  ·exact ls
  ·rintro ⟨l17, x19⟩ v18 r1 hm hr1;replace hm : bk p1 p2 p3 l17 x19 = some r1 := hm;refine aM ?_;unfold bk at hm;refine ak [] ?_;refine ap fun k2 hk2 => ?_
   by_cases h3 : x19 < (p1.length : Int)
   ·rw [iP h3] at hm;refine af rfl (dT h3) ?_;refine au ?_;refine an (hk2 _ _ ?_);refine ap fun k3 hk3 => ?_;refine aw ?_;obtain ⟨hg4a, hm⟩ := gd hm;refine bU (em aq.enc p1 x19.toNat) [17, 18, 19] ?_;refine aF [10, 20, 21, 22, 23, 24, 25, 26, 27, 28] fun k kp hk hp => ?_;refine go ?_;obtain ⟨y20, hc5, hm⟩ := bd hm;refine RA (oc (p1.getD x19.toNat default) p2 p3 l17 v18 _ hc5) [0, 1] ?_;rintro p σ' ⟨rfl, rfl⟩ _;refine aa ?_;refine go ?_;refine hk _ _ ?_;clear hk hp k kp;refine ap fun k4 hk4 => ?_
    by_cases h7 : y20.2.2 = true
    ·rw [iP h7] at hm;have h7b := h7
     have h7c : (!y20.2.2) = false := by rw [h7b]; rfl
     refine bU (a2 h7b h7c) [13, 29, 30, 31, 32, 33, 34, 35] ?_
     by_cases h8 : (l17.length : Int) < y20.1
     ·rw [iP h8] at hm;refine af rfl (dT h8) ?_;refine ak [0, 2, 8, 11, 12, 14, 15, 16, 36] ?_;have ho9 := aQ hm hr1;subst ho9;replace hm : some (0, false) = some r := hm1;refine am ?_;refine ag (aj (ag (bC (aj (aZ ?_)))))
      cases hm
      exact kr 1
     ·rw [iN h8] at hm;refine ai rfl (dF h8) ?_;refine au ?_;refine an (hk4 _ _ ?_);obtain ⟨⟨hg10a, ⟨hg10bx, hg10by⟩⟩, hm⟩ := gd hm;refine ck ?_;refine aB ?_;refine an (hk3 _ _ ?_);refine ck ?_;refine aL (((l17.take ((IntKind.wrap .i64 ((l17.length : Int) - y20.1)).toNat)) ++ (lit ([y20.2.1] : List Int))), (IntKind.wrap .i64 (x19 + 1))) (v18 + 1) hm ?_;exact ls
    ·rw [iN h7] at hm;have h7b := fB h7
     have h7c : (!y20.2.2) = true := by rw [h7b]; rfl
     refine bU (a2 h7b h7c) [13, 29, 30, 31, 32, 33, 34, 35] ?_;refine af rfl rfl ?_;refine ak [0, 2, 8, 11, 12, 14, 15, 16, 36] ?_;have ho11 := aQ hm hr1;subst ho11;replace hm : some (0, false) = some r := hm1;refine am ?_;refine ag (aj (ag (bC (aj (aZ ?_)))))
     cases hm
     exact kr 1
   ·rw [iN h3] at hm;refine ai rfl (dF h3) ?_;refine bB ?_;have ho12 := aQ hm hr1;subst ho12;replace hm : cF l17 = some r := hm1;refine bg (aY (aG ?_));refine ay l17 v18 hm ?_;exact ls
 ·rintro l3 v4 hm;replace hm : cF l3 = some r := hm;refine aM ?_;unfold cF at hm;refine ap fun k1 hk1 => ?_;refine ak [47, 48] ?_
  by_cases h1 : ¬ (l3.length : Int) = 1
  ·rw [iP h1] at hm;refine af rfl (bne_iff_ne.2 h1) ?_;refine ak [8, 49] ?_;refine am ?_;refine ag ?_
   cases hm
   exact kr 1
  ·rw [iN h1] at hm;refine ai rfl (bne_eq_false_iff_eq.2 (Decidable.not_not.1 h1)) ?_;refine au ?_;refine an (hk1 _ _ ?_);obtain ⟨hg2a, hm⟩ := gd hm;refine bU (em (eK .u8) l3 0) [8, 49, 50, 51, 52] ?_;refine am ?_
   cases hm
   exact kr 1
theorem pG (p1 : ab) (p2 : ah) (p3 : ah) (p4 : ax) (r : Bool) (hm : gG p1 p2 p3 p4 = some r) : da Try.prog 108 [.c (.optr 0 0), .a [.int .i64 p1.op, .int .i64 p1.k, .int .i64 p1.out_, .int .i64 p1.n, .tree 1 (p1.a.map (eK .i64)), .tree 4 (p1.e.map aq.enc)], .a [.int .u8 p2.elem, .int .i64 p2.n], .a [.int .u8 p3.elem, .int .i64 p3.n]] [.box [.tree 2 (p4.system.vars.map ah.enc), .tree 1 (p4.system.in_.map (eK .i64)), .tree 1 (p4.system.out_.map (eK .i64)), .tree 6 (p4.system.rules.map ab.enc), .int .i64 p4.code]] (fun p σ => (p = .c (.bool r) ∧ σ = [.box [.tree 2 (p4.system.vars.map ah.enc), .tree 1 (p4.system.in_.map (eK .i64)), .tree 1 (p4.system.out_.map (eK .i64)), .tree 6 (p4.system.rules.map ab.enc), .int .i64 p4.code]])) (fun _ _ => False) := by
 refine aC 98 [.tmp 8] Try.func108 rfl rfl rfl (by kernel_rfl) (by simp) ?_;refine bo ?_;unfold gG at hm;refine ak [1, 2, 3, 8] ?_;refine ak [16, 17, 18] ?_;refine ak [19, 20] ?_;refine aH (S := Int) (V := Unit) [6, 7, 8, 9, 21, 22, 23, 24, 25, 26, 27, 28, 29, 30, 31, 32, 33, 34, 35, 36, 37, 38, 39, 40, 41, 42, 43, 44, 45, 46, 47, 48, 49, 50, 51, 52, 53, 54, 55, 56, 57, 58, 59, 60, 61, 62, 63, 64, 65, 66, 67, 68] (fun x1 _ => [(9, .c (.int .i64 x1))]) (fun x1 _ => [.box [.tree 2 (p4.system.vars.map ah.enc), .tree 1 (p4.system.in_.map (eK .i64)), .tree 1 (p4.system.out_.map (eK .i64)), .tree 6 (p4.system.rules.map ab.enc), .int .i64 p4.code], .box [.int .i64 p1.op, .int .i64 p1.k, .int .i64 p1.out_, .int .i64 p1.n, .tree 1 (p1.a.map (eK .i64)), .tree 4 (p1.e.map aq.enc)], .box [.int .u8 p2.elem, .int .i64 p2.n], .box [.int .u8 p3.elem, .int .i64 p3.n]]) (fun x1 => cG p1 p2 p4 x1 = some r) ?_ ?_
 ·skip;refine ak [21] ?_
  refine aw ?_;refine ak [24] ?_
  by_cases h7 : p1.op = 15
  ·rw [iP h7] at hm;refine af rfl (eQ h7) ?_;refine ap fun k1 hk1 => ?_;refine bl [6, 7, 9, 22, 23, 25, 26, 27, 28, 29, 30, 31, 32, 33, 34, 35, 36, 37, 38, 39, 40, 41, 42, 43, 44, 45, 46, 47] fun k kp hk hp => ?_;refine ao 4 ?_;refine go ?_
   by_cases h8 : p1.n < 1
   ·rw [iP h8] at hm;have h8b := dT h8;refine aa ?_;refine gox h8b ?_;refine hk _ _ ?_;clear hk hp k kp;refine af rfl rfl ?_;refine ak [0, 5, 10, 48] ?_;refine am ?_;refine ag (aj (aZ ?_))
    cases hm
    exact kr 1
   ·rw [iN h8] at hm;have h8b := dF h8;refine ao 5 ?_;refine gox h8b ?_
    by_cases h9 : p1.n > 300
    ·rw [iP h9] at hm;have h9b := dT h9;refine aa ?_;refine gox (a2 h8b h9b) ?_;refine hk _ _ ?_;clear hk hp k kp;refine af rfl rfl ?_;refine ak [0, 5, 10, 48] ?_;refine am ?_;refine ag (aj (aZ ?_))
     cases hm
     exact kr 1
    ·rw [iN h9] at hm;have h9b := dF h9;refine aa ?_;refine gox (a2 h8b h9b) ?_;obtain ⟨y4, hc10, hm⟩ := bd hm;refine RP (fun _ => ll p1.k _ hc10) ?_
     by_cases h11 : y4 = true
     ·rw [iP h11] at hm;have h11b := h11
      have h11c : (!y4) = false := by rw [h11b]; rfl
      refine ao 8 ?_;refine gox (a2 h8b (a2 h9b (a2 h11b h11c))) ?_
      by_cases h12 : p3.elem = p2.elem ∧ p3.n = p2.n
      ·rw [iP h12] at hm
       have h12b : ((p3.elem == p2.elem) && (p3.n == p2.n)) = true := by simpa [Bool.and_eq_true] using h12
       have h12c : (!((p3.elem == p2.elem) && (p3.n == p2.n))) = false := by rw [h12b]; rfl
       refine aa ?_;refine gox (a2 h8b (a2 h9b (a2 h11b (a2 h11c (a2 h12b h12c))))) ?_;refine hk _ _ ?_;clear hk hp k kp
       by_cases h13 : p2.n > 0
       ·rw [iP h13] at hm;refine af rfl (dT h13) ?_;refine ak [0, 5, 10, 48] ?_;refine am ?_;refine ag (aj (aZ ?_))
        cases hm
        exact kr 1
       ·rw [iN h13] at hm;refine ai rfl (dF h13) ?_;refine au ?_;refine an (hk1 _ _ ?_);refine ck ?_;refine aB ?_;refine ay p1.n () hm ?_;exact la
      ·rw [iN h12] at hm;have h12b : ((p3.elem == p2.elem) && (p3.n == p2.n)) = false := fB (fun hh => h12 (by simpa [Bool.and_eq_true] using hh))
       have h12c : (!((p3.elem == p2.elem) && (p3.n == p2.n))) = true := by rw [h12b]; rfl
       refine aa ?_;refine gox (a2 h8b (a2 h9b (a2 h11b (a2 h11c (a2 h12b h12c))))) ?_;refine hk _ _ ?_;clear hk hp k kp;refine af rfl rfl ?_;refine ak [0, 5, 10, 48] ?_;refine am ?_;refine ag (aj (aZ ?_))
       cases hm
       exact kr 1
     ·rw [iN h11] at hm;have h11b := fB h11
      have h11c : (!y4) = true := by rw [h11b]; rfl
      refine aa ?_;refine gox (a2 h8b (a2 h9b (a2 h11b h11c))) ?_;refine hk _ _ ?_;clear hk hp k kp;refine af rfl rfl ?_;refine ak [0, 5, 10, 48] ?_;refine am ?_;refine ag (aj (aZ ?_))
      cases hm
      exact kr 1
  ·rw [iN h7] at hm;refine ai rfl (nB h7) ?_;refine ak [22, 23, 52] ?_
   by_cases h14 : p1.op = 16
   ·rw [iP h14] at hm;refine af rfl (eQ h14) ?_;refine kE [6, 7, 51, 53, 54, 55, 56, 57, 58, 59, 60, 61, 62, 63, 64, 65, 66, 67] (by kernel_rfl) [0, 1, 3, 7, 15, 31, 63, 127, 255, 511, 1023, 1023, 3071, 7167, 16383, 32767] [true, true, true, true, true, true, true, true, true, true, false, false, false, false, true, true] (by kernel_rfl) fun k hk => ?_;refine bG ?_;refine ga ?_;obtain ⟨y5, hc15, hm⟩ := bd hm;refine pat (fun _ => ll p1.k _ hc15) ?_
    by_cases h16 : y5 = true
    ·rw [iP h16] at hm;have h16b := h16
     have h16c : (!y5) = false := by rw [h16b]; rfl
     refine iv 7 rfl ?_;refine gax (a2 h16b h16c) ?_
     by_cases h17 : p2.n = 0
     ·rw [iP h17] at hm;have h17b := eQ h17;refine bG ?_;refine gax (a2 h16b (a2 h16c h17b)) ?_;refine hk _ _ ?_;clear hk k;refine af rfl rfl ?_;refine ak [0, 5, 9, 10, 68] ?_;refine am ?_;refine aj (aZ ?_)
      cases hm
      exact kr 1
     ·rw [iN h17] at hm;have h17b := nB h17;refine bG ?_;refine gax (a2 h16b (a2 h16c h17b)) ?_;obtain ⟨y6, hc18, hm⟩ := bd hm;refine pat (fun _ => jo p2.elem _ hc18) ?_;refine bG ?_;refine gax (a2 h16b (a2 h16c h17b)) ?_;refine hk _ _ ?_;clear hk k
      by_cases h19 : p3.elem = ((y6).elem) ∧ p3.n = ((y6).n)
      ·rw [iP h19] at hm;refine ai rfl (by rw [show ((p3.elem == ((y6).elem)) && (p3.n == ((y6).n))) = true from (by simpa [Bool.and_eq_true] using h19)]; rfl) ?_;refine au ?_;refine aB ?_;refine ay (if 1 > p2.n then 1 else p2.n) () hm ?_;exact la
      ·rw [iN h19] at hm;refine af rfl (by rw [show ((p3.elem == ((y6).elem)) && (p3.n == ((y6).n))) = false from (fB (fun hh => h19 (by simpa [Bool.and_eq_true] using hh)))]; rfl) ?_;refine ak [0, 5, 9, 10, 68] ?_;refine am ?_;refine aj (aZ ?_)
       cases hm
       exact kr 1
    ·rw [iN h16] at hm;have h16b := fB h16
     have h16c : (!y5) = true := by rw [h16b]; rfl
     refine bG ?_;refine gax (a2 h16b h16c) ?_;refine hk _ _ ?_;clear hk k;refine af rfl rfl ?_;refine ak [0, 5, 9, 10, 68] ?_;refine am ?_;refine aj (aZ ?_)
     cases hm
     exact kr 1
   ·rw [iN h14] at hm;refine ai rfl (nB h14) ?_;refine au ?_;refine aB ?_;refine ay (if 1 > p2.n then 1 else p2.n) () hm ?_;exact ls
 ·rintro x1 _ hm;replace hm : cG p1 p2 p4 x1 = some r := hm;refine aM ?_;unfold cG at hm;refine aF [12, 13, 69, 70, 71, 72, 73, 74, 75] fun k kp hk hp => ?_;refine go ?_;obtain ⟨y2, hc1, hm⟩ := bd hm;refine RP (fun _ => lH p1.k _ hc1) ?_;refine aa ?_;refine go ?_;refine hk _ _ ?_;clear hk hp k kp;refine aH (S := Unit) (V := Unit) [8, 11, 76, 77, 78, 79, 80, 81, 82, 83] (fun _ _ => []) (fun _ _ => [.box [.tree 2 (p4.system.vars.map ah.enc), .tree 1 (p4.system.in_.map (eK .i64)), .tree 1 (p4.system.out_.map (eK .i64)), .tree 6 (p4.system.rules.map ab.enc), .int .i64 p4.code], .box [.int .i64 p1.op, .int .i64 p1.k, .int .i64 p1.out_, .int .i64 p1.n, .tree 1 (p1.a.map (eK .i64)), .tree 4 (p1.e.map aq.enc)], .box [.int .u8 p2.elem, .int .i64 p2.n], .box [.int .u8 p3.elem, .int .i64 p3.n]]) (fun _ => dQ p1 p2 p4 x1 = some r) ?_ ?_
  ·skip;refine bl [11, 76, 77, 78, 79, 80, 81, 82] fun k kp hk hp => ?_
   refine ao 4 ?_;refine go ?_
   by_cases h5 : ¬ p1.op = 14
   ·rw [iP h5] at hm;have h5b := bne_iff_ne.2 h5;refine aa ?_;refine gox h5b ?_;refine hk _ _ ?_;clear hk hp k kp
    by_cases h6 : ¬ y2.1 = p2.elem
    ·rw [iP h6] at hm;refine af rfl (bne_iff_ne.2 h6) ?_;refine ak [0, 5, 9, 10, 83] ?_;refine am ?_;refine aZ ?_
     cases hm
     exact kr 1
    ·rw [iN h6] at hm;refine ai rfl (bne_eq_false_iff_eq.2 (Decidable.not_not.1 h6)) ?_;refine au ?_;refine ay () () hm ?_;exact ls
   ·rw [iN h5] at hm;have h5b : (p1.op != 14) = false := bne_eq_false_iff_eq.2 (Decidable.not_not.1 h5);refine aa ?_;refine gox h5b ?_;refine hk _ _ ?_;clear hk hp k kp;refine ai rfl rfl ?_;refine au ?_;refine ay () () hm ?_;exact ls
  ·rintro _ _ hm;replace hm : dQ p1 p2 p4 x1 = some r := hm;refine aM ?_;unfold dQ at hm;refine aF [0, 5, 9, 84, 85, 86, 87, 88, 89, 90, 91] fun k kp hk hp => ?_;refine go ?_;obtain ⟨y3, hc2, hm⟩ := bd hm;refine RA (pF p1.e x1 p4  _ hc2) [0] ?_;rintro p σ' ⟨rfl, rfl⟩ _;refine aa ?_;refine go ?_;refine hk _ _ ?_;clear hk hp k kp
   by_cases h4 : y3.2 = true
   ·rw [iP h4] at hm;have h4b := h4;refine bU h4b [10, 14, 15, 92, 93, 94, 95, 96, 97] ?_;refine am ?_
    cases hm
    exact kr 1
   ·rw [iN h4] at hm;have h4b := fB h4;refine bU h4b [10, 14, 15, 92, 93, 94, 95, 96, 97] ?_;refine am ?_
    cases hm
    exact kr 1
end Pam
