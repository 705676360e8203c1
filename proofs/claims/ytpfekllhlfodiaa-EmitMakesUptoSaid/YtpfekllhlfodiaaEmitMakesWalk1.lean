/- the walk of slices_Grow_int_int, printed by a program of ours -/
import Derived.Test.YtpfekllhlfodiaaBase3
import Derived.Test.YtpfekllhlfodiaaEmitMakesFun1
set_option linter.all false
namespace Pam
open Go Go.Proofs
set_option maxRecDepth 100000 in
set_option maxHeartbeats 1000000 in
theorem slices_Grow_int_int_ok (p1 : Int) (r : (List Int)) (hm : slices_Grow_int_int p1 = some r) : Spec Try.prog 137 [.c (.nils), .c (.int .i64 p1)] [] (fun p σ => (p = .c (.osl 0 1 0 r.length) ∧ σ = [.arr 1 1 3 (r.map (eK .i64))])) (fun _ _ => False) := by
 refine Spec_ofD 27 [.tmp 4] Try.func137 rfl rfl rfl (by kernel_rfl) (by simp) ?_
 refine W_eqf ?_
 unfold slices_Grow_int_int at hm
 refine W_rg [4] ?_
 refine W_seq_k fun k1 hk1 => ?_
 refine W_rg [5] ?_
 by_cases h1 : p1 < 0
 ·rw [if_pos h1] at hm
  refine W_condt rfl (decide_eq_true h1) ?_
  cases hm
 ·rw [if_neg h1] at hm
  refine W_condf rfl (decide_eq_false h1) ?_
  refine W_skip ?_
  refine KThen_n (hk1 _ _ ?_)
  refine W_seq_k fun k2 hk2 => ?_
  refine W_regG [6, 8, 9, 10, 11, 12, 13, 14] fun k kp hk hp => ?_
  refine RunRest_cut 2 ?_
  refine go ?_
  refine RS (Ext_capN rfl rfl rfl rfl (by first | rfl | (simp only [bR, bT, tab, bX, reduceIte, ↓reduceIte, reduceCtorEq, Int.reduceToNat, Nat.reduceDiv, Nat.reduceMod, Nat.reduceLT, Nat.reduceLeDiff, Nat.reduceAdd, Nat.reduceSub, Nat.reduceMul, Nat.reduceEqDiff, Nat.reduceBEq, Nat.reduceBNe, Nat.reduceGT]; done)) (by first | kernel_rfl | exact of_decide_eq_true (by kernel_rfl))) ?_
  simp only [bR, bT, tab, bX, reduceIte, ↓reduceIte, reduceCtorEq, Int.reduceToNat, Nat.reduceDiv, Nat.reduceMod, Nat.reduceLT, Nat.reduceLeDiff, Nat.reduceAdd, Nat.reduceSub, Nat.reduceMul, Nat.reduceEqDiff, Nat.reduceBEq, Nat.reduceBNe, Nat.reduceGT]
  refine RunRest_ops ?_
  refine go ?_
  refine hk _ _ ?_
  clear hk hp k kp
  refine W_rg [15] ?_
  by_cases h2 : (IntKind.wrap .i64 (p1 - (IntKind.wrap .i64 (0 - 0)))) > 0
  ·rw [if_pos h2] at hm
   refine W_condt rfl (decide_eq_true h2) ?_
   refine W_regionG fun k kp hk hp => ?_
   refine RunRest_cut 2 ?_
   refine go ?_
   refine RS (Ext_capN rfl rfl rfl rfl (by first | rfl | (simp only [bR, bT, tab, bX, reduceIte, ↓reduceIte, reduceCtorEq, Int.reduceToNat, Nat.reduceDiv, Nat.reduceMod, Nat.reduceLT, Nat.reduceLeDiff, Nat.reduceAdd, Nat.reduceSub, Nat.reduceMul, Nat.reduceEqDiff, Nat.reduceBEq, Nat.reduceBNe, Nat.reduceGT]; done)) (by first | kernel_rfl | exact of_decide_eq_true (by kernel_rfl))) ?_
   simp only [bR, bT, tab, bX, reduceIte, ↓reduceIte, reduceCtorEq, Int.reduceToNat, Nat.reduceDiv, Nat.reduceMod, Nat.reduceLT, Nat.reduceLeDiff, Nat.reduceAdd, Nat.reduceSub, Nat.reduceMul, Nat.reduceEqDiff, Nat.reduceBEq, Nat.reduceBNe, Nat.reduceGT]
   refine RunRest_cut 0 ?_
   refine go ?_
   refine RS (Ext_slN rfl (by first | rfl | (simp only [bR, bT, tab, bX, reduceIte, ↓reduceIte, reduceCtorEq, Int.reduceToNat, Nat.reduceDiv, Nat.reduceMod, Nat.reduceLT, Nat.reduceLeDiff, Nat.reduceAdd, Nat.reduceSub, Nat.reduceMul, Nat.reduceEqDiff, Nat.reduceBEq, Nat.reduceBNe, Nat.reduceGT]; done)) (by first | kernel_rfl | exact of_decide_eq_true (by kernel_rfl)) (by first | kernel_rfl | exact of_decide_eq_true (by kernel_rfl)) rfl rfl rfl rfl) ?_
   simp only [bR, bT, tab, bX, reduceIte, ↓reduceIte, reduceCtorEq, Int.reduceToNat, Nat.reduceDiv, Nat.reduceMod, Nat.reduceLT, Nat.reduceLeDiff, Nat.reduceAdd, Nat.reduceSub, Nat.reduceMul, Nat.reduceEqDiff, Nat.reduceBEq, Nat.reduceBNe, Nat.reduceGT]
   obtain ⟨⟨hg3a, ⟨hg3bx, hg3by⟩⟩, hm⟩ := gd hm
   refine RunRest_cut 1 ?_
   refine go ?_
   refine RS (Ext_zerosN (z := [.int .i64 0]) rfl rfl rfl rfl (by first | rfl | (simp only [bR, bT, tab, bX, reduceIte, ↓reduceIte, reduceCtorEq, Int.reduceToNat, Nat.reduceDiv, Nat.reduceMod, Nat.reduceLT, Nat.reduceLeDiff, Nat.reduceAdd, Nat.reduceSub, Nat.reduceMul, Nat.reduceEqDiff, Nat.reduceBEq, Nat.reduceBNe, Nat.reduceGT]; done)) (by first | rfl | (simp only [bR, bT, tab, bX, reduceIte, ↓reduceIte, reduceCtorEq, Int.reduceToNat, Nat.reduceDiv, Nat.reduceMod, Nat.reduceLT, Nat.reduceLeDiff, Nat.reduceAdd, Nat.reduceSub, Nat.reduceMul, Nat.reduceEqDiff, Nat.reduceBEq, Nat.reduceBNe, Nat.reduceGT]; done)) (by first | kernel_rfl | exact of_decide_eq_true (by kernel_rfl)) (by first | kernel_rfl | exact of_decide_eq_true (by kernel_rfl)) (by first | kernel_rfl | exact of_decide_eq_true (by kernel_rfl)) (by first | kernel_rfl | rfl) (by first | kernel_rfl | exact of_decide_eq_true (by kernel_rfl)) (by first | (and_intros <;> omega) | (simp only [bT, tab]; omega) | omega) (by first | (and_intros <;> omega) | (simp only [bT, tab]; omega) | omega)) ?_
   simp only [bR, bT, tab, bX, reduceIte, ↓reduceIte, reduceCtorEq, Int.reduceToNat, Nat.reduceDiv, Nat.reduceMod, Nat.reduceLT, Nat.reduceLeDiff, Nat.reduceAdd, Nat.reduceSub, Nat.reduceMul, Nat.reduceEqDiff, Nat.reduceBEq, Nat.reduceBNe, Nat.reduceGT]
   obtain ⟨hg4a, hm⟩ := gd hm
   refine RunRest_ops ?_
   refine go ?_
   refine hk _ _ ?_
   clear hk hp k kp
   refine KThen_n (hk2 _ _ ?_)
   refine W_rg [0, 1, 16, 17, 18, 19, 20, 21, 22, 23, 24, 25, 26] ?_
   refine W_eqa [.arr 1 0 3 ((List.replicate ((IntKind.wrap .i64 (p1 - (IntKind.wrap .i64 (0 - 0)))).toNat) 0).map (eK .i64))] ?_
   refine W_gh (Ghost_trim 0 0 rfl) ?_
   refine W_ghost (Ghost_new 1 3 (by decide)) ?_
   simp only [bZ, bL, reduceIte, ↓reduceIte, reduceCtorEq, Int.reduceToNat, Nat.reduceDiv, Nat.reduceMod, Nat.reduceLT, Nat.reduceLeDiff, Nat.reduceAdd, Nat.reduceSub, Nat.reduceMul, Nat.reduceEqDiff, Nat.reduceBEq, Nat.reduceBNe, Nat.reduceGT, List.length_cons, List.length_nil, List.length_append, List.cons_append, List.nil_append]
   refine W_gh (Ghost_mv 1 0 (by decide) rfl rfl) ?_
   refine W_gh (Ghost_dn 0 1 (by decide) (Nat.le_of_ble_eq_true rfl) (Nat.le_of_ble_eq_true rfl) rfl rfl) ?_
   refine W_ret ?_
   refine KBody_ret [.arr 1 1 3 (((List.replicate ((IntKind.wrap .i64 (p1 - (IntKind.wrap .i64 (0 - 0)))).toNat) 0).take 0).map (eK .i64))] ?_
   obtain rfl := Option.some.inj hm
   exact en
  ·rw [if_neg h2] at hm
   refine W_condf rfl (decide_eq_false h2) ?_
   refine W_skip ?_
   refine KThen_n (hk2 _ _ ?_)
   refine W_rg [0, 1, 16, 26] ?_
   refine W_ghost (Ghost_nil 4 1 3 (by decide) rfl (Nat.le_of_ble_eq_true rfl)) ?_
   refine W_eql ?_
   refine W_ghost (Ghost_new 1 3 (by decide)) ?_
   simp only [bZ, bL, reduceIte, ↓reduceIte, reduceCtorEq, Int.reduceToNat, Nat.reduceDiv, Nat.reduceMod, Nat.reduceLT, Nat.reduceLeDiff, Nat.reduceAdd, Nat.reduceSub, Nat.reduceMul, Nat.reduceEqDiff, Nat.reduceBEq, Nat.reduceBNe, Nat.reduceGT, List.length_cons, List.length_nil, List.length_append, List.cons_append, List.nil_append]
   refine W_gh (Ghost_mv 1 0 (by decide) rfl rfl) ?_
   refine W_gh (Ghost_dn 0 1 (by decide) (Nat.le_of_ble_eq_true rfl) (Nat.le_of_ble_eq_true rfl) rfl rfl) ?_
   refine W_ret ?_
   refine KBody_ret [.arr 1 1 3 ([].map (eK .i64))] ?_
   obtain rfl := Option.some.inj hm
   exact en
end Pam

/- the walk of slices_Concat_int_int, printed by a program of ours -/
namespace Pam
open Go Go.Proofs
set_option maxRecDepth 100000 in
set_option maxHeartbeats 1000000 in
theorem slices_Concat_int_int_ok (p1 : List (List Int)) (v0_ : Nat) (r : (List Int)) (hm : slices_Concat_int_int p1 = some r) : Spec Try.prog 111 [.c (.osl 0 v0_ 0 p1.length)] [.arr 1 v0_ 22 (p1.map (eL 1 (eK .i64)))] (fun p σ => (p = .c (.osl 1 1 0 r.length) ∧ σ = [.arr 1 v0_ 22 (p1.map (eL 1 (eK .i64))), .arr 1 1 3 (r.map (eK .i64))])) (fun _ _ => False) := by
 refine Spec_ofD 36 [.tmp 2] Try.func111 rfl rfl rfl (by kernel_rfl) (by simp) ?_
 refine W_eqf ?_
 unfold slices_Concat_int_int at hm
 refine W_rg [2] ?_
 refine W_rg [] ?_
 refine W_joinM (S := Int) (V := Unit) [0, 3, 5, 9, 10, 11, 12, 13, 14, 15, 16, 17, 18, 19, 20, 21, 22] (fun x1 _ => [(0, .c (.osl 0 v0_ 0 p1.length)), (3, .c (.int .i64 x1))]) (fun x1 _ => [.arr 1 v0_ 22 (p1.map (eL 1 (eK .i64)))]) (fun x1 => slices_Concat_int_int_j1 p1 x1 = some r) ?_ ?_
 ·skip
  refine W_rg [] ?_
  refine W_block ?_
  obtain ⟨o2, hl2, hm2⟩ := bd hm
  refine W_loopM (S := (Int × Int)) (V := Unit) (O := Int) [0, 3, 5, 9, 11, 12, 13, 14, 15, 16, 17, 18, 19, 20, 21, 22] (fun (x27, x28) _ => [(0, .c (.osl 0 v0_ 0 p1.length)), (3, .c (.int .i64 x27)), (9, .c (.osl 0 v0_ 0 p1.length)), (11, .c (.int .i64 x28))]) (fun (x27, x28) _ => [.arr 1 v0_ 22 (p1.map (eL 1 (eK .i64)))]) _ _ () hl2 ?_ ?_
  ·exact ls
  ·rintro ⟨x27, x28⟩ _ r2 hm hr2
   replace hm : slices_Concat_int_int_l2 p1 x27 x28 = some r2 := hm
   refine W_eqm ?_
   unfold slices_Concat_int_int_l2 at hm
   refine W_rg [] ?_
   refine W_seq_k fun k3 hk3 => ?_
   by_cases h7 : x28 < (p1.length : Int)
   ·rw [if_pos h7] at hm
    refine W_condt rfl (decide_eq_true h7) ?_
    refine W_skip ?_
    refine KThen_n (hk3 _ _ ?_)
    refine W_seq_k fun k4 hk4 => ?_
    refine W_block ?_
    obtain ⟨hg8a, hm⟩ := gd hm
    refine W_rgx (em (eL 1 (eK .i64)) p1 x28.toNat) [12, 13, 14] ?_
    refine W_rg [5, 15, 16, 17, 18] ?_
    refine W_rg [19] ?_
    by_cases h9 : (IntKind.wrap .i64 (x27 + ((p1.getD x28.toNat default).length : Int))) < 0
    ·rw [if_pos h9] at hm
     refine W_condt rfl (decide_eq_true h9) ?_
     cases hm
    ·rw [if_neg h9] at hm
     refine W_condf rfl (decide_eq_false h9) ?_
     refine W_skip ?_
     refine KBlock_n ?_
     refine KThen_n (hk4 _ _ ?_)
     refine W_rn ?_
     refine KLoopM_n ((IntKind.wrap .i64 (x27 + ((p1.getD x28.toNat default).length : Int))), (IntKind.wrap .i64 (x28 + 1))) () hm ?_
     exact ls
   ·rw [if_neg h7] at hm
    refine W_condf rfl (decide_eq_false h7) ?_
    refine W_exit ?_
    have ho10 := out_eq hm hr2
    subst ho10
    replace hm : slices_Concat_int_int_j1 p1 x27 = some r := hm2
    refine KThen_x ?_
    refine KLoopM_x ?_
    refine KBlock_hit ?_
    refine KJoinM_n x27 () hm ?_
    exact ls
 ·rintro x1 _ hm
  replace hm : slices_Concat_int_int_j1 p1 x1 = some r := hm
  refine W_eqm ?_
  unfold slices_Concat_int_int_j1 at hm
  refine W_regF [3, 23, 24] fun k kp hk hp => ?_
  refine go ?_
  obtain ⟨y2, hc1, hm⟩ := bd hm
  refine RA (slices_Grow_int_int_ok x1  _ hc1) [] ?_
  rintro p σ' hq2 _
  obtain ⟨rfl, rfl⟩ := hq2
  refine RunRest_ops ?_
  refine go ?_
  refine hk _ _ ?_
  clear hk hp k kp
  refine W_joinM (S := (List Int)) (V := Nat) [0, 6, 8, 25, 26, 27, 28, 29, 30, 31, 32, 33, 34] (fun l5 v6 => [(6, .c (.osl 1 v6 0 l5.length))]) (fun l5 v6 => [.arr 1 v0_ 22 (p1.map (eL 1 (eK .i64))), .arr 1 v6 3 (l5.map (eK .i64))]) (fun l5 => slices_Concat_int_int_j2 l5 = some r) ?_ ?_
  ·skip
   refine W_rg [0] ?_
   refine W_block ?_
   obtain ⟨o1, hl1, hm1⟩ := bd hm
   refine W_loopM (S := ((List Int) × Int)) (V := Nat) (O := (List Int)) [6, 8, 25, 27, 28, 29, 30, 31, 32, 33, 34] (fun (l19, x21) v20 => [(6, .c (.osl 1 v20 0 l19.length)), (25, .c (.osl 0 v0_ 0 p1.length)), (27, .c (.int .i64 x21))]) (fun (l19, x21) v20 => [.arr 1 v0_ 22 (p1.map (eL 1 (eK .i64))), .arr 1 v20 3 (l19.map (eK .i64))]) _ _ 1 hl1 ?_ ?_
   ·exact ls
   ·rintro ⟨l19, x21⟩ v20 r1 hm hr1
    replace hm : slices_Concat_int_int_l1 p1 l19 x21 = some r1 := hm
    refine W_eqm ?_
    unfold slices_Concat_int_int_l1 at hm
    refine W_rg [] ?_
    refine W_seq_k fun k1 hk1 => ?_
    by_cases h3 : x21 < (p1.length : Int)
    ·rw [if_pos h3] at hm
     refine W_condt rfl (decide_eq_true h3) ?_
     refine W_skip ?_
     refine KThen_n (hk1 _ _ ?_)
     refine W_seq_k fun k2 hk2 => ?_
     refine W_block ?_
     obtain ⟨hg4a, hm⟩ := gd hm
     refine W_rgx (em (eL 1 (eK .i64)) p1 x21.toNat) [28, 29, 30] ?_
     obtain ⟨⟨hg5ax, hg5ay⟩, hm⟩ := gd hm
     refine W_rn ?_
     refine KBlock_n ?_
     refine KThen_n (hk2 _ _ ?_)
     refine W_rn ?_
     refine KLoopM_n ((l19 ++ (p1.getD x21.toNat default)), (IntKind.wrap .i64 (x21 + 1))) (v20 + 1) hm ?_
     exact ls
    ·rw [if_neg h3] at hm
     refine W_condf rfl (decide_eq_false h3) ?_
     refine W_exit ?_
     have ho6 := out_eq hm hr1
     subst ho6
     replace hm : slices_Concat_int_int_j2 l19 = some r := hm1
     refine KThen_x ?_
     refine KLoopM_x ?_
     refine KBlock_hit ?_
     refine KJoinM_n l19 v20 hm ?_
     exact ls
  ·rintro l5 v6 hm
   replace hm : slices_Concat_int_int_j2 l5 = some r := hm
   refine W_eqm ?_
   unfold slices_Concat_int_int_j2 at hm
   refine W_rg [6, 35] ?_
   refine W_ghost (Ghost_new 1 3 (by decide)) ?_
   simp only [bZ, bL, reduceIte, ↓reduceIte, reduceCtorEq, Int.reduceToNat, Nat.reduceDiv, Nat.reduceMod, Nat.reduceLT, Nat.reduceLeDiff, Nat.reduceAdd, Nat.reduceSub, Nat.reduceMul, Nat.reduceEqDiff, Nat.reduceBEq, Nat.reduceBNe, Nat.reduceGT, List.length_cons, List.length_nil, List.length_append, List.cons_append, List.nil_append]
   refine W_gh (Ghost_mv 2 1 (by decide) rfl rfl) ?_
   refine W_gh (Ghost_dn 1 2 (by decide) (Nat.le_of_ble_eq_true rfl) (Nat.le_of_ble_eq_true rfl) rfl rfl) ?_
   refine W_ret ?_
   refine KBody_ret [.arr 1 v0_ 22 (p1.map (eL 1 (eK .i64))), .arr 1 1 3 (l5.map (eK .i64))] ?_
   obtain rfl := Option.some.inj hm
   exact en
end Pam

/- the walk of loop_inside, printed by a program of ours -/
namespace Pam
open Go Go.Proofs
set_option maxRecDepth 100000 in
set_option maxHeartbeats 1000000 in
theorem loop_inside_ok (p1 : TLoops) (p2 : Int) (p3 : Int) (r : Bool) (hm : loop_inside p1 p2 p3 = some r) : SpecF Try.prog 112 [.a [.int .i64 p1.cells, .tree 1 (p1.put.map (eK .i64)), .tree 1 (p1.get.map (eK .i64)), .tree 6 (p1.steps.map TLoop.enc)], .c (.int .i64 p2), .c (.int .i64 p3)] (.c (.bool r)) := by
 refine Spec_ofD 27 [.tmp 6] Try.func112 rfl rfl rfl (by kernel_rfl) (by simp) ?_
 refine W_eqf ?_
 unfold loop_inside at hm
 refine W_rg [0, 6] ?_
 by_cases h1 : p2 ≥ 0
 ·rw [if_pos h1] at hm
  have h1b : decide (p2 ≥ 0) = true := decide_eq_true h1
  refine W_regG [1, 2, 3, 7, 8, 9, 10, 11, 12, 13, 14, 15, 16, 17, 18, 19, 20, 21, 22, 23, 24, 25, 26] fun k kp hk hp => ?_
  refine RunRest_cut 7 ?_
  refine gox h1b ?_
  by_cases h2 : p3 ≥ 1
  ·rw [if_pos h2] at hm
   have h2b : decide (p3 ≥ 1) = true := decide_eq_true h2
   refine RunRest_cut 6 ?_
   refine gox (a2 h1b h2b) ?_
   by_cases h3 : p3 ≤ p1.cells
   ·rw [if_pos h3] at hm
    have h3b : decide (p3 ≤ p1.cells) = true := decide_eq_true h3
    refine RunRest_ops ?_
    refine gox (a2 h1b (a2 h2b h3b)) ?_
    refine hk _ _ ?_
    clear hk hp k kp
    refine W_ret ?_
    refine KBody_ret [] ?_
    obtain rfl := Option.some.inj hm
    exact en
   ·rw [if_neg h3] at hm
    have h3b : decide (p3 ≤ p1.cells) = false := decide_eq_false h3
    refine RunRest_ops ?_
    refine gox (a2 h1b (a2 h2b h3b)) ?_
    refine hk _ _ ?_
    clear hk hp k kp
    refine W_ret ?_
    refine KBody_ret [] ?_
    obtain rfl := Option.some.inj hm
    exact en
  ·rw [if_neg h2] at hm
   have h2b : decide (p3 ≥ 1) = false := decide_eq_false h2
   refine RunRest_ops ?_
   refine gox (a2 h1b h2b) ?_
   refine hk _ _ ?_
   clear hk hp k kp
   refine W_ret ?_
   refine KBody_ret [] ?_
   obtain rfl := Option.some.inj hm
   exact en
 ·rw [if_neg h1] at hm
  have h1b : decide (p2 ≥ 0) = false := decide_eq_false h1
  refine W_rgx h1b [1, 2, 3, 7, 8, 9, 10, 11, 12, 13, 14, 15, 16, 17, 18, 19, 20, 21, 22, 23, 24, 25, 26] ?_
  refine W_ret ?_
  refine KBody_ret [] ?_
  obtain rfl := Option.some.inj hm
  exact en
end Pam

/- the walk of kinds_Op, printed by a program of ours -/
namespace Pam
open Go Go.Proofs
set_option maxRecDepth 100000 in
set_option maxHeartbeats 8000000 in
theorem kinds_Op_ok (p1 : Int) (r : (Int × Int × Int)) (hm : kinds_Op p1 = some r) : SpecF Try.prog 138 [.c (.int .i64 p1)] (.t [.c (.int .u8 r.1), .c (.int .u8 r.2.1), .c (.int .i64 r.2.2)]) := by
 refine Spec_ofD 32 [.tmp 2, .tmp 3, .tmp 4] Try.func138 rfl rfl rfl (by kernel_rfl) (by simp) ?_
 refine W_eqf ?_
 unfold kinds_Op at hm
 refine W_rg [2, 3, 4] ?_
 refine W_seq_k fun k1 hk1 => ?_
 refine W_block ?_
 by_cases h1 : p1 ≥ 1
 ·rw [if_pos h1] at hm
  have h1b : decide (p1 ≥ 1) = true := decide_eq_true h1
  refine W_rgx h1b [6, 7, 8, 9, 10, 11] ?_
  by_cases h2 : p1 ≤ 7
  ·rw [if_pos h2] at hm
   refine W_condt rfl (decide_eq_true h2) ?_
   refine W_rg [0, 5] ?_
   refine W_ret ?_
   refine KBlock_r ?_
   refine KThen_r ?_
   refine KBody_ret [] ?_
   obtain rfl := Option.some.inj hm
   exact en
  ·rw [if_neg h2] at hm
   refine W_condf rfl (decide_eq_false h2) ?_
   by_cases h3 : p1 = 8
   ·rw [if_pos h3] at hm
    have h3b : (p1 == 8) = true := beq_iff_eq.2 h3
    refine W_rgx h3b [5, 13, 14, 15, 16, 17, 18] ?_
    refine W_condt rfl rfl ?_
    refine W_rg [0, 12] ?_
    refine W_ret ?_
    refine KBlock_r ?_
    refine KThen_r ?_
    refine KBody_ret [] ?_
    obtain rfl := Option.some.inj hm
    exact en
   ·rw [if_neg h3] at hm
    have h3b : (p1 == 8) = false := beq_eq_false_iff_ne.2 h3
    refine W_rgx h3b [5, 13, 14, 15, 16, 17, 18] ?_
    by_cases h4 : p1 = 9
    ·rw [if_pos h4] at hm
     refine W_condt rfl (beq_iff_eq.2 h4) ?_
     refine W_rg [0, 12] ?_
     refine W_ret ?_
     refine KBlock_r ?_
     refine KThen_r ?_
     refine KBody_ret [] ?_
     obtain rfl := Option.some.inj hm
     exact en
    ·rw [if_neg h4] at hm
     refine W_condf rfl (beq_eq_false_iff_ne.2 h4) ?_
     by_cases h5 : p1 ≥ 10
     ·rw [if_pos h5] at hm
      have h5b : decide (p1 ≥ 10) = true := decide_eq_true h5
      refine W_rgx h5b [12, 20, 21, 22, 23, 24, 25] ?_
      by_cases h6 : p1 ≤ 12
      ·rw [if_pos h6] at hm
       refine W_condt rfl (decide_eq_true h6) ?_
       refine W_rg [0, 19] ?_
       refine W_ret ?_
       refine KBlock_r ?_
       refine KThen_r ?_
       refine KBody_ret [] ?_
       obtain rfl := Option.some.inj hm
       exact en
      ·rw [if_neg h6] at hm
       refine W_condf rfl (decide_eq_false h6) ?_
       refine W_rg [19, 27, 28] ?_
       by_cases h7 : p1 = 13
       ·rw [if_pos h7] at hm
        refine W_condt rfl (beq_iff_eq.2 h7) ?_
        refine W_rg [0, 26] ?_
        refine W_ret ?_
        refine KBlock_r ?_
        refine KThen_r ?_
        refine KBody_ret [] ?_
        obtain rfl := Option.some.inj hm
        exact en
       ·rw [if_neg h7] at hm
        refine W_condf rfl (beq_eq_false_iff_ne.2 h7) ?_
        refine W_rg [0, 26, 30, 31] ?_
        by_cases h8 : p1 = 14
        ·rw [if_pos h8] at hm
         refine W_condt rfl (beq_iff_eq.2 h8) ?_
         refine W_rg [29] ?_
         refine W_ret ?_
         refine KBlock_r ?_
         refine KThen_r ?_
         refine KBody_ret [] ?_
         obtain rfl := Option.some.inj hm
         exact en
        ·rw [if_neg h8] at hm
         refine W_condf rfl (beq_eq_false_iff_ne.2 h8) ?_
         refine W_skip ?_
         refine KBlock_n ?_
         refine KThen_n (hk1 _ _ ?_)
         refine W_rg [29] ?_
         refine W_ret ?_
         refine KBody_ret [] ?_
         obtain rfl := Option.some.inj hm
         exact en
     ·rw [if_neg h5] at hm
      have h5b : decide (p1 ≥ 10) = false := decide_eq_false h5
      refine W_rgx h5b [12, 20, 21, 22, 23, 24, 25] ?_
      refine W_condf rfl rfl ?_
      refine W_rg [19, 27, 28] ?_
      by_cases h9 : p1 = 13
      ·rw [if_pos h9] at hm
       refine W_condt rfl (beq_iff_eq.2 h9) ?_
       refine W_rg [0, 26] ?_
       refine W_ret ?_
       refine KBlock_r ?_
       refine KThen_r ?_
       refine KBody_ret [] ?_
       obtain rfl := Option.some.inj hm
       exact en
      ·rw [if_neg h9] at hm
       refine W_condf rfl (beq_eq_false_iff_ne.2 h9) ?_
       refine W_rg [0, 26, 30, 31] ?_
       by_cases h10 : p1 = 14
       ·rw [if_pos h10] at hm
        refine W_condt rfl (beq_iff_eq.2 h10) ?_
        refine W_rg [29] ?_
        refine W_ret ?_
        refine KBlock_r ?_
        refine KThen_r ?_
        refine KBody_ret [] ?_
        obtain rfl := Option.some.inj hm
        exact en
       ·rw [if_neg h10] at hm
        refine W_condf rfl (beq_eq_false_iff_ne.2 h10) ?_
        refine W_skip ?_
        refine KBlock_n ?_
        refine KThen_n (hk1 _ _ ?_)
        refine W_rg [29] ?_
        refine W_ret ?_
        refine KBody_ret [] ?_
        obtain rfl := Option.some.inj hm
        exact en
 ·rw [if_neg h1] at hm
  have h1b : decide (p1 ≥ 1) = false := decide_eq_false h1
  refine W_rgx h1b [6, 7, 8, 9, 10, 11] ?_
  refine W_condf rfl rfl ?_
  by_cases h11 : p1 = 8
  ·rw [if_pos h11] at hm
   have h11b : (p1 == 8) = true := beq_iff_eq.2 h11
   refine W_rgx h11b [5, 13, 14, 15, 16, 17, 18] ?_
   refine W_condt rfl rfl ?_
   refine W_rg [0, 12] ?_
   refine W_ret ?_
   refine KBlock_r ?_
   refine KThen_r ?_
   refine KBody_ret [] ?_
   obtain rfl := Option.some.inj hm
   exact en
  ·rw [if_neg h11] at hm
   have h11b : (p1 == 8) = false := beq_eq_false_iff_ne.2 h11
   refine W_rgx h11b [5, 13, 14, 15, 16, 17, 18] ?_
   by_cases h12 : p1 = 9
   ·rw [if_pos h12] at hm
    refine W_condt rfl (beq_iff_eq.2 h12) ?_
    refine W_rg [0, 12] ?_
    refine W_ret ?_
    refine KBlock_r ?_
    refine KThen_r ?_
    refine KBody_ret [] ?_
    obtain rfl := Option.some.inj hm
    exact en
   ·rw [if_neg h12] at hm
    refine W_condf rfl (beq_eq_false_iff_ne.2 h12) ?_
    by_cases h13 : p1 ≥ 10
    ·rw [if_pos h13] at hm
     have h13b : decide (p1 ≥ 10) = true := decide_eq_true h13
     refine W_rgx h13b [12, 20, 21, 22, 23, 24, 25] ?_
     by_cases h14 : p1 ≤ 12
     ·rw [if_pos h14] at hm
      refine W_condt rfl (decide_eq_true h14) ?_
      refine W_rg [0, 19] ?_
      refine W_ret ?_
      refine KBlock_r ?_
      refine KThen_r ?_
      refine KBody_ret [] ?_
      obtain rfl := Option.some.inj hm
      exact en
     ·rw [if_neg h14] at hm
      refine W_condf rfl (decide_eq_false h14) ?_
      refine W_rg [19, 27, 28] ?_
      by_cases h15 : p1 = 13
      ·rw [if_pos h15] at hm
       refine W_condt rfl (beq_iff_eq.2 h15) ?_
       refine W_rg [0, 26] ?_
       refine W_ret ?_
       refine KBlock_r ?_
       refine KThen_r ?_
       refine KBody_ret [] ?_
       obtain rfl := Option.some.inj hm
       exact en
      ·rw [if_neg h15] at hm
       refine W_condf rfl (beq_eq_false_iff_ne.2 h15) ?_
       refine W_rg [0, 26, 30, 31] ?_
       by_cases h16 : p1 = 14
       ·rw [if_pos h16] at hm
        refine W_condt rfl (beq_iff_eq.2 h16) ?_
        refine W_rg [29] ?_
        refine W_ret ?_
        refine KBlock_r ?_
        refine KThen_r ?_
        refine KBody_ret [] ?_
        obtain rfl := Option.some.inj hm
        exact en
       ·rw [if_neg h16] at hm
        refine W_condf rfl (beq_eq_false_iff_ne.2 h16) ?_
        refine W_skip ?_
        refine KBlock_n ?_
        refine KThen_n (hk1 _ _ ?_)
        refine W_rg [29] ?_
        refine W_ret ?_
        refine KBody_ret [] ?_
        obtain rfl := Option.some.inj hm
        exact en
    ·rw [if_neg h13] at hm
     have h13b : decide (p1 ≥ 10) = false := decide_eq_false h13
     refine W_rgx h13b [12, 20, 21, 22, 23, 24, 25] ?_
     refine W_condf rfl rfl ?_
     refine W_rg [19, 27, 28] ?_
     by_cases h17 : p1 = 13
     ·rw [if_pos h17] at hm
      refine W_condt rfl (beq_iff_eq.2 h17) ?_
      refine W_rg [0, 26] ?_
      refine W_ret ?_
      refine KBlock_r ?_
      refine KThen_r ?_
      refine KBody_ret [] ?_
      obtain rfl := Option.some.inj hm
      exact en
     ·rw [if_neg h17] at hm
      refine W_condf rfl (beq_eq_false_iff_ne.2 h17) ?_
      refine W_rg [0, 26, 30, 31] ?_
      by_cases h18 : p1 = 14
      ·rw [if_pos h18] at hm
       refine W_condt rfl (beq_iff_eq.2 h18) ?_
       refine W_rg [29] ?_
       refine W_ret ?_
       refine KBlock_r ?_
       refine KThen_r ?_
       refine KBody_ret [] ?_
       obtain rfl := Option.some.inj hm
       exact en
      ·rw [if_neg h18] at hm
       refine W_condf rfl (beq_eq_false_iff_ne.2 h18) ?_
       refine W_skip ?_
       refine KBlock_n ?_
       refine KThen_n (hk1 _ _ ?_)
       refine W_rg [29] ?_
       refine W_ret ?_
       refine KBody_ret [] ?_
       obtain rfl := Option.some.inj hm
       exact en
end Pam

/- the walk of loop_step, printed by a program of ours -/
namespace Pam
open Go Go.Proofs
set_option maxRecDepth 100000 in
set_option maxHeartbeats 8000000 in
theorem loop_step_ok (p1 : TLoops) (p2 : TPush) (p3 : Int) (r : (Int × Bool)) (hm : loop_step p1 p2 p3 = some r) : SpecF Try.prog 165 [.a [.int .i64 p1.cells, .tree 1 (p1.put.map (eK .i64)), .tree 1 (p1.get.map (eK .i64)), .tree 6 (p1.steps.map TLoop.enc)], .a [.int .i64 p2.op, .int .i64 p2.k, .int .i64 p2.v, .int .i64 p2.n], .c (.int .i64 p3)] (.t [.c (.int .i64 r.1), .c (.bool r.2)]) := by
 refine Spec_ofD 65 [.tmp 6, .tmp 7] Try.func165 rfl rfl rfl (by kernel_rfl) (by simp) ?_
 refine W_eqf ?_
 unfold loop_step at hm
 refine W_rg [0, 1, 6, 7] ?_
 refine W_seq_k fun k1 hk1 => ?_
 refine W_rg [11] ?_
 refine W_block ?_
 refine W_rg [14] ?_
 by_cases h1 : p2.op = 1
 ·rw [if_pos h1] at hm
  refine W_condt rfl (beq_iff_eq.2 h1) ?_
  refine W_rg [2, 3, 4, 12, 13] ?_
  refine W_ret ?_
  refine KBlock_r ?_
  refine KThen_r ?_
  refine KBody_ret [] ?_
  obtain rfl := Option.some.inj hm
  exact en
 ·rw [if_neg h1] at hm
  refine W_condf rfl (beq_eq_false_iff_ne.2 h1) ?_
  refine W_rg [13, 16] ?_
  by_cases h2 : p2.op = 2
  ·rw [if_pos h2] at hm
   refine W_condt rfl (beq_iff_eq.2 h2) ?_
   refine W_regF [2, 3, 4, 12, 15, 17, 18, 19, 20] fun k kp hk hp => ?_
   refine go ?_
   obtain ⟨y1, hc3, hm⟩ := bd hm
   refine RP (fun _ => loop_inside_ok p1 p2.v 1 _ hc3) ?_
   refine RunRest_ops ?_
   refine go ?_
   refine hk _ _ ?_
   clear hk hp k kp
   refine W_ret ?_
   refine KBlock_r ?_
   refine KThen_r ?_
   refine KBody_ret [] ?_
   obtain rfl := Option.some.inj hm
   exact en
  ·rw [if_neg h2] at hm
   refine W_condf rfl (beq_eq_false_iff_ne.2 h2) ?_
   refine W_rg [15, 22] ?_
   by_cases h4 : p2.op = 3
   ·rw [if_pos h4] at hm
    refine W_condt rfl (beq_iff_eq.2 h4) ?_
    refine W_regF [2, 3, 4, 12, 21, 23, 24, 25, 26, 27] fun k kp hk hp => ?_
    refine go ?_
    obtain ⟨y2, hc5, hm⟩ := bd hm
    refine RP (fun _ => loop_inside_ok p1 p2.v p3 _ hc5) ?_
    refine RunRest_ops ?_
    refine go ?_
    refine hk _ _ ?_
    clear hk hp k kp
    refine W_ret ?_
    refine KBlock_r ?_
    refine KThen_r ?_
    refine KBody_ret [] ?_
    obtain rfl := Option.some.inj hm
    exact en
   ·rw [if_neg h4] at hm
    refine W_condf rfl (beq_eq_false_iff_ne.2 h4) ?_
    refine W_rg [2, 21, 29] ?_
    by_cases h6 : p2.op = 4
    ·rw [if_pos h6] at hm
     refine W_condt rfl (beq_iff_eq.2 h6) ?_
     refine W_anyTF [3, 4, 12, 28, 30, 31, 32, 33, 34, 35, 36, 37] (by kernel_rfl) [0, 1, 3, 7, 15, 31, 63, 127, 15, 511] [true, true, true, true, false, false, false, false, false, true] (by kernel_rfl) fun k hk => ?_
     refine TR_cut 4 rfl ?_
     refine ga ?_
     by_cases h7 : p2.n ≥ (-1000000000000000000)
     ·rw [if_pos h7] at hm
      have h7b : decide (p2.n ≥ (-1000000000000000000)) = true := decide_eq_true h7
      refine TR_ops ?_
      refine gax h7b ?_
      refine hk _ _ ?_
      clear hk k
      refine W_ret ?_
      refine KBlock_r ?_
      refine KThen_r ?_
      refine KBody_ret [] ?_
      obtain rfl := Option.some.inj hm
      exact en
     ·rw [if_neg h7] at hm
      have h7b : decide (p2.n ≥ (-1000000000000000000)) = false := decide_eq_false h7
      refine TR_ops ?_
      refine gax h7b ?_
      refine hk _ _ ?_
      clear hk k
      refine W_ret ?_
      refine KBlock_r ?_
      refine KThen_r ?_
      refine KBody_ret [] ?_
      obtain rfl := Option.some.inj hm
      exact en
    ·rw [if_neg h6] at hm
     refine W_condf rfl (beq_eq_false_iff_ne.2 h6) ?_
     refine W_joinM (S := Bool) (V := Unit) [28, 38, 39, 40] (fun b3 _ => [(38, .c (.bool b3))]) (fun b3 _ => [.box [.int .i64 p1.cells, .tree 1 (p1.put.map (eK .i64)), .tree 1 (p1.get.map (eK .i64)), .tree 6 (p1.steps.map TLoop.enc)], .box [.int .i64 p2.op, .int .i64 p2.k, .int .i64 p2.v, .int .i64 p2.n]]) (fun b3 => loop_step_j1 p1 p2 b3 = some r) ?_ ?_
     ·skip
      refine W_rg [28, 39] ?_
      by_cases h13 : p2.op = 5
      ·rw [if_pos h13] at hm
       refine W_condt rfl (beq_iff_eq.2 h13) ?_
       refine W_skip ?_
       refine KJoinM_n (p2.op == 5) () hm ?_
       exact ls
      ·rw [if_neg h13] at hm
       refine W_condf rfl (beq_eq_false_iff_ne.2 h13) ?_
       refine W_rn ?_
       refine KJoinM_n (p2.op == 6) () hm ?_
       exact ls
     ·rintro b3 _ hm
      replace hm : loop_step_j1 p1 p2 b3 = some r := hm
      refine W_eqm ?_
      unfold loop_step_j1 at hm
      by_cases h8 : b3 = true
      ·rw [if_pos h8] at hm
       refine W_condt rfl (h8) ?_
       refine W_regF [3, 8, 9, 12, 38, 41, 42, 43, 44, 45, 46, 47] fun k kp hk hp => ?_
       refine go ?_
       obtain ⟨y4, hc9, hm⟩ := bd hm
       refine RP (fun _ => kinds_Op_ok p2.k _ hc9) ?_
       refine RunRest_ops ?_
       refine go ?_
       refine hk _ _ ?_
       clear hk hp k kp
       refine W_ag [4, 10, 48, 49, 50, 51, 52, 53, 54] [0, 0, 0, 4, 12, 28, 62, 1, 255] [false, false, false, false, false, false, false, false, true] ?_
       refine W_ret ?_
       refine KBlock_r ?_
       refine KThen_r ?_
       refine KBody_ret [] ?_
       obtain rfl := Option.some.inj hm
       exact en
      ·rw [if_neg h8] at hm
       refine W_condf rfl (Bool.eq_false_iff.2 h8) ?_
       refine W_rg [38, 56] ?_
       by_cases h10 : p2.op = 7
       ·rw [if_pos h10] at hm
        refine W_condt rfl (beq_iff_eq.2 h10) ?_
        refine W_rg [3, 4, 12, 55] ?_
        refine W_ret ?_
        refine KBlock_r ?_
        refine KThen_r ?_
        refine KBody_ret [] ?_
        obtain rfl := Option.some.inj hm
        exact en
       ·rw [if_neg h10] at hm
        refine W_condf rfl (beq_eq_false_iff_ne.2 h10) ?_
        refine W_rg [12, 55, 58] ?_
        by_cases h11 : p2.op = 8
        ·rw [if_pos h11] at hm
         refine W_condt rfl (beq_iff_eq.2 h11) ?_
         refine W_regF [3, 4, 57, 59, 60, 61, 62, 63, 64] fun k kp hk hp => ?_
         refine go ?_
         obtain ⟨y5, hc12, hm⟩ := bd hm
         refine RP (fun _ => loop_inside_ok p1 p2.v p2.n _ hc12) ?_
         refine RunRest_ops ?_
         refine go ?_
         refine hk _ _ ?_
         clear hk hp k kp
         refine W_ret ?_
         refine KBlock_r ?_
         refine KThen_r ?_
         refine KBody_ret [] ?_
         obtain rfl := Option.some.inj hm
         exact en
        ·rw [if_neg h11] at hm
         refine W_condf rfl (beq_eq_false_iff_ne.2 h11) ?_
         refine W_skip ?_
         refine KBlock_n ?_
         refine KThen_n (hk1 _ _ ?_)
         refine W_rg [3, 4, 57] ?_
         refine W_ret ?_
         refine KBody_ret [] ?_
         obtain rfl := Option.some.inj hm
         exact en
end Pam

/- the walk of loop_tree, printed by a program of ours -/
namespace Pam
open Go Go.Proofs
set_option maxRecDepth 100000 in
set_option maxHeartbeats 1000000 in
theorem loop_tree_ok (p1 : TLoops) (p2 : List TPush) (p3 : Int) (r : Bool) (hm : loop_tree p1 p2 p3 = some r) : SpecF Try.prog 139 [.a [.int .i64 p1.cells, .tree 1 (p1.put.map (eK .i64)), .tree 1 (p1.get.map (eK .i64)), .tree 6 (p1.steps.map TLoop.enc)], .c (.tree 4 (p2.map TPush.enc)), .c (.int .i64 p3)] (.c (.bool r)) := by
 refine Spec_ofD 44 [.tmp 6] Try.func139 rfl rfl rfl (by kernel_rfl) (by simp) ?_
 refine W_eqf ?_
 unfold loop_tree at hm
 refine W_rg [0, 6] ?_
 refine W_rg [] ?_
 refine W_joinM (S := Int) (V := Unit) [2, 3, 6, 7, 9, 10, 11, 12, 13, 14, 15, 16, 17, 18, 19, 20, 21, 22, 23, 24, 25, 26, 27, 28, 29, 30, 31, 32, 33, 34, 35, 36] (fun x1 _ => [(7, .c (.int .i64 x1))]) (fun x1 _ => [.box [.int .i64 p1.cells, .tree 1 (p1.put.map (eK .i64)), .tree 1 (p1.get.map (eK .i64)), .tree 6 (p1.steps.map TLoop.enc)]]) (fun x1 => loop_tree_j1 p2 x1 = some r) ?_ ?_
 ·skip
  refine W_rg [] ?_
  refine W_block ?_
  obtain ⟨o1, hl1, hm1⟩ := bd hm
  refine W_loopM (S := (Int × Int)) (V := Unit) (O := Int ⊕ Bool) [6, 7, 9, 10, 11, 14, 15, 16, 17, 18, 19, 20, 21, 22, 23, 24, 25, 26, 27, 28, 29, 30, 31, 32, 33, 34, 35, 36] (fun (x6, x7) _ => [(7, .c (.int .i64 x6)), (14, .c (.int .i64 x7))]) (fun (x6, x7) _ => [.box [.int .i64 p1.cells, .tree 1 (p1.put.map (eK .i64)), .tree 1 (p1.get.map (eK .i64)), .tree 6 (p1.steps.map TLoop.enc)]]) _ _ () hl1 ?_ ?_
  ·exact ls
  ·rintro ⟨x6, x7⟩ _ r1 hm hr1
   replace hm : loop_tree_l1 p1 p2 p3 x6 x7 = some r1 := hm
   refine W_eqm ?_
   unfold loop_tree_l1 at hm
   refine W_rg [] ?_
   refine W_seq_k fun k1 hk1 => ?_
   by_cases h2 : x7 < (p2.length : Int)
   ·rw [if_pos h2] at hm
    refine W_condt rfl (decide_eq_true h2) ?_
    refine W_skip ?_
    refine KThen_n (hk1 _ _ ?_)
    refine W_seq_k fun k2 hk2 => ?_
    refine W_block ?_
    obtain ⟨hg3a, hm⟩ := gd hm
    refine W_rgx (em TPush.enc p2 x7.toNat) [15, 16, 17] ?_
    refine W_regF [9, 18, 19, 20, 21, 22, 23, 24] fun k kp hk hp => ?_
    refine go ?_
    obtain ⟨y8, hc4, hm⟩ := bd hm
    refine RP (fun _ => loop_step_ok p1 (p2.getD x7.toNat default) p3 _ hc4) ?_
    refine RunRest_ops ?_
    refine go ?_
    refine hk _ _ ?_
    clear hk hp k kp
    refine W_seq_k fun k3 hk3 => ?_
    by_cases h5 : y8.2 = true
    ·rw [if_pos h5] at hm
     have h5b : y8.2 = true := h5
     have h5c : (!y8.2) = false := by rw [h5b]; rfl
     refine W_rgx (a2 h5b h5c) [11, 25, 26, 27, 28, 29, 30] ?_
     by_cases h6 : x6 < y8.1
     ·rw [if_pos h6] at hm
      refine W_condt rfl (decide_eq_true h6) ?_
      refine W_rg [1, 2, 3, 7, 10, 12, 13, 14, 31] ?_
      have ho7 := out_eq hm hr1
      subst ho7
      replace hm : some false = some r := hm1
      refine W_ret ?_
      refine KThen_r ?_
      refine KBlock_r ?_
      refine KThen_r ?_
      refine KLoopM_r ?_
      refine KBlock_r ?_
      refine KJoinM_r ?_
      refine KBody_ret [] ?_
      obtain rfl := Option.some.inj hm
      exact en
     ·rw [if_neg h6] at hm
      refine W_condf rfl (decide_eq_false h6) ?_
      refine W_skip ?_
      refine KThen_n (hk3 _ _ ?_)
      refine W_rn ?_
      refine KBlock_n ?_
      refine KThen_n (hk2 _ _ ?_)
      refine W_rn ?_
      refine KLoopM_n ((IntKind.wrap .i64 (x6 + (IntKind.wrap .i64 (1 - y8.1)))), (IntKind.wrap .i64 (x7 + 1))) () hm ?_
      exact ls
    ·rw [if_neg h5] at hm
     have h5b : y8.2 = false := Bool.eq_false_iff.2 h5
     have h5c : (!y8.2) = true := by rw [h5b]; rfl
     refine W_rgx (a2 h5b h5c) [11, 25, 26, 27, 28, 29, 30] ?_
     refine W_condt rfl rfl ?_
     refine W_rg [1, 2, 3, 7, 10, 12, 13, 14, 31] ?_
     have ho8 := out_eq hm hr1
     subst ho8
     replace hm : some false = some r := hm1
     refine W_ret ?_
     refine KThen_r ?_
     refine KBlock_r ?_
     refine KThen_r ?_
     refine KLoopM_r ?_
     refine KBlock_r ?_
     refine KJoinM_r ?_
     refine KBody_ret [] ?_
     obtain rfl := Option.some.inj hm
     exact en
   ·rw [if_neg h2] at hm
    refine W_condf rfl (decide_eq_false h2) ?_
    refine W_exit ?_
    have ho9 := out_eq hm hr1
    subst ho9
    replace hm : loop_tree_j1 p2 x6 = some r := hm1
    refine KThen_x ?_
    refine KLoopM_x ?_
    refine KBlock_hit ?_
    refine KJoinM_n x6 () hm ?_
    exact ls
 ·rintro x1 _ hm
  replace hm : loop_tree_j1 p2 x1 = some r := hm
  refine W_eqm ?_
  unfold loop_tree_j1 at hm
  by_cases h1 : x1 = 1
  ·rw [if_pos h1] at hm
   have h1b : (x1 == 1) = true := beq_iff_eq.2 h1
   refine W_rgx h1b [1, 7, 37, 38, 39, 40, 41, 42, 43] ?_
   refine W_ret ?_
   refine KBody_ret [] ?_
   obtain rfl := Option.some.inj hm
   exact en
  ·rw [if_neg h1] at hm
   have h1b : (x1 == 1) = false := beq_eq_false_iff_ne.2 h1
   refine W_rgx h1b [1, 7, 37, 38, 39, 40, 41, 42, 43] ?_
   refine W_ret ?_
   refine KBody_ret [] ?_
   obtain rfl := Option.some.inj hm
   exact en
end Pam

/- the walk of loop_fits, printed by a program of ours -/
namespace Pam
open Go Go.Proofs
set_option maxRecDepth 100000 in
set_option maxHeartbeats 8000000 in
theorem loop_fits_ok (p1 : TLoops) (p2 : TLoop) (r : Bool) (hm : loop_fits p1 p2 = some r) : SpecF Try.prog 113 [.a [.int .i64 p1.cells, .tree 1 (p1.put.map (eK .i64)), .tree 1 (p1.get.map (eK .i64)), .tree 6 (p1.steps.map TLoop.enc)], .a [.int .i64 p2.op, .int .i64 p2.k, .int .i64 p2.n, .int .i64 p2.to, .tree 4 (p2.f.map TPush.enc), .tree 4 (p2.e.map TPush.enc)]] (.c (.bool r)) := by
 refine Spec_ofD 77 [.tmp 4] Try.func113 rfl rfl rfl (by kernel_rfl) (by simp) ?_
 refine W_eqf ?_
 unfold loop_fits at hm
 refine W_rg [0, 1, 4] ?_
 refine W_regF [5, 6, 9, 10, 11, 12, 13, 14, 15] fun k kp hk hp => ?_
 refine go ?_
 obtain ⟨y1, hc1, hm⟩ := bd hm
 refine RP (fun _ => kinds_Op_ok p2.k _ hc1) ?_
 refine RunRest_ops ?_
 refine go ?_
 refine hk _ _ ?_
 clear hk hp k kp
 refine W_seq_k fun k1 hk1 => ?_
 refine W_rg [16] ?_
 refine W_block ?_
 refine W_rg [19] ?_
 by_cases h2 : p2.op = 1
 ·rw [if_pos h2] at hm
  refine W_condt rfl (beq_iff_eq.2 h2) ?_
  refine W_regF [2, 3, 7, 17, 18, 20, 21, 22, 23, 24, 25, 26, 27, 28, 29] fun k kp hk hp => ?_
  refine go ?_
  obtain ⟨y2, hc3, hm⟩ := bd hm
  refine RP (fun _ => loop_inside_ok p1 p2.to 1 _ hc3) ?_
  by_cases h4 : y2 = true
  ·rw [if_pos h4] at hm
   have h4b : y2 = true := h4
   refine RunRest_ops ?_
   refine gox h4b ?_
   obtain ⟨y3, hc5, hm⟩ := bd hm
   refine RP (fun _ => loop_tree_ok p1 p2.e 1 _ hc5) ?_
   refine RunRest_ops ?_
   refine gox h4b ?_
   refine hk _ _ ?_
   clear hk hp k kp
   refine W_ret ?_
   refine KBlock_r ?_
   refine KThen_r ?_
   refine KBody_ret [] ?_
   obtain rfl := Option.some.inj hm
   exact en
  ·rw [if_neg h4] at hm
   have h4b : y2 = false := Bool.eq_false_iff.2 h4
   refine RunRest_ops ?_
   refine gox h4b ?_
   refine hk _ _ ?_
   clear hk hp k kp
   refine W_ret ?_
   refine KBlock_r ?_
   refine KThen_r ?_
   refine KBody_ret [] ?_
   obtain rfl := Option.some.inj hm
   exact en
 ·rw [if_neg h2] at hm
  refine W_condf rfl (beq_eq_false_iff_ne.2 h2) ?_
  refine W_joinM (S := Bool) (V := Unit) [17, 18, 30, 31, 32, 33] (fun b4 _ => [(30, .c (.bool b4))]) (fun b4 _ => [.box [.int .i64 p1.cells, .tree 1 (p1.put.map (eK .i64)), .tree 1 (p1.get.map (eK .i64)), .tree 6 (p1.steps.map TLoop.enc)], .box [.int .i64 p2.op, .int .i64 p2.k, .int .i64 p2.n, .int .i64 p2.to, .tree 4 (p2.f.map TPush.enc), .tree 4 (p2.e.map TPush.enc)]]) (fun b4 => loop_fits_j1 p1 p2 y1 b4 = some r) ?_ ?_
  ·skip
   refine W_rg [18, 31] ?_
   by_cases h17 : p2.op = 2
   ·rw [if_pos h17] at hm
    refine W_condt rfl (beq_iff_eq.2 h17) ?_
    refine W_skip ?_
    refine KJoinM_n (p2.op == 2) () hm ?_
    exact ls
   ·rw [if_neg h17] at hm
    refine W_condf rfl (beq_eq_false_iff_ne.2 h17) ?_
    refine W_rg [32] ?_
    by_cases h18 : p2.op = 4
    ·rw [if_pos h18] at hm
     refine W_condt rfl (beq_iff_eq.2 h18) ?_
     refine W_skip ?_
     refine KJoinM_n (p2.op == 4) () hm ?_
     exact ls
    ·rw [if_neg h18] at hm
     refine W_condf rfl (beq_eq_false_iff_ne.2 h18) ?_
     refine W_rn ?_
     refine KJoinM_n (p2.op == 3) () hm ?_
     exact ls
  ·rintro b4 _ hm
   replace hm : loop_fits_j1 p1 p2 y1 b4 = some r := hm
   refine W_eqm ?_
   unfold loop_fits_j1 at hm
   by_cases h6 : b4 = true
   ·rw [if_pos h6] at hm
    refine W_condt rfl (h6) ?_
    refine W_skip ?_
    refine KBlock_n ?_
    refine KThen_n (hk1 _ _ ?_)
    refine W_rg [30, 34, 35] ?_
    refine W_joinM (S := Int) (V := Unit) [8, 36, 37, 38] (fun x5 _ => [(8, .c (.int .i64 x5))]) (fun x5 _ => [.box [.int .i64 p1.cells, .tree 1 (p1.put.map (eK .i64)), .tree 1 (p1.get.map (eK .i64)), .tree 6 (p1.steps.map TLoop.enc)], .box [.int .i64 p2.op, .int .i64 p2.k, .int .i64 p2.n, .int .i64 p2.to, .tree 4 (p2.f.map TPush.enc), .tree 4 (p2.e.map TPush.enc)]]) (fun x5 => loop_fits_j2 p1 p2 y1 x5 = some r) ?_ ?_
    ·skip
     refine W_rg [36, 37] ?_
     by_cases h16 : p2.op = 3
     ·rw [if_pos h16] at hm
      refine W_condt rfl (beq_iff_eq.2 h16) ?_
      refine W_rn ?_
      refine KJoinM_n 1 () hm ?_
      exact ls
     ·rw [if_neg h16] at hm
      refine W_condf rfl (beq_eq_false_iff_ne.2 h16) ?_
      refine W_skip ?_
      refine KJoinM_n p2.n () hm ?_
      exact ls
    ·rintro x5 _ hm
     replace hm : loop_fits_j2 p1 p2 y1 x5 = some r := hm
     refine W_eqm ?_
     unfold loop_fits_j2 at hm
     refine W_regG [2, 3, 7, 8, 39, 40, 41, 42, 43, 44, 45, 46, 47, 48, 49, 50, 51, 52, 53, 54, 55, 56, 57, 58, 59, 60, 61, 62, 63, 64, 65, 66, 67, 68, 69, 70, 71, 72, 73, 74, 75, 76] fun k kp hk hp => ?_
     refine RunRest_cut 4 ?_
     refine go ?_
     by_cases h7 : p2.n ≥ 1
     ·rw [if_pos h7] at hm
      have h7b : decide (p2.n ≥ 1) = true := decide_eq_true h7
      refine RunRest_cut 5 ?_
      refine gox h7b ?_
      by_cases h8 : p2.n ≤ 300
      ·rw [if_pos h8] at hm
       have h8b : decide (p2.n ≤ 300) = true := decide_eq_true h8
       refine RunRest_ops ?_
       refine gox (a2 h7b h8b) ?_
       obtain ⟨y6, hc9, hm⟩ := bd hm
       refine RP (fun _ => loop_inside_ok p1 p2.to x5 _ hc9) ?_
       by_cases h10 : y6 = true
       ·rw [if_pos h10] at hm
        have h10b : y6 = true := h10
        refine RunRest_ops ?_
        refine gox (a2 h7b (a2 h8b h10b)) ?_
        obtain ⟨y7, hc11, hm⟩ := bd hm
        refine RP (fun _ => loop_tree_ok p1 p2.e p2.n _ hc11) ?_
        by_cases h12 : y7 = true
        ·rw [if_pos h12] at hm
         have h12b : y7 = true := h12
         refine RunRest_cut 6 ?_
         refine gox (a2 h7b (a2 h8b (a2 h10b h12b))) ?_
         by_cases h13 : p2.op = 2
         ·rw [if_pos h13] at hm
          have h13b : (p2.op == 2) = true := beq_iff_eq.2 h13
          refine RunRest_ops ?_
          refine gox (a2 h7b (a2 h8b (a2 h10b (a2 h12b h13b)))) ?_
          refine hk _ _ ?_
          clear hk hp k kp
          refine W_ret ?_
          refine KBody_ret [] ?_
          obtain rfl := Option.some.inj hm
          exact en
         ·rw [if_neg h13] at hm
          have h13b : (p2.op == 2) = false := beq_eq_false_iff_ne.2 h13
          by_cases h14 : y1.2.2 = 2
          ·rw [if_pos h14] at hm
           have h14b : (y1.2.2 == 2) = true := beq_iff_eq.2 h14
           refine RunRest_ops ?_
           refine gox (a2 h7b (a2 h8b (a2 h10b (a2 h12b (a2 h13b h14b))))) ?_
           obtain ⟨y8, hc15, hm⟩ := bd hm
           refine RP (fun _ => loop_tree_ok p1 p2.f 1 _ hc15) ?_
           refine RunRest_ops ?_
           refine gox (a2 h7b (a2 h8b (a2 h10b (a2 h12b (a2 h13b h14b))))) ?_
           refine hk _ _ ?_
           clear hk hp k kp
           refine W_ret ?_
           refine KBody_ret [] ?_
           obtain rfl := Option.some.inj hm
           exact en
          ·rw [if_neg h14] at hm
           have h14b : (y1.2.2 == 2) = false := beq_eq_false_iff_ne.2 h14
           refine RunRest_ops ?_
           refine gox (a2 h7b (a2 h8b (a2 h10b (a2 h12b (a2 h13b h14b))))) ?_
           refine hk _ _ ?_
           clear hk hp k kp
           refine W_ret ?_
           refine KBody_ret [] ?_
           obtain rfl := Option.some.inj hm
           exact en
        ·rw [if_neg h12] at hm
         have h12b : y7 = false := Bool.eq_false_iff.2 h12
         refine RunRest_ops ?_
         refine gox (a2 h7b (a2 h8b (a2 h10b h12b))) ?_
         refine hk _ _ ?_
         clear hk hp k kp
         refine W_ret ?_
         refine KBody_ret [] ?_
         obtain rfl := Option.some.inj hm
         exact en
       ·rw [if_neg h10] at hm
        have h10b : y6 = false := Bool.eq_false_iff.2 h10
        refine RunRest_ops ?_
        refine gox (a2 h7b (a2 h8b h10b)) ?_
        refine hk _ _ ?_
        clear hk hp k kp
        refine W_ret ?_
        refine KBody_ret [] ?_
        obtain rfl := Option.some.inj hm
        exact en
      ·rw [if_neg h8] at hm
       have h8b : decide (p2.n ≤ 300) = false := decide_eq_false h8
       refine RunRest_ops ?_
       refine gox (a2 h7b h8b) ?_
       refine hk _ _ ?_
       clear hk hp k kp
       refine W_ret ?_
       refine KBody_ret [] ?_
       obtain rfl := Option.some.inj hm
       exact en
     ·rw [if_neg h7] at hm
      have h7b : decide (p2.n ≥ 1) = false := decide_eq_false h7
      refine RunRest_ops ?_
      refine gox h7b ?_
      refine hk _ _ ?_
      clear hk hp k kp
      refine W_ret ?_
      refine KBody_ret [] ?_
      obtain rfl := Option.some.inj hm
      exact en
   ·rw [if_neg h6] at hm
    refine W_condf rfl (Bool.eq_false_iff.2 h6) ?_
    refine W_rg [2, 3, 7, 30] ?_
    refine W_ret ?_
    refine KBlock_r ?_
    refine KThen_r ?_
    refine KBody_ret [] ?_
    obtain rfl := Option.some.inj hm
    exact en
end Pam

/- the walk of loop_Check, printed by a program of ours -/
namespace Pam
open Go Go.Proofs
set_option maxRecDepth 100000 in
set_option maxHeartbeats 8000000 in
theorem loop_Check_ok (p1 : TLoops) (r : TFault) (hm : loop_Check p1 = some r) : SpecF Try.prog 69 [.a [.int .i64 p1.cells, .tree 1 (p1.put.map (eK .i64)), .tree 1 (p1.get.map (eK .i64)), .tree 6 (p1.steps.map TLoop.enc)]] (.a [.int .i64 ((r).code), .int .i64 ((r).at_)]) := by
 refine Spec_ofD 66 [.cell 2 33] Try.func69 rfl rfl rfl (by kernel_rfl) (by simp) ?_
 refine W_eqf ?_
 unfold loop_Check at hm
 refine W_rg [0] ?_
 refine W_seq_k fun k1 hk1 => ?_
 refine W_regG [7, 8, 9, 10, 11, 12, 13] fun k kp hk hp => ?_
 refine RunRest_cut 4 ?_
 refine go ?_
 by_cases h1 : p1.cells < 1
 ·rw [if_pos h1] at hm
  have h1b : decide (p1.cells < 1) = true := decide_eq_true h1
  refine RunRest_ops ?_
  refine gox h1b ?_
  refine hk _ _ ?_
  clear hk hp k kp
  refine W_condt rfl rfl ?_
  refine W_rg [1, 14, 15] ?_
  refine W_ret ?_
  refine KThen_r ?_
  refine KBody_ret [] ?_
  obtain rfl := Option.some.inj hm
  exact en
 ·rw [if_neg h1] at hm
  have h1b : decide (p1.cells < 1) = false := decide_eq_false h1
  refine RunRest_ops ?_
  refine gox h1b ?_
  refine hk _ _ ?_
  clear hk hp k kp
  by_cases h2 : p1.cells > 6000
  ·rw [if_pos h2] at hm
   refine W_condt rfl (decide_eq_true h2) ?_
   refine W_rg [1, 14, 15] ?_
   refine W_ret ?_
   refine KThen_r ?_
   refine KBody_ret [] ?_
   obtain rfl := Option.some.inj hm
   exact en
  ·rw [if_neg h2] at hm
   refine W_condf rfl (decide_eq_false h2) ?_
   refine W_skip ?_
   refine KThen_n (hk1 _ _ ?_)
   refine W_seq_k fun k2 hk2 => ?_
   refine W_regG [14, 16, 17, 18, 19, 20, 21, 22, 23, 24, 25, 26, 27, 28, 29, 30] fun k kp hk hp => ?_
   refine RunRest_cut 5 ?_
   refine go ?_
   by_cases h3 : (p1.put.length : Int) > 6000
   ·rw [if_pos h3] at hm
    have h3b : decide ((p1.put.length : Int) > 6000) = true := decide_eq_true h3
    refine RunRest_ops ?_
    refine gox h3b ?_
    refine hk _ _ ?_
    clear hk hp k kp
    refine W_condt rfl rfl ?_
    refine W_rg [1, 31, 32] ?_
    refine W_ret ?_
    refine KThen_r ?_
    refine KBody_ret [] ?_
    obtain rfl := Option.some.inj hm
    exact en
   ·rw [if_neg h3] at hm
    have h3b : decide ((p1.put.length : Int) > 6000) = false := decide_eq_false h3
    refine RunRest_cut 6 ?_
    refine gox h3b ?_
    by_cases h4 : (p1.get.length : Int) > 120000
    ·rw [if_pos h4] at hm
     have h4b : decide ((p1.get.length : Int) > 120000) = true := decide_eq_true h4
     refine RunRest_ops ?_
     refine gox (a2 h3b h4b) ?_
     refine hk _ _ ?_
     clear hk hp k kp
     refine W_condt rfl rfl ?_
     refine W_rg [1, 31, 32] ?_
     refine W_ret ?_
     refine KThen_r ?_
     refine KBody_ret [] ?_
     obtain rfl := Option.some.inj hm
     exact en
    ·rw [if_neg h4] at hm
     have h4b : decide ((p1.get.length : Int) > 120000) = false := decide_eq_false h4
     refine RunRest_ops ?_
     refine gox (a2 h3b h4b) ?_
     refine hk _ _ ?_
     clear hk hp k kp
     by_cases h5 : (p1.steps.length : Int) > 1200
     ·rw [if_pos h5] at hm
      refine W_condt rfl (decide_eq_true h5) ?_
      refine W_rg [1, 31, 32] ?_
      refine W_ret ?_
      refine KThen_r ?_
      refine KBody_ret [] ?_
      obtain rfl := Option.some.inj hm
      exact en
     ·rw [if_neg h5] at hm
      refine W_condf rfl (decide_eq_false h5) ?_
      refine W_skip ?_
      refine KThen_n (hk2 _ _ ?_)
      refine W_joinM (S := Unit) (V := Unit) [4, 31, 33, 34, 35, 36, 37, 38, 39, 40, 41, 42, 43, 44, 45, 46, 47, 48, 49] (fun _ _ => []) (fun _ _ => [.box [.int .i64 p1.cells, .tree 1 (p1.put.map (eK .i64)), .tree 1 (p1.get.map (eK .i64)), .tree 6 (p1.steps.map TLoop.enc)], .box [.int .i64 0, .int .i64 0]]) (fun _ => loop_Check_j1 p1 = some r) ?_ ?_
      ·skip
       refine W_regF [31, 33, 34, 35, 36, 37] fun k kp hk hp => ?_
       refine go ?_
       obtain ⟨y6, hc12, hm⟩ := bd hm
       refine RA (slices_Concat_int_int_ok (lit ([p1.put, p1.get] : List (List Int))) 0 _ hc12) [2] ?_
       rintro p σ' hq13 _
       obtain ⟨rfl, rfl⟩ := hq13
       refine RunRest_ops ?_
       refine go ?_
       refine hk _ _ ?_
       clear hk hp k kp
       refine W_eqa [.box [.int .i64 p1.cells, .tree 1 (p1.put.map (eK .i64)), .tree 1 (p1.get.map (eK .i64)), .tree 6 (p1.steps.map TLoop.enc)], .box [.int .i64 0, .int .i64 0], .arr 1 0 22 ((lit ([p1.put, p1.get] : List (List Int))).map (eL 1 (eK .i64))), .arr 1 1 3 (y6.map (eK .i64))] ?_
       refine W_block ?_
       obtain ⟨o2, hl2, hm2⟩ := bd hm
       refine W_loopM (S := Int) (V := Unit) (O := Unit ⊕ TFault) [4, 38, 40, 41, 42, 43, 44, 45, 46, 47, 48, 49] (fun x9 _ => [(38, .c (.osl 3 1 0 y6.length)), (40, .c (.int .i64 x9))]) (fun x9 _ => [.box [.int .i64 p1.cells, .tree 1 (p1.put.map (eK .i64)), .tree 1 (p1.get.map (eK .i64)), .tree 6 (p1.steps.map TLoop.enc)], .box [.int .i64 0, .int .i64 0], .arr 1 0 22 ((lit ([p1.put, p1.get] : List (List Int))).map (eL 1 (eK .i64))), .arr 1 1 3 (y6.map (eK .i64))]) _ _ () hl2 ?_ ?_
       ·exact ls
       ·rintro x9 _ r2 hm hr2
        replace hm : loop_Check_l2 p1 y6 x9 = some r2 := hm
        refine W_eqm ?_
        unfold loop_Check_l2 at hm
        refine W_rg [] ?_
        refine W_seq_k fun k5 hk5 => ?_
        by_cases h14 : x9 < (y6.length : Int)
        ·rw [if_pos h14] at hm
         refine W_condt rfl (decide_eq_true h14) ?_
         refine W_skip ?_
         refine KThen_n (hk5 _ _ ?_)
         refine W_seq_k fun k6 hk6 => ?_
         refine W_block ?_
         obtain ⟨hg15a, hm⟩ := gd hm
         refine W_rgx (em (eK .i64) y6 x9.toNat) [41, 42, 43] ?_
         refine W_regF [4, 44, 45, 46] fun k kp hk hp => ?_
         refine go ?_
         obtain ⟨y10, hc16, hm⟩ := bd hm
         refine RP (fun _ => loop_inside_ok p1 (y6.getD x9.toNat default) 1 _ hc16) ?_
         refine RunRest_ops ?_
         refine go ?_
         refine hk _ _ ?_
         clear hk hp k kp
         by_cases h17 : y10 = true
         ·rw [if_pos h17] at hm
          refine W_condf rfl (by rw [show y10 = true from (h17)]; rfl) ?_
          refine W_skip ?_
          refine KBlock_n ?_
          refine KThen_n (hk6 _ _ ?_)
          refine W_rn ?_
          refine KLoopM_n (IntKind.wrap .i64 (x9 + 1)) () hm ?_
          exact ls
         ·rw [if_neg h17] at hm
          refine W_condt rfl (by rw [show y10 = false from (Bool.eq_false_iff.2 h17)]; rfl) ?_
          refine W_rg [1, 38, 39, 40, 47, 48] ?_
          have ho18 := out_eq hm hr2
          subst ho18
          replace hm : some (TFault.mk 16 (-1)) = some r := hm2
          refine W_ret ?_
          refine KBlock_r ?_
          refine KThen_r ?_
          refine KLoopM_r ?_
          refine KBlock_r ?_
          refine KJoinM_r ?_
          refine KBody_ret [] ?_
          obtain rfl := Option.some.inj hm
          exact en
        ·rw [if_neg h14] at hm
         refine W_condf rfl (decide_eq_false h14) ?_
         refine W_exit ?_
         have ho19 := out_eq hm hr2
         subst ho19
         replace hm : loop_Check_j1 p1 = some r := hm2
         refine KThen_x ?_
         refine KLoopM_x ?_
         refine KBlock_hit ?_
         refine KJoinM_n () () hm ?_
         exact ls
      ·rintro _ _ hm
       replace hm : loop_Check_j1 p1 = some r := hm
       refine W_eqm ?_
       unfold loop_Check_j1 at hm
       refine W_joinM (S := Unit) (V := Unit) [1, 5, 6, 50, 51, 52, 53, 54, 55, 56, 57, 58, 59, 60, 61, 62, 63, 64] (fun _ _ => []) (fun _ _ => [.box [.int .i64 p1.cells, .tree 1 (p1.put.map (eK .i64)), .tree 1 (p1.get.map (eK .i64)), .tree 6 (p1.steps.map TLoop.enc)], .box [.int .i64 0, .int .i64 0]]) (fun _ => loop_Check_j2 = some r) ?_ ?_
       ·skip
        refine W_rg [50] ?_
        refine W_block ?_
        obtain ⟨o1, hl1, hm1⟩ := bd hm
        refine W_loopM (S := Int) (V := Unit) (O := Unit ⊕ TFault) [5, 6, 53, 54, 55, 56, 57, 58, 59, 60, 61, 62, 63, 64] (fun x3 _ => [(53, .c (.int .i64 x3))]) (fun x3 _ => [.box [.int .i64 p1.cells, .tree 1 (p1.put.map (eK .i64)), .tree 1 (p1.get.map (eK .i64)), .tree 6 (p1.steps.map TLoop.enc)], .box [.int .i64 0, .int .i64 0]]) _ _ () hl1 ?_ ?_
        ·exact ls
        ·rintro x3 _ r1 hm hr1
         replace hm : loop_Check_l1 p1 x3 = some r1 := hm
         refine W_eqm ?_
         unfold loop_Check_l1 at hm
         refine W_rg [] ?_
         refine W_seq_k fun k3 hk3 => ?_
         by_cases h6 : x3 < (p1.steps.length : Int)
         ·rw [if_pos h6] at hm
          refine W_condt rfl (decide_eq_true h6) ?_
          refine W_skip ?_
          refine KThen_n (hk3 _ _ ?_)
          refine W_seq_k fun k4 hk4 => ?_
          refine W_block ?_
          obtain ⟨hg7a, hm⟩ := gd hm
          refine W_rgx (em TLoop.enc p1.steps x3.toNat) [54, 55, 56, 57] ?_
          refine W_regF [6, 58, 59, 60] fun k kp hk hp => ?_
          refine go ?_
          obtain ⟨y4, hc8, hm⟩ := bd hm
          refine RP (fun _ => loop_fits_ok p1 (p1.steps.getD x3.toNat default) _ hc8) ?_
          refine RunRest_ops ?_
          refine go ?_
          refine hk _ _ ?_
          clear hk hp k kp
          by_cases h9 : y4 = true
          ·rw [if_pos h9] at hm
           refine W_condf rfl (by rw [show y4 = true from (h9)]; rfl) ?_
           refine W_skip ?_
           refine KBlock_n ?_
           refine KThen_n (hk4 _ _ ?_)
           refine W_rn ?_
           refine KLoopM_n (IntKind.wrap .i64 (x3 + 1)) () hm ?_
           exact ls
          ·rw [if_neg h9] at hm
           refine W_condt rfl (by rw [show y4 = false from (Bool.eq_false_iff.2 h9)]; rfl) ?_
           refine W_rg [1, 5, 51, 52, 53, 61, 62, 63] ?_
           have ho10 := out_eq hm hr1
           subst ho10
           replace hm : some (TFault.mk 4 x3) = some r := hm1
           refine W_ret ?_
           refine KBlock_r ?_
           refine KThen_r ?_
           refine KLoopM_r ?_
           refine KBlock_r ?_
           refine KJoinM_r ?_
           refine KBody_ret [] ?_
           obtain rfl := Option.some.inj hm
           exact en
         ·rw [if_neg h6] at hm
          refine W_condf rfl (decide_eq_false h6) ?_
          refine W_exit ?_
          have ho11 := out_eq hm hr1
          subst ho11
          replace hm : loop_Check_j2 = some r := hm1
          refine KThen_x ?_
          refine KLoopM_x ?_
          refine KBlock_hit ?_
          refine KJoinM_n () () hm ?_
          exact ls
       ·rintro _ _ hm
        replace hm : loop_Check_j2 = some r := hm
        refine W_eqm ?_
        unfold loop_Check_j2 at hm
        refine W_rg [65] ?_
        refine W_ret ?_
        refine KBody_ret [] ?_
        obtain rfl := Option.some.inj hm
        exact en
end Pam

/- the walk of emit_emitter_put, printed by a program of ours -/
namespace Pam
open Go Go.Proofs
set_option maxRecDepth 100000 in
set_option maxHeartbeats 1000000 in
theorem emit_emitter_put_ok (p1 : List TIns) (p2 : Int) (p3 : List TIns) (v1_ : Nat) (r : (Int × (List TIns))) (hm : emit_emitter_put p1 p2 p3 = some r) : Spec Try.prog 115 [.c (.optr 0 0), .c (.tree 6 (p1.map TIns.enc))] [.box [.osl 1 v1_ 0 p3.length, .int .i64 p2], .arr 6 v1_ 118 (p3.map TIns.enc)] (fun p σ => ∃ w1_, (p = .t [] ∧ σ = [.box [.osl 1 w1_ 0 r.2.length, .int .i64 r.1], .arr 6 w1_ 118 (r.2.map TIns.enc)])) (fun _ _ => False) := by
 refine Spec_ofD 34 [] Try.func115 rfl rfl rfl (by kernel_rfl) (by simp) ?_
 refine W_eqf ?_
 unfold emit_emitter_put at hm
 refine W_rg [1] ?_
 refine W_block ?_
 obtain ⟨o1, hl1, hm1⟩ := bd hm
 refine W_loopM (S := (Int × (List TIns) × Int)) (V := Nat) (O := (Int × (List TIns))) [5, 8, 9, 10, 11, 12, 13, 14, 15, 16, 17, 18, 19, 20, 21, 22, 23, 24, 25, 26, 27, 28, 29, 30, 31, 32, 33] (fun (x15, l16, x18) v17 => [(8, .c (.int .i64 x18))]) (fun (x15, l16, x18) v17 => [.box [.osl 1 v17 0 l16.length, .int .i64 x15], .arr 6 v17 118 (l16.map TIns.enc)]) _ _ v1_ hl1 ?_ ?_
 ·exact ls
 ·rintro ⟨x15, l16, x18⟩ v17 r1 hm hr1
  replace hm : emit_emitter_put_l1 p1 x15 l16 x18 = some r1 := hm
  refine W_eqm ?_
  unfold emit_emitter_put_l1 at hm
  refine W_rg [] ?_
  refine W_seq_k fun k1 hk1 => ?_
  by_cases h1 : x18 < (p1.length : Int)
  ·rw [if_pos h1] at hm
   refine W_condt rfl (decide_eq_true h1) ?_
   refine W_skip ?_
   refine KThen_n (hk1 _ _ ?_)
   refine W_seq_k fun k2 hk2 => ?_
   refine W_block ?_
   obtain ⟨hg2a, hm⟩ := gd hm
   refine W_rgx (em TIns.enc p1 x18.toNat) [9, 10, 11] ?_
   refine W_ag [12, 13, 14, 15, 16, 17, 18, 19, 20, 21, 22] [0, 0, 2, 6, 14, 0, 32, 96, 254, 511, 1023, 2047] [false, false, false, false, false, false, false, false, false, true, true, true] ?_
   obtain ⟨⟨hg3ax, hg3ay⟩, hm⟩ := gd hm
   refine W_anyP (by kernel_rfl) [1] [0, 0, 2, 6, 14, 0, 32, 126, 255, 511, 1023] [false, false, false, false, false, false, false, false, true, true, true] [false, false, false, false, false, false, false, true, false, false, false] [[0], [], [], [], [], [], [], [], [], [], []] (by kernel_rfl) fun k hk => ?_
   simp only [bAP, bT, tab, bX, reduceIte, ↓reduceIte, reduceCtorEq, Int.reduceToNat, Nat.reduceDiv, Nat.reduceMod, Nat.reduceLT, Nat.reduceLeDiff, Nat.reduceAdd, Nat.reduceSub, Nat.reduceMul, Nat.reduceEqDiff, Nat.reduceBEq, Nat.reduceBNe, Nat.reduceGT, List.replicate, List.foldr]
   repeat refine ⟨by first | omega | assumption | decide | exact all_len fun _ => rfl | (intro _; omega) | rfl | exact fun e => absurd (List.map_eq_nil_iff.1 e) (by assumption) | (and_intros <;> first | omega | assumption | decide | exact all_len fun _ => rfl) | (refine .inl ?_; simp only [extB]; and_intros <;> first | rfl | trivial) | (refine .inr (.inl ?_); simp only [extB]; and_intros <;> first | rfl | trivial) | (refine .inr ?_; simp only [nearB]; and_intros <;> first | exact .inl rfl | exact .inr rfl | trivial) | (refine .inr (.inr ⟨rfl, ?_⟩); simp only [nearB]; and_intros <;> first | exact .inl rfl | exact .inr rfl | trivial) | exact .inl rfl, ?_⟩
   refine hk _ _ ?_
   clear hk k
   refine KBlock_n ?_
   refine KThen_n (hk2 _ _ ?_)
   refine W_rn ?_
   refine KLoopM_n ((if (IntKind.wrap .i64 (((p1.getD x18.toNat default).r_) + 1)) > x15 then (IntKind.wrap .i64 (((p1.getD x18.toNat default).r_) + 1)) else x15), (l16 ++ (lit ([(p1.getD x18.toNat default)] : List TIns))), (IntKind.wrap .i64 (x18 + 1))) (v17 + 1) hm ?_
   exact ls
  ·rw [if_neg h1] at hm
   refine W_condf rfl (decide_eq_false h1) ?_
   refine W_exit ?_
   have ho4 := out_eq hm hr1
   subst ho4
   replace hm : some (x15, l16) = some r := hm1
   refine KThen_x ?_
   refine KLoopM_x ?_
   refine KBlock_hit ?_
   refine KBody_nrm [.box [.osl 1 v17 0 l16.length, .int .i64 x15], .arr 6 v17 118 (l16.map TIns.enc)] ?_
   obtain rfl := Option.some.inj hm
   exact en
end Pam

/- the walk of emit_emitter_arr, printed by a program of ours -/
namespace Pam
open Go Go.Proofs
set_option maxRecDepth 100000 in
set_option maxHeartbeats 1000000 in
theorem emit_emitter_arr_ok (p1 : TPush) (p2 : Int) (p3 : Int) (p4 : Int) (p5 : List TIns) (v1_ : Nat) (r : (Int × (List TIns))) (hm : emit_emitter_arr p1 p2 p3 p4 p5 = some r) : Spec Try.prog 140 [.c (.optr 0 0), .a [.int .i64 p1.op, .int .i64 p1.k, .int .i64 p1.v, .int .i64 p1.n], .c (.int .i64 p2), .c (.int .i64 p3)] [.box [.osl 1 v1_ 0 p5.length, .int .i64 p4], .arr 6 v1_ 118 (p5.map TIns.enc)] (fun p σ => ∃ w1_, (p = .t [] ∧ σ = [.box [.osl 1 w1_ 0 r.2.length, .int .i64 r.1], .arr 6 w1_ 118 (r.2.map TIns.enc)])) (fun _ _ => False) := by
 refine Spec_ofD 25 [] Try.func140 rfl rfl rfl (by kernel_rfl) (by simp) ?_
 refine W_eqf ?_
 unfold emit_emitter_arr at hm
 refine W_rg [1] ?_
 refine W_seq_k fun k1 hk1 => ?_
 refine W_rg [8] ?_
 by_cases h1 : p3 = 0
 ·rw [if_pos h1] at hm
  refine W_condt rfl (beq_iff_eq.2 h1) ?_
  refine W_regF [0, 2, 3, 5, 9, 10, 11, 12, 13, 14, 15, 16] fun k kp hk hp => ?_
  refine go ?_
  refine RunCall_turn (Ghost_fr 3 rfl) ?_
  simp only [bR, bT, tab, bX, reduceIte, ↓reduceIte, reduceCtorEq, Int.reduceToNat, Nat.reduceDiv, Nat.reduceMod, Nat.reduceLT, Nat.reduceLeDiff, Nat.reduceAdd, Nat.reduceSub, Nat.reduceMul, Nat.reduceEqDiff, Nat.reduceBEq, Nat.reduceBNe, Nat.reduceGT, bZ, List.replicate, List.foldr]
  repeat refine ⟨by first | omega | assumption | decide | exact all_len fun _ => rfl | (intro _; omega) | rfl | exact fun e => absurd (List.map_eq_nil_iff.1 e) (by assumption) | (and_intros <;> first | omega | assumption | decide | exact all_len fun _ => rfl), ?_⟩
  obtain ⟨y1, hc2, hm⟩ := bd hm
  refine RA (emit_emitter_put_ok (lit ([(TIns.mk 2 0 p2 0 0 p1.v)] : List TIns)) p4 p5 v1_ _ hc2) [0, 1] ?_
  rintro p σ' hq3 _
  obtain ⟨v2, rfl, rfl⟩ := hq3
  refine RunRest_ops ?_
  refine go ?_
  refine hk _ _ ?_
  clear hk hp k kp
  refine W_ret ?_
  refine KThen_r ?_
  refine KBody_ret [.box [.osl 1 v2 0 y1.2.length, .int .i64 y1.1], .arr 6 v2 118 (y1.2.map TIns.enc)] ?_
  obtain rfl := Option.some.inj hm
  exact en
 ·rw [if_neg h1] at hm
  refine W_condf rfl (beq_eq_false_iff_ne.2 h1) ?_
  refine W_skip ?_
  refine KThen_n (hk1 _ _ ?_)
  refine W_region fun k kp hk hp => ?_
  refine go ?_
  refine RunCall_turn (Ghost_fr 3 rfl) ?_
  simp only [bR, bT, tab, bX, reduceIte, ↓reduceIte, reduceCtorEq, Int.reduceToNat, Nat.reduceDiv, Nat.reduceMod, Nat.reduceLT, Nat.reduceLeDiff, Nat.reduceAdd, Nat.reduceSub, Nat.reduceMul, Nat.reduceEqDiff, Nat.reduceBEq, Nat.reduceBNe, Nat.reduceGT, bZ, List.replicate, List.foldr]
  repeat refine ⟨by first | omega | assumption | decide | exact all_len fun _ => rfl | (intro _; omega) | rfl | exact fun e => absurd (List.map_eq_nil_iff.1 e) (by assumption) | (and_intros <;> first | omega | assumption | decide | exact all_len fun _ => rfl), ?_⟩
  obtain ⟨y3, hc4, hm⟩ := bd hm
  refine RA (emit_emitter_put_ok (lit ([(TIns.mk 3 0 p2 0 p3 p1.v)] : List TIns)) p4 p5 v1_ _ hc4) [0, 1] ?_
  rintro p σ' hq5 _
  obtain ⟨v4, rfl, rfl⟩ := hq5
  refine RunRest_ops ?_
  refine go ?_
  refine hk _ _ ?_
  clear hk hp k kp
  refine KBody_nrm [.box [.osl 1 v4 0 y3.2.length, .int .i64 y3.1], .arr 6 v4 118 (y3.2.map TIns.enc)] ?_
  obtain rfl := Option.some.inj hm
  exact en
end Pam

/- the walk of emit_emitter_index, printed by a program of ours -/
namespace Pam
open Go Go.Proofs
set_option maxRecDepth 100000 in
set_option maxHeartbeats 1000000 in
theorem emit_emitter_index_ok (p1 : TPush) (p2 : Int) (p3 : Int) (p4 : Int) (p5 : List TIns) (v1_ : Nat) (r : (Int × (List TIns))) (hm : emit_emitter_index p1 p2 p3 p4 p5 = some r) : Spec Try.prog 141 [.c (.optr 0 0), .a [.int .i64 p1.op, .int .i64 p1.k, .int .i64 p1.v, .int .i64 p1.n], .c (.int .i64 p2), .c (.int .i64 p3)] [.box [.osl 1 v1_ 0 p5.length, .int .i64 p4], .arr 6 v1_ 118 (p5.map TIns.enc)] (fun p σ => ∃ w1_, (p = .t [] ∧ σ = [.box [.osl 1 w1_ 0 r.2.length, .int .i64 r.1], .arr 6 w1_ 118 (r.2.map TIns.enc)])) (fun _ _ => False) := by
 refine Spec_ofD 27 [] Try.func141 rfl rfl rfl (by kernel_rfl) (by simp) ?_
 refine W_eqf ?_
 unfold emit_emitter_index at hm
 refine W_rg [1] ?_
 refine W_seq_k fun k1 hk1 => ?_
 refine W_rg [3, 8] ?_
 by_cases h1 : p3 = 0
 ·rw [if_pos h1] at hm
  refine W_condt rfl (beq_iff_eq.2 h1) ?_
  refine W_regF [0, 2, 5, 9, 10, 11, 12, 13, 14, 15, 16] fun k kp hk hp => ?_
  refine go ?_
  refine RunCall_turn (Ghost_fr 3 rfl) ?_
  simp only [bR, bT, tab, bX, reduceIte, ↓reduceIte, reduceCtorEq, Int.reduceToNat, Nat.reduceDiv, Nat.reduceMod, Nat.reduceLT, Nat.reduceLeDiff, Nat.reduceAdd, Nat.reduceSub, Nat.reduceMul, Nat.reduceEqDiff, Nat.reduceBEq, Nat.reduceBNe, Nat.reduceGT, bZ, List.replicate, List.foldr]
  repeat refine ⟨by first | omega | assumption | decide | exact all_len fun _ => rfl | (intro _; omega) | rfl | exact fun e => absurd (List.map_eq_nil_iff.1 e) (by assumption) | (and_intros <;> first | omega | assumption | decide | exact all_len fun _ => rfl), ?_⟩
  obtain ⟨y1, hc2, hm⟩ := bd hm
  refine RA (emit_emitter_put_ok (lit ([(TIns.mk 1 0 p2 0 0 p1.n)] : List TIns)) p4 p5 v1_ _ hc2) [0, 1] ?_
  rintro p σ' hq3 _
  obtain ⟨v2, rfl, rfl⟩ := hq3
  refine RunRest_ops ?_
  refine go ?_
  refine hk _ _ ?_
  clear hk hp k kp
  refine W_ret ?_
  refine KThen_r ?_
  refine KBody_ret [.box [.osl 1 v2 0 y1.2.length, .int .i64 y1.1], .arr 6 v2 118 (y1.2.map TIns.enc)] ?_
  obtain rfl := Option.some.inj hm
  exact en
 ·rw [if_neg h1] at hm
  refine W_condf rfl (beq_eq_false_iff_ne.2 h1) ?_
  refine W_skip ?_
  refine KThen_n (hk1 _ _ ?_)
  refine W_region fun k kp hk hp => ?_
  refine go ?_
  refine RunCall_turn (Ghost_fr 3 rfl) ?_
  simp only [bR, bT, tab, bX, reduceIte, ↓reduceIte, reduceCtorEq, Int.reduceToNat, Nat.reduceDiv, Nat.reduceMod, Nat.reduceLT, Nat.reduceLeDiff, Nat.reduceAdd, Nat.reduceSub, Nat.reduceMul, Nat.reduceEqDiff, Nat.reduceBEq, Nat.reduceBNe, Nat.reduceGT, bZ, List.replicate, List.foldr]
  repeat refine ⟨by first | omega | assumption | decide | exact all_len fun _ => rfl | (intro _; omega) | rfl | exact fun e => absurd (List.map_eq_nil_iff.1 e) (by assumption) | (and_intros <;> first | omega | assumption | decide | exact all_len fun _ => rfl), ?_⟩
  obtain ⟨y3, hc4, hm⟩ := bd hm
  refine RA (emit_emitter_put_ok (lit ([(TIns.mk 1 0 p2 0 0 p1.n), (TIns.mk 7 1 p2 p2 0 0)] : List TIns)) p4 p5 v1_ _ hc4) [0, 1] ?_
  rintro p σ' hq5 _
  obtain ⟨v4, rfl, rfl⟩ := hq5
  refine RunRest_ops ?_
  refine go ?_
  refine hk _ _ ?_
  clear hk hp k kp
  refine KBody_nrm [.box [.osl 1 v4 0 y3.2.length, .int .i64 y3.1], .arr 6 v4 118 (y3.2.map TIns.enc)] ?_
  obtain rfl := Option.some.inj hm
  exact en
end Pam

/- the walk of emit_emitter_pick, printed by a program of ours -/
namespace Pam
open Go Go.Proofs
set_option maxRecDepth 100000 in
set_option maxHeartbeats 1000000 in
theorem emit_emitter_pick_ok (p1 : TPush) (p2 : Int) (p3 : Int) (p4 : List TIns) (v1_ : Nat) (r : (Int × (List TIns))) (hm : emit_emitter_pick p1 p2 p3 p4 = some r) : Spec Try.prog 142 [.c (.optr 0 0), .a [.int .i64 p1.op, .int .i64 p1.k, .int .i64 p1.v, .int .i64 p1.n], .c (.int .i64 p2)] [.box [.osl 1 v1_ 0 p4.length, .int .i64 p3], .arr 6 v1_ 118 (p4.map TIns.enc)] (fun p σ => ∃ w1_, (p = .t [] ∧ σ = [.box [.osl 1 w1_ 0 r.2.length, .int .i64 r.1], .arr 6 w1_ 118 (r.2.map TIns.enc)])) (fun _ _ => False) := by
  refine Spec_ofD 61 [] Try.func142 rfl rfl rfl (by kernel_rfl) (by simp) ?_
  refine W_eqE (by simp only [argSlots, Env.ofList, List.length_nil, List.length_cons, bE, Nat.reduceDiv, Nat.reduceMod, Nat.reduceLT, Nat.reduceLeDiff, Nat.reduceAdd, Nat.reduceSub, Nat.reduceMul, Nat.reduceEqDiff, Nat.reduceBEq, Nat.reduceBNe, Nat.reduceGT, Int.reduceToNat]; rfl) rfl ?_
  unfold emit_emitter_pick at hm
  refine W_regF [1] fun k kp hk hp => ?_
  simp only [bR, bT, tab, bX, reduceIte, ↓reduceIte, reduceCtorEq, Int.reduceToNat, Nat.reduceDiv, Nat.reduceMod, Nat.reduceLT, Nat.reduceLeDiff, Nat.reduceAdd, Nat.reduceSub, Nat.reduceMul, Nat.reduceEqDiff, Nat.reduceBEq, Nat.reduceBNe, Nat.reduceGT]
  repeat refine ⟨by first | omega | assumption | decide | exact all_len fun _ => rfl | (intro _; omega) | rfl | exact fun e => absurd (List.map_eq_nil_iff.1 e) (by assumption) | (and_intros <;> first | omega | assumption | decide | exact all_len fun _ => rfl), ?_⟩
  refine hk _ _ ?_
  clear hk hp k kp
  refine W_regF [9, 10, 11, 12, 13, 14] fun k kp hk hp => ?_
  simp only [bR, bT, tab, bX, reduceIte, ↓reduceIte, reduceCtorEq, Int.reduceToNat, Nat.reduceDiv, Nat.reduceMod, Nat.reduceLT, Nat.reduceLeDiff, Nat.reduceAdd, Nat.reduceSub, Nat.reduceMul, Nat.reduceEqDiff, Nat.reduceBEq, Nat.reduceBNe, Nat.reduceGT]
  repeat refine ⟨by first | omega | assumption | decide | exact all_len fun _ => rfl | (intro _; omega) | rfl | exact fun e => absurd (List.map_eq_nil_iff.1 e) (by assumption) | (and_intros <;> first | omega | assumption | decide | exact all_len fun _ => rfl), ?_⟩
  refine hk _ _ ?_
  clear hk hp k kp
  refine W_region fun k kp hk hp => ?_
  simp only [bR, bT, tab, bX, reduceIte, ↓reduceIte, reduceCtorEq, Int.reduceToNat, Nat.reduceDiv, Nat.reduceMod, Nat.reduceLT, Nat.reduceLeDiff, Nat.reduceAdd, Nat.reduceSub, Nat.reduceMul, Nat.reduceEqDiff, Nat.reduceBEq, Nat.reduceBNe, Nat.reduceGT, List.replicate, List.foldr]
  repeat refine ⟨by first | omega | assumption | decide | exact all_len fun _ => rfl | (intro _; omega) | rfl | exact fun e => absurd (List.map_eq_nil_iff.1 e) (by assumption) | (and_intros <;> first | omega | assumption | decide | exact all_len fun _ => rfl), ?_⟩
  refine RunCall_turn (Ghost_fr 3 rfl) ?_
  simp only [bR, bT, tab, bX, reduceIte, ↓reduceIte, reduceCtorEq, Int.reduceToNat, Nat.reduceDiv, Nat.reduceMod, Nat.reduceLT, Nat.reduceLeDiff, Nat.reduceAdd, Nat.reduceSub, Nat.reduceMul, Nat.reduceEqDiff, Nat.reduceBEq, Nat.reduceBNe, Nat.reduceGT, bZ, List.replicate, List.foldr]
  repeat refine ⟨by first | omega | assumption | decide | exact all_len fun _ => rfl | (intro _; omega) | rfl | exact fun e => absurd (List.map_eq_nil_iff.1 e) (by assumption) | (and_intros <;> first | omega | assumption | decide | exact all_len fun _ => rfl), ?_⟩
  obtain ⟨y1, hc1, hm⟩ := bd hm
  refine RunCall_atR (emit_emitter_put_ok (lit ([(TIns.mk 1 0 (IntKind.wrap .i64 (p2 + 2)) 0 0 0), (TIns.mk 7 8 (IntKind.wrap .i64 (p2 + 3)) p2 (IntKind.wrap .i64 (p2 + 2)) 0), (TIns.mk 6 14 (IntKind.wrap .i64 (p2 + 3)) (IntKind.wrap .i64 (p2 + 3)) 0 0), (TIns.mk 1 0 (IntKind.wrap .i64 (p2 + 4)) 0 0 p1.n), (TIns.mk 7 8 (IntKind.wrap .i64 (p2 + 4)) p2 (IntKind.wrap .i64 (p2 + 4)) 0), (TIns.mk 7 10 (IntKind.wrap .i64 (p2 + 3)) (IntKind.wrap .i64 (p2 + 3)) (IntKind.wrap .i64 (p2 + 4)) 0), (TIns.mk 9 0 (IntKind.wrap .i64 (p2 + 4)) (IntKind.wrap .i64 (p2 + 3)) 0 0), (TIns.mk 8 0 (IntKind.wrap .i64 (p2 + 4)) p2 (IntKind.wrap .i64 (p2 + 2)) 0), (TIns.mk 3 0 (IntKind.wrap .i64 (p2 + 4)) (IntKind.wrap .i64 (p2 + 4)) p1.n p1.v), (TIns.mk 8 0 (IntKind.wrap .i64 (p2 + 3)) (IntKind.wrap .i64 (p2 + 4)) (IntKind.wrap .i64 (p2 + 1)) 0), (TIns.mk 9 0 p2 (IntKind.wrap .i64 (p2 + 3)) 0 0)] : List TIns)) p3 p4 v1_ _ hc1) [0, 1] (by first | trivial | exact dst_ok rfl) (by first | trivial | (intro _; first | trivial | simp [need]) | simp [need]) (by simp) (by simp) rfl rfl (by first | trivial | (simp [bX, eK, eB, eS, eL, s_cap, psUnder, PV.under, CV.under, obsBelow, OB.under, cvsBelow]; done)) (by first | trivial | (simp [bX, eK, eB, eS, eL, s_cap, psUnder, PV.under, CV.under, obsBelow, OB.under, cvsBelow]; done)) ?_ (fun _ _ h _ => h.elim)
  rintro p σ' hq2 _
  obtain ⟨v2, rfl, rfl⟩ := hq2
  refine RunRest_ops ?_
  simp only [bR, bT, tab, bX, reduceIte, ↓reduceIte, reduceCtorEq, Int.reduceToNat, Nat.reduceDiv, Nat.reduceMod, Nat.reduceLT, Nat.reduceLeDiff, Nat.reduceAdd, Nat.reduceSub, Nat.reduceMul, Nat.reduceEqDiff, Nat.reduceBEq, Nat.reduceBNe, Nat.reduceGT, List.replicate, List.foldr]
  repeat refine ⟨by first | omega | assumption | decide | exact all_len fun _ => rfl | (intro _; omega) | rfl | exact fun e => absurd (List.map_eq_nil_iff.1 e) (by assumption) | (and_intros <;> first | omega | assumption | decide | exact all_len fun _ => rfl), ?_⟩
  refine hk _ _ ?_
  clear hk hp k kp
  refine KBody_nrm [.box [.osl 1 v2 0 y1.2.length, .int .i64 y1.1], .arr 6 v2 118 (y1.2.map TIns.enc)] ?_
  obtain rfl := Option.some.inj hm
  simp only [bF, bT, tab, bX, Sum.elim_inl, Sum.elim_inr, reduceIte, ↓reduceIte, reduceCtorEq, Int.reduceToNat, Nat.reduceDiv, Nat.reduceMod, Nat.reduceLT, Nat.reduceLeDiff, Nat.reduceAdd, Nat.reduceSub, Nat.reduceMul, Nat.reduceEqDiff, Nat.reduceBEq, Nat.reduceBNe, Nat.reduceGT] <;> first | done | rfl | (and_intros <;> first | rfl | omega | (simp; done))
end Pam

/- the walk of emit_emitter_tree, printed by a program of ours -/
namespace Pam
open Go Go.Proofs
set_option maxRecDepth 100000 in
set_option maxHeartbeats 8000000 in
theorem emit_emitter_tree_ok (p1 : List TPush) (p2 : Int) (p3 : Int) (p4 : Int) (p5 : List TIns) (v1_ : Nat) (r : (Int × (List TIns))) (hm : emit_emitter_tree p1 p2 p3 p4 p5 = some r) : Spec Try.prog 114 [.c (.optr 0 0), .c (.tree 4 (p1.map TPush.enc)), .c (.int .i64 p2), .c (.int .i64 p3)] [.box [.osl 1 v1_ 0 p5.length, .int .i64 p4], .arr 6 v1_ 118 (p5.map TIns.enc)] (fun p σ => ∃ w1_, (p = .t [] ∧ σ = [.box [.osl 1 w1_ 0 r.2.length, .int .i64 r.1], .arr 6 w1_ 118 (r.2.map TIns.enc)])) (fun _ _ => False) := by
 refine Spec_ofD 100 [] Try.func114 rfl rfl rfl (by kernel_rfl) (by simp) ?_
 refine W_eqf ?_
 unfold emit_emitter_tree at hm
 refine W_rg [1] ?_
 refine W_block ?_
 obtain ⟨o1, hl1, hm1⟩ := bd hm
 refine W_loopM (S := (Int × (List TIns) × Int × Int)) (V := Nat) (O := (Int × (List TIns))) [2, 9, 12, 13, 14, 15, 16, 17, 18, 19, 20, 21, 22, 23, 24, 25, 26, 27, 28, 29, 30, 31, 32, 33, 34, 35, 36, 37, 38, 39, 40, 41, 42, 43, 44, 45, 46, 47, 48, 49, 50, 51, 52, 53, 54, 55, 56, 57, 58, 59, 60, 61, 62, 63, 64, 65, 66, 67, 68, 69, 70, 71, 72, 73, 74, 75, 76, 77, 78, 79, 80, 81, 82, 83, 84, 85, 86, 87, 88, 89, 90, 91, 92, 93, 94, 95, 96, 97, 98, 99] (fun (x17, l18, x20, x21) v19 => [(2, .c (.int .i64 x20)), (12, .c (.int .i64 x21))]) (fun (x17, l18, x20, x21) v19 => [.box [.osl 1 v19 0 l18.length, .int .i64 x17], .arr 6 v19 118 (l18.map TIns.enc)]) _ _ v1_ hl1 ?_ ?_
 ·exact ls
 ·rintro ⟨x17, l18, x20, x21⟩ v19 r1 hm hr1
  replace hm : emit_emitter_tree_l1 p1 p3 x17 l18 x20 x21 = some r1 := hm
  refine W_eqm ?_
  unfold emit_emitter_tree_l1 at hm
  refine W_rg [] ?_
  refine W_seq_k fun k1 hk1 => ?_
  by_cases h1 : x21 < (p1.length : Int)
  ·rw [if_pos h1] at hm
   refine W_condt rfl (decide_eq_true h1) ?_
   refine W_skip ?_
   refine KThen_n (hk1 _ _ ?_)
   refine W_seq_k fun k2 hk2 => ?_
   refine W_block ?_
   obtain ⟨hg2a, hm⟩ := gd hm
   refine W_rgx (em TPush.enc p1 x21.toNat) [13, 14, 15] ?_
   refine W_seq_k fun k3 hk3 => ?_
   refine W_rg [16] ?_
   refine W_block ?_
   refine W_rg [19] ?_
   by_cases h3 : ((p1.getD x21.toNat default).op) = 1
   ·rw [if_pos h3] at hm
    refine W_condt rfl (beq_iff_eq.2 h3) ?_
    refine W_region fun k kp hk hp => ?_
    refine go ?_
    refine RunCall_turn (Ghost_fr 3 rfl) ?_
    simp only [bR, bT, tab, bX, reduceIte, ↓reduceIte, reduceCtorEq, Int.reduceToNat, Nat.reduceDiv, Nat.reduceMod, Nat.reduceLT, Nat.reduceLeDiff, Nat.reduceAdd, Nat.reduceSub, Nat.reduceMul, Nat.reduceEqDiff, Nat.reduceBEq, Nat.reduceBNe, Nat.reduceGT, bZ, List.replicate, List.foldr]
    repeat refine ⟨by first | omega | assumption | decide | exact all_len fun _ => rfl | (intro _; omega) | rfl | exact fun e => absurd (List.map_eq_nil_iff.1 e) (by assumption) | (and_intros <;> first | omega | assumption | decide | exact all_len fun _ => rfl), ?_⟩
    obtain ⟨y22, hc4, hm⟩ := bd hm
    refine RA (emit_emitter_put_ok (lit ([(TIns.mk 1 0 x20 0 0 ((p1.getD x21.toNat default).n))] : List TIns)) x17 l18 v19 _ hc4) [0, 1] ?_
    rintro p σ' hq5 _
    obtain ⟨v23, rfl, rfl⟩ := hq5
    refine RunRest_ops ?_
    refine go ?_
    refine hk _ _ ?_
    clear hk hp k kp
    refine KBlock_n ?_
    refine KThen_n (hk3 _ _ ?_)
    refine W_rn ?_
    refine KBlock_n ?_
    refine KThen_n (hk2 _ _ ?_)
    refine W_rn ?_
    refine KLoopM_n (y22.1, y22.2, (IntKind.wrap .i64 (x20 + 1)), (IntKind.wrap .i64 (x21 + 1))) v23 hm ?_
    exact ls
   ·rw [if_neg h3] at hm
    refine W_condf rfl (beq_eq_false_iff_ne.2 h3) ?_
    refine W_rg [18, 28] ?_
    by_cases h6 : ((p1.getD x21.toNat default).op) = 2
    ·rw [if_pos h6] at hm
     refine W_condt rfl (beq_iff_eq.2 h6) ?_
     refine W_region fun k kp hk hp => ?_
     refine go ?_
     refine RunCall_turn (Ghost_fr 3 rfl) ?_
     simp only [bR, bT, tab, bX, reduceIte, ↓reduceIte, reduceCtorEq, Int.reduceToNat, Nat.reduceDiv, Nat.reduceMod, Nat.reduceLT, Nat.reduceLeDiff, Nat.reduceAdd, Nat.reduceSub, Nat.reduceMul, Nat.reduceEqDiff, Nat.reduceBEq, Nat.reduceBNe, Nat.reduceGT, bZ, List.replicate, List.foldr]
     repeat refine ⟨by first | omega | assumption | decide | exact all_len fun _ => rfl | (intro _; omega) | rfl | exact fun e => absurd (List.map_eq_nil_iff.1 e) (by assumption) | (and_intros <;> first | omega | assumption | decide | exact all_len fun _ => rfl), ?_⟩
     obtain ⟨y24, hc7, hm⟩ := bd hm
     refine RA (emit_emitter_put_ok (lit ([(TIns.mk 2 0 x20 0 0 ((p1.getD x21.toNat default).v))] : List TIns)) x17 l18 v19 _ hc7) [0, 1] ?_
     rintro p σ' hq8 _
     obtain ⟨v25, rfl, rfl⟩ := hq8
     refine RunRest_ops ?_
     refine go ?_
     refine hk _ _ ?_
     clear hk hp k kp
     refine KBlock_n ?_
     refine KThen_n (hk3 _ _ ?_)
     refine W_rn ?_
     refine KBlock_n ?_
     refine KThen_n (hk2 _ _ ?_)
     refine W_rn ?_
     refine KLoopM_n (y24.1, y24.2, (IntKind.wrap .i64 (x20 + 1)), (IntKind.wrap .i64 (x21 + 1))) v25 hm ?_
     exact ls
    ·rw [if_neg h6] at hm
     refine W_condf rfl (beq_eq_false_iff_ne.2 h6) ?_
     refine W_rg [27, 37] ?_
     by_cases h9 : ((p1.getD x21.toNat default).op) = 3
     ·rw [if_pos h9] at hm
      refine W_condt rfl (beq_iff_eq.2 h9) ?_
      refine W_region fun k kp hk hp => ?_
      refine go ?_
      obtain ⟨y26, hc10, hm⟩ := bd hm
      refine RA (emit_emitter_arr_ok (p1.getD x21.toNat default) x20 p3 x17 l18 v19 _ hc10) [0, 1] ?_
      rintro p σ' hq11 _
      obtain ⟨v27, rfl, rfl⟩ := hq11
      refine RunRest_ops ?_
      refine go ?_
      refine hk _ _ ?_
      clear hk hp k kp
      refine KBlock_n ?_
      refine KThen_n (hk3 _ _ ?_)
      refine W_rn ?_
      refine KBlock_n ?_
      refine KThen_n (hk2 _ _ ?_)
      refine W_rn ?_
      refine KLoopM_n (y26.1, y26.2, (IntKind.wrap .i64 (x20 + 1)), (IntKind.wrap .i64 (x21 + 1))) v27 hm ?_
      exact ls
     ·rw [if_neg h9] at hm
      refine W_condf rfl (beq_eq_false_iff_ne.2 h9) ?_
      refine W_rg [36, 44] ?_
      by_cases h12 : ((p1.getD x21.toNat default).op) = 4
      ·rw [if_pos h12] at hm
       refine W_condt rfl (beq_iff_eq.2 h12) ?_
       refine W_region fun k kp hk hp => ?_
       refine go ?_
       obtain ⟨y28, hc13, hm⟩ := bd hm
       refine RA (emit_emitter_index_ok (p1.getD x21.toNat default) x20 p3 x17 l18 v19 _ hc13) [0, 1] ?_
       rintro p σ' hq14 _
       obtain ⟨v29, rfl, rfl⟩ := hq14
       refine RunRest_ops ?_
       refine go ?_
       refine hk _ _ ?_
       clear hk hp k kp
       refine KBlock_n ?_
       refine KThen_n (hk3 _ _ ?_)
       refine W_rn ?_
       refine KBlock_n ?_
       refine KThen_n (hk2 _ _ ?_)
       refine W_rn ?_
       refine KLoopM_n (y28.1, y28.2, (IntKind.wrap .i64 (x20 + 1)), (IntKind.wrap .i64 (x21 + 1))) v29 hm ?_
       exact ls
      ·rw [if_neg h12] at hm
       refine W_condf rfl (beq_eq_false_iff_ne.2 h12) ?_
       refine W_rg [43, 51] ?_
       by_cases h15 : ((p1.getD x21.toNat default).op) = 5
       ·rw [if_pos h15] at hm
        refine W_condt rfl (beq_iff_eq.2 h15) ?_
        refine W_rg [17, 50, 52, 53] ?_
        refine W_region fun k kp hk hp => ?_
        refine go ?_
        refine RunCall_turn (Ghost_fr 3 rfl) ?_
        simp only [bR, bT, tab, bX, reduceIte, ↓reduceIte, reduceCtorEq, Int.reduceToNat, Nat.reduceDiv, Nat.reduceMod, Nat.reduceLT, Nat.reduceLeDiff, Nat.reduceAdd, Nat.reduceSub, Nat.reduceMul, Nat.reduceEqDiff, Nat.reduceBEq, Nat.reduceBNe, Nat.reduceGT, bZ, List.replicate, List.foldr]
        repeat refine ⟨by first | omega | assumption | decide | exact all_len fun _ => rfl | (intro _; omega) | rfl | exact fun e => absurd (List.map_eq_nil_iff.1 e) (by assumption) | (and_intros <;> first | omega | assumption | decide | exact all_len fun _ => rfl), ?_⟩
        obtain ⟨y30, hc16, hm⟩ := bd hm
        refine RA (emit_emitter_put_ok (lit ([(TIns.mk 6 ((p1.getD x21.toNat default).k) (IntKind.wrap .i64 (x20 - 1)) (IntKind.wrap .i64 (x20 - 1)) 0 0)] : List TIns)) x17 l18 v19 _ hc16) [0, 1] ?_
        rintro p σ' hq17 _
        obtain ⟨v31, rfl, rfl⟩ := hq17
        refine RunRest_ops ?_
        refine go ?_
        refine hk _ _ ?_
        clear hk hp k kp
        refine KBlock_n ?_
        refine KThen_n (hk3 _ _ ?_)
        refine W_rn ?_
        refine KBlock_n ?_
        refine KThen_n (hk2 _ _ ?_)
        refine W_rn ?_
        refine KLoopM_n (y30.1, y30.2, (IntKind.wrap .i64 ((IntKind.wrap .i64 (x20 - 1)) + 1)), (IntKind.wrap .i64 (x21 + 1))) v31 hm ?_
        exact ls
       ·rw [if_neg h15] at hm
        refine W_condf rfl (beq_eq_false_iff_ne.2 h15) ?_
        refine W_rg [50, 63] ?_
        by_cases h18 : ((p1.getD x21.toNat default).op) = 6
        ·rw [if_pos h18] at hm
         refine W_condt rfl (beq_iff_eq.2 h18) ?_
         refine W_rg [17, 62, 64, 65] ?_
         refine W_region fun k kp hk hp => ?_
         refine go ?_
         refine RunCall_turn (Ghost_fr 3 rfl) ?_
         simp only [bR, bT, tab, bX, reduceIte, ↓reduceIte, reduceCtorEq, Int.reduceToNat, Nat.reduceDiv, Nat.reduceMod, Nat.reduceLT, Nat.reduceLeDiff, Nat.reduceAdd, Nat.reduceSub, Nat.reduceMul, Nat.reduceEqDiff, Nat.reduceBEq, Nat.reduceBNe, Nat.reduceGT, bZ, List.replicate, List.foldr]
         repeat refine ⟨by first | omega | assumption | decide | exact all_len fun _ => rfl | (intro _; omega) | rfl | exact fun e => absurd (List.map_eq_nil_iff.1 e) (by assumption) | (and_intros <;> first | omega | assumption | decide | exact all_len fun _ => rfl), ?_⟩
         obtain ⟨y32, hc19, hm⟩ := bd hm
         refine RA (emit_emitter_put_ok (lit ([(TIns.mk 7 ((p1.getD x21.toNat default).k) (IntKind.wrap .i64 (x20 - 2)) (IntKind.wrap .i64 (x20 - 2)) (IntKind.wrap .i64 ((IntKind.wrap .i64 (x20 - 2)) + 1)) 0)] : List TIns)) x17 l18 v19 _ hc19) [0, 1] ?_
         rintro p σ' hq20 _
         obtain ⟨v33, rfl, rfl⟩ := hq20
         refine RunRest_ops ?_
         refine go ?_
         refine hk _ _ ?_
         clear hk hp k kp
         refine KBlock_n ?_
         refine KThen_n (hk3 _ _ ?_)
         refine W_rn ?_
         refine KBlock_n ?_
         refine KThen_n (hk2 _ _ ?_)
         refine W_rn ?_
         refine KLoopM_n (y32.1, y32.2, (IntKind.wrap .i64 ((IntKind.wrap .i64 (x20 - 2)) + 1)), (IntKind.wrap .i64 (x21 + 1))) v33 hm ?_
         exact ls
        ·rw [if_neg h18] at hm
         refine W_condf rfl (beq_eq_false_iff_ne.2 h18) ?_
         refine W_rg [62, 77] ?_
         by_cases h21 : ((p1.getD x21.toNat default).op) = 7
         ·rw [if_pos h21] at hm
          refine W_condt rfl (beq_iff_eq.2 h21) ?_
          refine W_rg [9, 17, 76, 78, 79] ?_
          refine W_region fun k kp hk hp => ?_
          refine go ?_
          refine RunCall_turn (Ghost_fr 3 rfl) ?_
          simp only [bR, bT, tab, bX, reduceIte, ↓reduceIte, reduceCtorEq, Int.reduceToNat, Nat.reduceDiv, Nat.reduceMod, Nat.reduceLT, Nat.reduceLeDiff, Nat.reduceAdd, Nat.reduceSub, Nat.reduceMul, Nat.reduceEqDiff, Nat.reduceBEq, Nat.reduceBNe, Nat.reduceGT, bZ, List.replicate, List.foldr]
          repeat refine ⟨by first | omega | assumption | decide | exact all_len fun _ => rfl | (intro _; omega) | rfl | exact fun e => absurd (List.map_eq_nil_iff.1 e) (by assumption) | (and_intros <;> first | omega | assumption | decide | exact all_len fun _ => rfl), ?_⟩
          obtain ⟨y34, hc22, hm⟩ := bd hm
          refine RA (emit_emitter_put_ok (lit ([(TIns.mk 8 0 (IntKind.wrap .i64 (x20 - 3)) (IntKind.wrap .i64 ((IntKind.wrap .i64 (x20 - 3)) + 1)) (IntKind.wrap .i64 ((IntKind.wrap .i64 (x20 - 3)) + 2)) 0)] : List TIns)) x17 l18 v19 _ hc22) [0, 1] ?_
          rintro p σ' hq23 _
          obtain ⟨v35, rfl, rfl⟩ := hq23
          refine RunRest_ops ?_
          refine go ?_
          refine hk _ _ ?_
          clear hk hp k kp
          refine KBlock_n ?_
          refine KThen_n (hk3 _ _ ?_)
          refine W_rn ?_
          refine KBlock_n ?_
          refine KThen_n (hk2 _ _ ?_)
          refine W_rn ?_
          refine KLoopM_n (y34.1, y34.2, (IntKind.wrap .i64 ((IntKind.wrap .i64 (x20 - 3)) + 1)), (IntKind.wrap .i64 (x21 + 1))) v35 hm ?_
          exact ls
         ·rw [if_neg h21] at hm
          refine W_condf rfl (beq_eq_false_iff_ne.2 h21) ?_
          refine W_rg [17, 76, 90] ?_
          by_cases h24 : ((p1.getD x21.toNat default).op) = 8
          ·rw [if_pos h24] at hm
           refine W_condt rfl (beq_iff_eq.2 h24) ?_
           refine W_rg [89, 91, 92] ?_
           refine W_region fun k kp hk hp => ?_
           refine go ?_
           obtain ⟨y36, hc25, hm⟩ := bd hm
           refine RA (emit_emitter_pick_ok (p1.getD x21.toNat default) (IntKind.wrap .i64 (x20 - 2)) x17 l18 v19 _ hc25) [0, 1] ?_
           rintro p σ' hq26 _
           obtain ⟨v37, rfl, rfl⟩ := hq26
           refine RunRest_ops ?_
           refine go ?_
           refine hk _ _ ?_
           clear hk hp k kp
           refine KBlock_n ?_
           refine KThen_n (hk3 _ _ ?_)
           refine W_rn ?_
           refine KBlock_n ?_
           refine KThen_n (hk2 _ _ ?_)
           refine W_rn ?_
           refine KLoopM_n (y36.1, y36.2, (IntKind.wrap .i64 ((IntKind.wrap .i64 (x20 - 2)) + 1)), (IntKind.wrap .i64 (x21 + 1))) v37 hm ?_
           exact ls
          ·rw [if_neg h24] at hm
           refine W_condf rfl (beq_eq_false_iff_ne.2 h24) ?_
           refine W_skip ?_
           refine KBlock_n ?_
           refine KThen_n (hk3 _ _ ?_)
           refine W_rn ?_
           refine KBlock_n ?_
           refine KThen_n (hk2 _ _ ?_)
           refine W_rn ?_
           refine KLoopM_n (x17, l18, (IntKind.wrap .i64 (x20 + 1)), (IntKind.wrap .i64 (x21 + 1))) v19 hm ?_
           exact ls
  ·rw [if_neg h1] at hm
   refine W_condf rfl (decide_eq_false h1) ?_
   refine W_exit ?_
   have ho27 := out_eq hm hr1
   subst ho27
   replace hm : some (x17, l18) = some r := hm1
   refine KThen_x ?_
   refine KLoopM_x ?_
   refine KBlock_hit ?_
   refine KBody_nrm [.box [.osl 1 v19 0 l18.length, .int .i64 x17], .arr 6 v19 118 (l18.map TIns.enc)] ?_
   obtain rfl := Option.some.inj hm
   exact en
end Pam

/- the walk of emit_emitter_step, printed by a program of ours -/
namespace Pam
open Go Go.Proofs
set_option maxRecDepth 100000 in
set_option maxHeartbeats 8000000 in
theorem emit_emitter_step_ok (p1 : TLoop) (p2 : Int) (p3 : List TIns) (v1_ : Nat) (r : (Int × (List TIns))) (hm : emit_emitter_step p1 p2 p3 = some r) : Spec Try.prog 70 [.c (.optr 0 0), .a [.int .i64 p1.op, .int .i64 p1.k, .int .i64 p1.n, .int .i64 p1.to, .tree 4 (p1.f.map TPush.enc), .tree 4 (p1.e.map TPush.enc)]] [.box [.osl 1 v1_ 0 p3.length, .int .i64 p2], .arr 6 v1_ 118 (p3.map TIns.enc)] (fun p σ => ∃ w1_, (p = .t [] ∧ σ = [.box [.osl 1 w1_ 0 r.2.length, .int .i64 r.1], .arr 6 w1_ 118 (r.2.map TIns.enc)])) (fun _ _ => False) := by
 refine Spec_ofD 75 [] Try.func70 rfl rfl rfl (by kernel_rfl) (by simp) ?_
 refine W_eqf ?_
 unfold emit_emitter_step at hm
 refine W_rg [1] ?_
 refine W_seq_k fun k1 hk1 => ?_
 refine W_rg [5, 6] ?_
 by_cases h1 : p1.op = 1
 ·rw [if_pos h1] at hm
  refine W_condt rfl (beq_iff_eq.2 h1) ?_
  refine W_regF [7, 8, 9, 10, 11] fun k kp hk hp => ?_
  refine go ?_
  obtain ⟨y1, hc2, hm⟩ := bd hm
  refine RA (emit_emitter_tree_ok p1.e 2 0 p2 p3 v1_ _ hc2) [0, 1] ?_
  rintro p σ' hq3 _
  obtain ⟨v2, rfl, rfl⟩ := hq3
  refine RunRest_ops ?_
  refine go ?_
  refine hk _ _ ?_
  clear hk hp k kp
  refine W_regF [0, 3, 12, 13, 14, 15, 16, 17] fun k kp hk hp => ?_
  refine go ?_
  refine RunCall_turn (Ghost_fr 3 rfl) ?_
  simp only [bR, bT, tab, bX, reduceIte, ↓reduceIte, reduceCtorEq, Int.reduceToNat, Nat.reduceDiv, Nat.reduceMod, Nat.reduceLT, Nat.reduceLeDiff, Nat.reduceAdd, Nat.reduceSub, Nat.reduceMul, Nat.reduceEqDiff, Nat.reduceBEq, Nat.reduceBNe, Nat.reduceGT, bZ, List.replicate, List.foldr]
  repeat refine ⟨by first | omega | assumption | decide | exact all_len fun _ => rfl | (intro _; omega) | rfl | exact fun e => absurd (List.map_eq_nil_iff.1 e) (by assumption) | (and_intros <;> first | omega | assumption | decide | exact all_len fun _ => rfl), ?_⟩
  obtain ⟨y3, hc4, hm⟩ := bd hm
  refine RA (emit_emitter_put_ok (lit ([(TIns.mk 4 0 2 0 0 p1.to)] : List TIns)) y1.1 y1.2 v2 _ hc4) [0, 1] ?_
  rintro p σ' hq5 _
  obtain ⟨v4, rfl, rfl⟩ := hq5
  refine RunRest_ops ?_
  refine go ?_
  refine hk _ _ ?_
  clear hk hp k kp
  refine W_ret ?_
  refine KThen_r ?_
  refine KBody_ret [.box [.osl 1 v4 0 y3.2.length, .int .i64 y3.1], .arr 6 v4 118 (y3.2.map TIns.enc)] ?_
  obtain rfl := Option.some.inj hm
  exact en
 ·rw [if_neg h1] at hm
  refine W_condf rfl (beq_eq_false_iff_ne.2 h1) ?_
  refine W_skip ?_
  refine KThen_n (hk1 _ _ ?_)
  refine W_joinM (S := (Int × (List TIns))) (V := Nat) [7, 18, 19, 20, 21, 22, 23, 24, 25, 26, 27, 28] (fun (x7, l8) v9 => []) (fun (x7, l8) v9 => [.box [.osl 1 v9 0 l8.length, .int .i64 x7], .arr 6 v9 118 (l8.map TIns.enc), .box [.int .i64 p1.op, .int .i64 p1.k, .int .i64 p1.n, .int .i64 p1.to, .tree 4 (p1.f.map TPush.enc), .tree 4 (p1.e.map TPush.enc)]]) (fun (x7, l8) => emit_emitter_step_j1 p1 x7 l8 = some r) ?_ ?_
  ·skip
   refine W_rg [7, 18, 19] ?_
   by_cases h21 : ¬ p1.op = 2
   ·rw [if_pos h21] at hm
    refine W_condt rfl (bne_iff_ne.2 h21) ?_
    refine W_regF [20, 21, 22, 23, 24] fun k kp hk hp => ?_
    refine go ?_
    obtain ⟨y33, hc22, hm⟩ := bd hm
    refine RA (emit_emitter_tree_ok p1.f 2 0 p2 p3 v1_ _ hc22) [0, 1] ?_
    rintro p σ' hq23 _
    obtain ⟨v34, rfl, rfl⟩ := hq23
    refine RunRest_ops ?_
    refine go ?_
    refine hk _ _ ?_
    clear hk hp k kp
    refine W_region fun k kp hk hp => ?_
    refine go ?_
    refine RunCall_turn (Ghost_fr 3 rfl) ?_
    simp only [bR, bT, tab, bX, reduceIte, ↓reduceIte, reduceCtorEq, Int.reduceToNat, Nat.reduceDiv, Nat.reduceMod, Nat.reduceLT, Nat.reduceLeDiff, Nat.reduceAdd, Nat.reduceSub, Nat.reduceMul, Nat.reduceEqDiff, Nat.reduceBEq, Nat.reduceBNe, Nat.reduceGT, bZ, List.replicate, List.foldr]
    repeat refine ⟨by first | omega | assumption | decide | exact all_len fun _ => rfl | (intro _; omega) | rfl | exact fun e => absurd (List.map_eq_nil_iff.1 e) (by assumption) | (and_intros <;> first | omega | assumption | decide | exact all_len fun _ => rfl), ?_⟩
    obtain ⟨y35, hc24, hm⟩ := bd hm
    refine RA (emit_emitter_put_ok (lit ([(TIns.mk 9 0 1 2 0 0)] : List TIns)) y33.1 y33.2 v34 _ hc24) [0, 1] ?_
    rintro p σ' hq25 _
    obtain ⟨v36, rfl, rfl⟩ := hq25
    refine RunRest_ops ?_
    refine go ?_
    refine hk _ _ ?_
    clear hk hp k kp
    refine KJoinM_n (y35.1, y35.2) v36 hm ?_
    exact ls
   ·rw [if_neg h21] at hm
    refine W_condf rfl (bne_eq_false_iff_eq.2 (Decidable.not_not.1 h21)) ?_
    refine W_skip ?_
    refine KJoinM_n (p2, p3) v1_ hm ?_
    exact ls
  ·rintro ⟨x7, l8⟩ v9 hm
   replace hm : emit_emitter_step_j1 p1 x7 l8 = some r := hm
   refine W_eqm ?_
   unfold emit_emitter_step_j1 at hm
   refine W_regF [29, 30, 31, 32, 33, 34] fun k kp hk hp => ?_
   refine go ?_
   refine RunCall_turn (Ghost_fr 3 rfl) ?_
   simp only [bR, bT, tab, bX, reduceIte, ↓reduceIte, reduceCtorEq, Int.reduceToNat, Nat.reduceDiv, Nat.reduceMod, Nat.reduceLT, Nat.reduceLeDiff, Nat.reduceAdd, Nat.reduceSub, Nat.reduceMul, Nat.reduceEqDiff, Nat.reduceBEq, Nat.reduceBNe, Nat.reduceGT, bZ, List.replicate, List.foldr]
   repeat refine ⟨by first | omega | assumption | decide | exact all_len fun _ => rfl | (intro _; omega) | rfl | exact fun e => absurd (List.map_eq_nil_iff.1 e) (by assumption) | (and_intros <;> first | omega | assumption | decide | exact all_len fun _ => rfl), ?_⟩
   obtain ⟨y10, hc6, hm⟩ := bd hm
   refine RA (emit_emitter_put_ok (lit ([(TIns.mk 10 0 0 0 0 p1.n)] : List TIns)) x7 l8 v9 _ hc6) [0, 1] ?_
   rintro p σ' hq7 _
   obtain ⟨v11, rfl, rfl⟩ := hq7
   refine RunRest_ops ?_
   refine go ?_
   refine hk _ _ ?_
   clear hk hp k kp
   refine W_regF [35, 36, 37, 38, 39, 40] fun k kp hk hp => ?_
   refine go ?_
   obtain ⟨y12, hc8, hm⟩ := bd hm
   refine RA (emit_emitter_tree_ok p1.e 2 p1.n y10.1 y10.2 v11 _ hc8) [0, 1] ?_
   rintro p σ' hq9 _
   obtain ⟨v13, rfl, rfl⟩ := hq9
   refine RunRest_ops ?_
   refine go ?_
   refine hk _ _ ?_
   clear hk hp k kp
   refine W_rg [] ?_
   refine W_joinM (S := (Int × (List TIns) × Int)) (V := Nat) [4, 41, 42, 43, 44, 45, 46, 47, 48, 49] (fun (x16, l17, x19) v18 => [(4, .c (.int .i64 x19))]) (fun (x16, l17, x19) v18 => [.box [.osl 1 v18 0 l17.length, .int .i64 x16], .arr 6 v18 118 (l17.map TIns.enc), .box [.int .i64 p1.op, .int .i64 p1.k, .int .i64 p1.n, .int .i64 p1.to, .tree 4 (p1.f.map TPush.enc), .tree 4 (p1.e.map TPush.enc)], .dead]) (fun (x16, l17, x19) => emit_emitter_step_j2 p1 x16 l17 x19 = some r) ?_ ?_
   ·skip
    refine W_rg [41, 42] ?_
    by_cases h18 : ¬ p1.op = 2
    ·rw [if_pos h18] at hm
     refine W_condt rfl (bne_iff_ne.2 h18) ?_
     refine W_regF [4, 43, 44, 45, 46, 47, 48, 49] fun k kp hk hp => ?_
     refine go ?_
     refine RunCall_turn (Ghost_fr 4 rfl) ?_
     simp only [bR, bT, tab, bX, reduceIte, ↓reduceIte, reduceCtorEq, Int.reduceToNat, Nat.reduceDiv, Nat.reduceMod, Nat.reduceLT, Nat.reduceLeDiff, Nat.reduceAdd, Nat.reduceSub, Nat.reduceMul, Nat.reduceEqDiff, Nat.reduceBEq, Nat.reduceBNe, Nat.reduceGT, bZ, List.replicate, List.foldr]
     repeat refine ⟨by first | omega | assumption | decide | exact all_len fun _ => rfl | (intro _; omega) | rfl | exact fun e => absurd (List.map_eq_nil_iff.1 e) (by assumption) | (and_intros <;> first | omega | assumption | decide | exact all_len fun _ => rfl), ?_⟩
     obtain ⟨y31, hc19, hm⟩ := bd hm
     refine RA (emit_emitter_put_ok (lit ([(TIns.mk 7 p1.k 1 1 2 0)] : List TIns)) y12.1 y12.2 v13 _ hc19) [0, 1] ?_
     rintro p σ' hq20 _
     obtain ⟨v32, rfl, rfl⟩ := hq20
     refine RunRest_ops ?_
     refine go ?_
     refine hk _ _ ?_
     clear hk hp k kp
     refine W_rn ?_
     refine KJoinM_n (y31.1, y31.2, 1) v32 hm ?_
     exact ls
    ·rw [if_neg h18] at hm
     refine W_condf rfl (bne_eq_false_iff_eq.2 (Decidable.not_not.1 h18)) ?_
     refine W_skip ?_
     refine KJoinM_n (y12.1, y12.2, 2) v13 hm ?_
     exact ls
   ·rintro ⟨x16, l17, x19⟩ v18 hm
    replace hm : emit_emitter_step_j2 p1 x16 l17 x19 = some r := hm
    refine W_eqm ?_
    unfold emit_emitter_step_j2 at hm
    refine W_joinM (S := (Int × (List TIns))) (V := Nat) [4, 50, 51, 52, 53, 54, 55, 56, 57, 58, 59, 60, 61] (fun (x22, l23) v24 => []) (fun (x22, l23) v24 => [.box [.osl 1 v24 0 l23.length, .int .i64 x22], .arr 6 v24 118 (l23.map TIns.enc), .box [.int .i64 p1.op, .int .i64 p1.k, .int .i64 p1.n, .int .i64 p1.to, .tree 4 (p1.f.map TPush.enc), .tree 4 (p1.e.map TPush.enc)], .dead]) (fun (x22, l23) => emit_emitter_step_j3 p1 x22 l23 = some r) ?_ ?_
    ·skip
     refine W_rg [50, 51] ?_
     by_cases h15 : ¬ p1.op = 3
     ·rw [if_pos h15] at hm
      refine W_condt rfl (bne_iff_ne.2 h15) ?_
      refine W_region fun k kp hk hp => ?_
      refine go ?_
      refine RunCall_turn (Ghost_fr 4 rfl) ?_
      simp only [bR, bT, tab, bX, reduceIte, ↓reduceIte, reduceCtorEq, Int.reduceToNat, Nat.reduceDiv, Nat.reduceMod, Nat.reduceLT, Nat.reduceLeDiff, Nat.reduceAdd, Nat.reduceSub, Nat.reduceMul, Nat.reduceEqDiff, Nat.reduceBEq, Nat.reduceBNe, Nat.reduceGT, bZ, List.replicate, List.foldr]
      repeat refine ⟨by first | omega | assumption | decide | exact all_len fun _ => rfl | (intro _; omega) | rfl | exact fun e => absurd (List.map_eq_nil_iff.1 e) (by assumption) | (and_intros <;> first | omega | assumption | decide | exact all_len fun _ => rfl), ?_⟩
      obtain ⟨y29, hc16, hm⟩ := bd hm
      refine RA (emit_emitter_put_ok (lit ([(TIns.mk 5 0 x19 0 p1.n p1.to)] : List TIns)) x16 l17 v18 _ hc16) [0, 1] ?_
      rintro p σ' hq17 _
      obtain ⟨v30, rfl, rfl⟩ := hq17
      refine RunRest_ops ?_
      refine go ?_
      refine hk _ _ ?_
      clear hk hp k kp
      refine KJoinM_n (y29.1, y29.2) v30 hm ?_
      exact ls
     ·rw [if_neg h15] at hm
      refine W_condf rfl (bne_eq_false_iff_eq.2 (Decidable.not_not.1 h15)) ?_
      refine W_skip ?_
      refine KJoinM_n (x16, l17) v18 hm ?_
      exact ls
    ·rintro ⟨x22, l23⟩ v24 hm
     replace hm : emit_emitter_step_j3 p1 x22 l23 = some r := hm
     refine W_eqm ?_
     unfold emit_emitter_step_j3 at hm
     refine W_regF [62, 63, 64, 65] fun k kp hk hp => ?_
     refine go ?_
     refine RunCall_turn (Ghost_fr 4 rfl) ?_
     simp only [bR, bT, tab, bX, reduceIte, ↓reduceIte, reduceCtorEq, Int.reduceToNat, Nat.reduceDiv, Nat.reduceMod, Nat.reduceLT, Nat.reduceLeDiff, Nat.reduceAdd, Nat.reduceSub, Nat.reduceMul, Nat.reduceEqDiff, Nat.reduceBEq, Nat.reduceBNe, Nat.reduceGT, bZ, List.replicate, List.foldr]
     repeat refine ⟨by first | omega | assumption | decide | exact all_len fun _ => rfl | (intro _; omega) | rfl | exact fun e => absurd (List.map_eq_nil_iff.1 e) (by assumption) | (and_intros <;> first | omega | assumption | decide | exact all_len fun _ => rfl), ?_⟩
     obtain ⟨y25, hc10, hm⟩ := bd hm
     refine RA (emit_emitter_put_ok (lit ([(TIns.mk 11 0 0 0 0 0)] : List TIns)) x22 l23 v24 _ hc10) [0, 1] ?_
     rintro p σ' hq11 _
     obtain ⟨v26, rfl, rfl⟩ := hq11
     refine RunRest_ops ?_
     refine go ?_
     refine hk _ _ ?_
     clear hk hp k kp
     refine W_rg [66, 67] ?_
     by_cases h12 : p1.op = 3
     ·rw [if_pos h12] at hm
      refine W_condt rfl (beq_iff_eq.2 h12) ?_
      refine W_region fun k kp hk hp => ?_
      refine go ?_
      refine RunCall_turn (Ghost_fr 5 rfl) ?_
      simp only [bR, bT, tab, bX, reduceIte, ↓reduceIte, reduceCtorEq, Int.reduceToNat, Nat.reduceDiv, Nat.reduceMod, Nat.reduceLT, Nat.reduceLeDiff, Nat.reduceAdd, Nat.reduceSub, Nat.reduceMul, Nat.reduceEqDiff, Nat.reduceBEq, Nat.reduceBNe, Nat.reduceGT, bZ, List.replicate, List.foldr]
      repeat refine ⟨by first | omega | assumption | decide | exact all_len fun _ => rfl | (intro _; omega) | rfl | exact fun e => absurd (List.map_eq_nil_iff.1 e) (by assumption) | (and_intros <;> first | omega | assumption | decide | exact all_len fun _ => rfl), ?_⟩
      obtain ⟨y27, hc13, hm⟩ := bd hm
      refine RA (emit_emitter_put_ok (lit ([(TIns.mk 4 0 1 0 0 p1.to)] : List TIns)) y25.1 y25.2 v26 _ hc13) [0, 1] ?_
      rintro p σ' hq14 _
      obtain ⟨v28, rfl, rfl⟩ := hq14
      refine RunRest_ops ?_
      refine go ?_
      refine hk _ _ ?_
      clear hk hp k kp
      refine KBody_nrm [.box [.osl 1 v28 0 y27.2.length, .int .i64 y27.1], .arr 6 v28 118 (y27.2.map TIns.enc)] ?_
      obtain rfl := Option.some.inj hm
      exact en
     ·rw [if_neg h12] at hm
      refine W_condf rfl (beq_eq_false_iff_ne.2 h12) ?_
      refine W_skip ?_
      refine KBody_nrm [.box [.osl 1 v26 0 y25.2.length, .int .i64 y25.1], .arr 6 v26 118 (y25.2.map TIns.enc)] ?_
      obtain rfl := Option.some.inj hm
      exact en
end Pam

/- the walk of code_Cost, printed by a program of ours -/
namespace Pam
open Go Go.Proofs
set_option maxRecDepth 100000 in
set_option maxHeartbeats 8000000 in
theorem code_Cost_ok (p1 : List TIns) (v0_ : Nat) (r : Int) (hm : code_Cost p1 = some r) : Spec Try.prog 71 [.c (.osl 0 v0_ 0 p1.length)] [.arr 6 v0_ 118 (p1.map TIns.enc)] (fun p σ => (p = .c (.int .i64 r) ∧ σ = [.arr 6 v0_ 118 (p1.map TIns.enc)])) (fun _ _ => False) := by
 refine Spec_ofD 47 [.tmp 2] Try.func71 rfl rfl rfl (by kernel_rfl) (by simp) ?_
 refine W_eqf ?_
 unfold code_Cost at hm
 refine W_rg [2] ?_
 refine W_rg [] ?_
 refine W_joinM (S := (Int × Int)) (V := Unit) [0, 2, 3, 4, 5, 7, 8, 9, 10, 11, 12, 13, 14, 15, 16, 17, 18, 19, 20, 21, 22, 23, 24, 25, 26, 27, 28, 29, 30, 31, 32, 33, 34, 35, 36, 37, 38, 39, 40, 41, 42, 43] (fun (x1, x2) _ => [(3, .c (.int .i64 x1)), (5, .c (.int .i64 x2))]) (fun (x1, x2) _ => [.arr 6 v0_ 118 (p1.map TIns.enc)]) (fun (x1, x2) => code_Cost_j1 x1 x2 = some r) ?_ ?_
 ·skip
  refine W_rg [0] ?_
  refine W_block ?_
  obtain ⟨o1, hl1, hm1⟩ := bd hm
  refine W_loopM (S := (Int × Int × Int × Int)) (V := Unit) (O := (Int × Int) ⊕ Int) [2, 3, 4, 5, 7, 8, 10, 11, 12, 13, 14, 15, 16, 17, 18, 19, 20, 21, 22, 23, 24, 25, 26, 27, 28, 29, 30, 31, 32, 33, 34, 35, 36, 37, 38, 39, 40, 41, 42, 43] (fun (x11, x12, x13, x14) _ => [(3, .c (.int .i64 x11)), (4, .c (.int .i64 x12)), (5, .c (.int .i64 x13)), (8, .c (.osl 0 v0_ 0 p1.length)), (10, .c (.int .i64 x14))]) (fun (x11, x12, x13, x14) _ => [.arr 6 v0_ 118 (p1.map TIns.enc)]) _ _ () hl1 ?_ ?_
  ·exact ls
  ·rintro ⟨x11, x12, x13, x14⟩ _ r1 hm hr1
   replace hm : code_Cost_l1 p1 x11 x12 x13 x14 = some r1 := hm
   refine W_eqm ?_
   unfold code_Cost_l1 at hm
   refine W_rg [] ?_
   refine W_seq_k fun k2 hk2 => ?_
   by_cases h2 : x14 < (p1.length : Int)
   ·rw [if_pos h2] at hm
    refine W_condt rfl (decide_eq_true h2) ?_
    refine W_skip ?_
    refine KThen_n (hk2 _ _ ?_)
    refine W_seq_k fun k3 hk3 => ?_
    refine W_block ?_
    obtain ⟨hg3a, hm⟩ := gd hm
    refine W_rgx (em TIns.enc p1 x14.toNat) [11, 12, 13] ?_
    refine W_rg [14, 15, 16] ?_
    refine W_rg [17] ?_
    refine W_block ?_
    refine W_rg [20] ?_
    by_cases h4 : ((p1.getD x14.toNat default).op) = 10
    ·rw [if_pos h4] at hm
     refine W_condt rfl (beq_iff_eq.2 h4) ?_
     refine W_seq_k fun k4 hk4 => ?_
     by_cases h5 : x12 > 1
     ·rw [if_pos h5] at hm
      have h5b : decide (x12 > 1) = true := decide_eq_true h5
      refine W_rgx h5b [4, 5, 18, 19, 21, 22, 23, 24, 25, 26, 27, 28, 29, 30, 31, 32, 33, 34, 35] ?_
      refine W_condt rfl rfl ?_
      refine W_rg [3, 7, 8, 9, 10, 36] ?_
      have ho6 := out_eq hm hr1
      subst ho6
      replace hm : some 0 = some r := hm1
      refine W_ret ?_
      refine KThen_r ?_
      refine KBlock_r ?_
      refine KBlock_r ?_
      refine KThen_r ?_
      refine KLoopM_r ?_
      refine KBlock_r ?_
      refine KJoinM_r ?_
      refine KBody_ret [.arr 6 v0_ 118 (p1.map TIns.enc)] ?_
      obtain rfl := Option.some.inj hm
      exact en
     ·rw [if_neg h5] at hm
      have h5b : decide (x12 > 1) = false := decide_eq_false h5
      refine W_regG [4, 5, 18, 19, 21, 22, 23, 24, 25, 26, 27, 28, 29, 30, 31, 32, 33, 34, 35] fun k kp hk hp => ?_
      refine RunRest_cut 7 ?_
      refine gox h5b ?_
      by_cases h7 : x13 > 0
      ·rw [if_pos h7] at hm
       have h7b : decide (x13 > 0) = true := decide_eq_true h7
       refine RunRest_ops ?_
       refine gox (a2 h5b h7b) ?_
       refine hk _ _ ?_
       clear hk hp k kp
       refine W_condt rfl rfl ?_
       refine W_rg [3, 7, 8, 9, 10, 36] ?_
       have ho8 := out_eq hm hr1
       subst ho8
       replace hm : some 0 = some r := hm1
       refine W_ret ?_
       refine KThen_r ?_
       refine KBlock_r ?_
       refine KBlock_r ?_
       refine KThen_r ?_
       refine KLoopM_r ?_
       refine KBlock_r ?_
       refine KJoinM_r ?_
       refine KBody_ret [.arr 6 v0_ 118 (p1.map TIns.enc)] ?_
       obtain rfl := Option.some.inj hm
       exact en
      ·rw [if_neg h7] at hm
       have h7b : decide (x13 > 0) = false := decide_eq_false h7
       refine RunRest_cut 5 ?_
       refine gox (a2 h5b h7b) ?_
       by_cases h9 : ((p1.getD x14.toNat default).n) < 1
       ·rw [if_pos h9] at hm
        have h9b : decide (((p1.getD x14.toNat default).n) < 1) = true := decide_eq_true h9
        refine RunRest_ops ?_
        refine gox (a2 h5b (a2 h7b h9b)) ?_
        refine hk _ _ ?_
        clear hk hp k kp
        refine W_condt rfl rfl ?_
        refine W_rg [3, 7, 8, 9, 10, 36] ?_
        have ho10 := out_eq hm hr1
        subst ho10
        replace hm : some 0 = some r := hm1
        refine W_ret ?_
        refine KThen_r ?_
        refine KBlock_r ?_
        refine KBlock_r ?_
        refine KThen_r ?_
        refine KLoopM_r ?_
        refine KBlock_r ?_
        refine KJoinM_r ?_
        refine KBody_ret [.arr 6 v0_ 118 (p1.map TIns.enc)] ?_
        obtain rfl := Option.some.inj hm
        exact en
       ·rw [if_neg h9] at hm
        have h9b : decide (((p1.getD x14.toNat default).n) < 1) = false := decide_eq_false h9
        refine RunRest_ops ?_
        refine gox (a2 h5b (a2 h7b h9b)) ?_
        refine hk _ _ ?_
        clear hk hp k kp
        by_cases h11 : ((p1.getD x14.toNat default).n) > 300
        ·rw [if_pos h11] at hm
         refine W_condt rfl (decide_eq_true h11) ?_
         refine W_rg [3, 7, 8, 9, 10, 36] ?_
         have ho12 := out_eq hm hr1
         subst ho12
         replace hm : some 0 = some r := hm1
         refine W_ret ?_
         refine KThen_r ?_
         refine KBlock_r ?_
         refine KBlock_r ?_
         refine KThen_r ?_
         refine KLoopM_r ?_
         refine KBlock_r ?_
         refine KJoinM_r ?_
         refine KBody_ret [.arr 6 v0_ 118 (p1.map TIns.enc)] ?_
         obtain rfl := Option.some.inj hm
         exact en
        ·rw [if_neg h11] at hm
         refine W_condf rfl (decide_eq_false h11) ?_
         refine W_skip ?_
         refine KThen_n (hk4 _ _ ?_)
         refine W_rn ?_
         refine KBlock_n ?_
         refine KBlock_n ?_
         refine KThen_n (hk3 _ _ ?_)
         refine W_rn ?_
         refine KLoopM_n ((IntKind.wrap .i64 (x11 + x12)), (p1.getD x14.toNat default).n, 1, (IntKind.wrap .i64 (x14 + 1))) () hm ?_
         exact ls
    ·rw [if_neg h4] at hm
     refine W_condf rfl (beq_eq_false_iff_ne.2 h4) ?_
     refine W_rg [7, 18, 19, 40] ?_
     by_cases h13 : ((p1.getD x14.toNat default).op) = 11
     ·rw [if_pos h13] at hm
      refine W_condt rfl (beq_iff_eq.2 h13) ?_
      refine W_seq_k fun k5 hk5 => ?_
      refine W_rg [4, 5, 39, 41] ?_
      by_cases h14 : x13 = 0
      ·rw [if_pos h14] at hm
       refine W_condt rfl (beq_iff_eq.2 h14) ?_
       refine W_rg [3, 8, 9, 10, 42] ?_
       have ho15 := out_eq hm hr1
       subst ho15
       replace hm : some 0 = some r := hm1
       refine W_ret ?_
       refine KThen_r ?_
       refine KBlock_r ?_
       refine KBlock_r ?_
       refine KThen_r ?_
       refine KLoopM_r ?_
       refine KBlock_r ?_
       refine KJoinM_r ?_
       refine KBody_ret [.arr 6 v0_ 118 (p1.map TIns.enc)] ?_
       obtain rfl := Option.some.inj hm
       exact en
      ·rw [if_neg h14] at hm
       refine W_condf rfl (beq_eq_false_iff_ne.2 h14) ?_
       refine W_skip ?_
       refine KThen_n (hk5 _ _ ?_)
       refine W_rn ?_
       refine KBlock_n ?_
       refine KBlock_n ?_
       refine KThen_n (hk3 _ _ ?_)
       refine W_rn ?_
       refine KLoopM_n ((IntKind.wrap .i64 (x11 + x12)), 1, 0, (IntKind.wrap .i64 (x14 + 1))) () hm ?_
       exact ls
     ·rw [if_neg h13] at hm
      refine W_condf rfl (beq_eq_false_iff_ne.2 h13) ?_
      refine W_skip ?_
      refine KBlock_n ?_
      refine KBlock_n ?_
      refine KThen_n (hk3 _ _ ?_)
      refine W_rn ?_
      refine KLoopM_n ((IntKind.wrap .i64 (x11 + x12)), x12, x13, (IntKind.wrap .i64 (x14 + 1))) () hm ?_
      exact ls
   ·rw [if_neg h2] at hm
    refine W_condf rfl (decide_eq_false h2) ?_
    refine W_exit ?_
    have ho16 := out_eq hm hr1
    subst ho16
    replace hm : code_Cost_j1 x11 x13 = some r := hm1
    refine KThen_x ?_
    refine KLoopM_x ?_
    refine KBlock_hit ?_
    refine KJoinM_n (x11, x13) () hm ?_
    exact ls
 ·rintro ⟨x1, x2⟩ _ hm
  replace hm : code_Cost_j1 x1 x2 = some r := hm
  refine W_eqm ?_
  unfold code_Cost_j1 at hm
  refine W_seq_k fun k1 hk1 => ?_
  refine W_rg [5, 44] ?_
  by_cases h1 : x2 > 0
  ·rw [if_pos h1] at hm
   refine W_condt rfl (decide_eq_true h1) ?_
   refine W_rg [3, 45] ?_
   refine W_ret ?_
   refine KThen_r ?_
   refine KBody_ret [.arr 6 v0_ 118 (p1.map TIns.enc)] ?_
   obtain rfl := Option.some.inj hm
   exact en
  ·rw [if_neg h1] at hm
   refine W_condf rfl (decide_eq_false h1) ?_
   refine W_skip ?_
   refine KThen_n (hk1 _ _ ?_)
   refine W_rg [3, 45, 46] ?_
   refine W_ret ?_
   refine KBody_ret [.arr 6 v0_ 118 (p1.map TIns.enc)] ?_
   obtain rfl := Option.some.inj hm
   exact en
end Pam

/- the walk of code_judge_reg_1, printed by a program of ours -/
namespace Pam
open Go Go.Proofs
set_option maxRecDepth 100000 in
set_option maxHeartbeats 1000000 in
theorem code_judge_reg_1_ok (p1 : Int) (p2 : Tjudge_code) (r : Bool) (hm : code_judge_reg_1 p1 p2 = some r) : Spec Try.prog 166 [.c (.int .i64 p1), .c (.optr 0 0)] [.box [.int .i64 p2.m_.cells, .int .i64 p2.m_.regs, .int .i64 p2.m_.cost, .tree 1 (p2.m_.put.map (eK .i64)), .tree 1 (p2.m_.bools.map (eK .i64)), .tree 1 (p2.m_.get.map (eK .i64)), .tree 6 (p2.m_.code.map TIns.enc)]] (fun p σ => (p = .c (.bool r) ∧ σ = [.box [.int .i64 p2.m_.cells, .int .i64 p2.m_.regs, .int .i64 p2.m_.cost, .tree 1 (p2.m_.put.map (eK .i64)), .tree 1 (p2.m_.bools.map (eK .i64)), .tree 1 (p2.m_.get.map (eK .i64)), .tree 6 (p2.m_.code.map TIns.enc)]])) (fun _ _ => False) := by
 refine Spec_ofD 13 [.tmp 3] Try.func166 rfl rfl rfl (by kernel_rfl) (by simp) ?_
 refine W_eqf ?_
 unfold code_judge_reg_1 at hm
 refine W_rg [3] ?_
 by_cases h1 : p1 < 0
 ·rw [if_pos h1] at hm
  have h1b : decide (p1 < 0) = true := decide_eq_true h1
  refine W_rgx h1b [0, 1, 4, 5, 6, 7, 8, 9, 10, 11, 12] ?_
  refine W_ret ?_
  refine KBody_ret [.box [.int .i64 p2.m_.cells, .int .i64 p2.m_.regs, .int .i64 p2.m_.cost, .tree 1 (p2.m_.put.map (eK .i64)), .tree 1 (p2.m_.bools.map (eK .i64)), .tree 1 (p2.m_.get.map (eK .i64)), .tree 6 (p2.m_.code.map TIns.enc)]] ?_
  obtain rfl := Option.some.inj hm
  exact en
 ·rw [if_neg h1] at hm
  have h1b : decide (p1 < 0) = false := decide_eq_false h1
  refine W_rgx h1b [0, 1, 4, 5, 6, 7, 8, 9, 10, 11, 12] ?_
  refine W_ret ?_
  refine KBody_ret [.box [.int .i64 p2.m_.cells, .int .i64 p2.m_.regs, .int .i64 p2.m_.cost, .tree 1 (p2.m_.put.map (eK .i64)), .tree 1 (p2.m_.bools.map (eK .i64)), .tree 1 (p2.m_.get.map (eK .i64)), .tree 6 (p2.m_.code.map TIns.enc)]] ?_
  obtain rfl := Option.some.inj hm
  exact en
end Pam

/- the walk of slices_IndexFunc_int_int, printed by a program of ours -/
namespace Pam
open Go Go.Proofs
set_option maxRecDepth 100000 in
set_option maxHeartbeats 1000000 in
theorem slices_IndexFunc_int_int_ok (p1 : List Int) (p2 : Tjudge_code) (r : Int) (hm : slices_IndexFunc_int_int p1 p2 = some r) : Spec Try.prog 104 [.c (.tree 1 (p1.map (eK .i64))), .c (.fn 166 [.optr 0 0])] [.box [.int .i64 p2.m_.cells, .int .i64 p2.m_.regs, .int .i64 p2.m_.cost, .tree 1 (p2.m_.put.map (eK .i64)), .tree 1 (p2.m_.bools.map (eK .i64)), .tree 1 (p2.m_.get.map (eK .i64)), .tree 6 (p2.m_.code.map TIns.enc)]] (fun p σ => (p = .c (.int .i64 r) ∧ σ = [.box [.int .i64 p2.m_.cells, .int .i64 p2.m_.regs, .int .i64 p2.m_.cost, .tree 1 (p2.m_.put.map (eK .i64)), .tree 1 (p2.m_.bools.map (eK .i64)), .tree 1 (p2.m_.get.map (eK .i64)), .tree 6 (p2.m_.code.map TIns.enc)]])) (fun _ _ => False) := by
 refine Spec_ofD 19 [.tmp 4] Try.func104 rfl rfl rfl (by kernel_rfl) (by simp) ?_
 refine W_eqf ?_
 unfold slices_IndexFunc_int_int at hm
 refine W_rg [4] ?_
 refine W_joinM (S := Unit) (V := Unit) [0, 1, 4, 5, 6, 7, 8, 9, 10, 11, 12, 13, 14, 15, 16, 17, 18] (fun _ _ => []) (fun _ _ => [.box [.int .i64 p2.m_.cells, .int .i64 p2.m_.regs, .int .i64 p2.m_.cost, .tree 1 (p2.m_.put.map (eK .i64)), .tree 1 (p2.m_.bools.map (eK .i64)), .tree 1 (p2.m_.get.map (eK .i64)), .tree 6 (p2.m_.code.map TIns.enc)]]) (fun _ => slices_IndexFunc_int_int_j1 = some r) ?_ ?_
 ·skip
  refine W_rg [6] ?_
  refine W_block ?_
  obtain ⟨o1, hl1, hm1⟩ := bd hm
  refine W_loopM (S := Int) (V := Unit) (O := Unit ⊕ Int) [4, 5, 8, 9, 10, 11, 12, 13, 14, 15, 16, 17, 18] (fun x3 _ => [(8, .c (.int .i64 x3))]) (fun x3 _ => [.box [.int .i64 p2.m_.cells, .int .i64 p2.m_.regs, .int .i64 p2.m_.cost, .tree 1 (p2.m_.put.map (eK .i64)), .tree 1 (p2.m_.bools.map (eK .i64)), .tree 1 (p2.m_.get.map (eK .i64)), .tree 6 (p2.m_.code.map TIns.enc)]]) _ _ () hl1 ?_ ?_
  ·exact ls
  ·rintro x3 _ r1 hm hr1
   replace hm : slices_IndexFunc_int_int_l1 p1 p2 x3 = some r1 := hm
   refine W_eqm ?_
   unfold slices_IndexFunc_int_int_l1 at hm
   refine W_rg [] ?_
   refine W_seq_k fun k1 hk1 => ?_
   by_cases h1 : x3 < (p1.length : Int)
   ·rw [if_pos h1] at hm
    refine W_condt rfl (decide_eq_true h1) ?_
    refine W_skip ?_
    refine KThen_n (hk1 _ _ ?_)
    refine W_seq_k fun k2 hk2 => ?_
    refine W_block ?_
    refine W_rg [9, 10] ?_
    obtain ⟨hg2a, hm⟩ := gd hm
    refine W_regF [11, 12, 13, 14, 15] fun k kp hk hp => ?_
    refine gox (em (eK .i64) p1 x3.toNat) ?_
    obtain ⟨y4, hc3, hm⟩ := bd hm
    refine RA (code_judge_reg_1_ok (p1.getD x3.toNat default) p2  _ hc3) [0] ?_
    rintro p σ' hq4 _
    obtain ⟨rfl, rfl⟩ := hq4
    refine RunRest_ops ?_
    refine gox (em (eK .i64) p1 x3.toNat) ?_
    refine hk _ _ ?_
    clear hk hp k kp
    by_cases h5 : y4 = true
    ·rw [if_pos h5] at hm
     refine W_condt rfl (h5) ?_
     refine W_rg [0, 1, 5, 7, 8, 16, 17] ?_
     have ho6 := out_eq hm hr1
     subst ho6
     replace hm : some x3 = some r := hm1
     refine W_ret ?_
     refine KBlock_r ?_
     refine KThen_r ?_
     refine KLoopM_r ?_
     refine KBlock_r ?_
     refine KJoinM_r ?_
     refine KBody_ret [.box [.int .i64 p2.m_.cells, .int .i64 p2.m_.regs, .int .i64 p2.m_.cost, .tree 1 (p2.m_.put.map (eK .i64)), .tree 1 (p2.m_.bools.map (eK .i64)), .tree 1 (p2.m_.get.map (eK .i64)), .tree 6 (p2.m_.code.map TIns.enc)]] ?_
     obtain rfl := Option.some.inj hm
     exact en
    ·rw [if_neg h5] at hm
     refine W_condf rfl (Bool.eq_false_iff.2 h5) ?_
     refine W_skip ?_
     refine KBlock_n ?_
     refine KThen_n (hk2 _ _ ?_)
     refine W_rn ?_
     refine KLoopM_n (IntKind.wrap .i64 (x3 + 1)) () hm ?_
     exact ls
   ·rw [if_neg h1] at hm
    refine W_condf rfl (decide_eq_false h1) ?_
    refine W_exit ?_
    have ho7 := out_eq hm hr1
    subst ho7
    replace hm : slices_IndexFunc_int_int_j1 = some r := hm1
    refine KThen_x ?_
    refine KLoopM_x ?_
    refine KBlock_hit ?_
    refine KJoinM_n () () hm ?_
    exact ls
 ·rintro _ _ hm
  replace hm : slices_IndexFunc_int_int_j1 = some r := hm
  refine W_eqm ?_
  unfold slices_IndexFunc_int_int_j1 at hm
  refine W_rg [] ?_
  refine W_ret ?_
  refine KBody_ret [.box [.int .i64 p2.m_.cells, .int .i64 p2.m_.regs, .int .i64 p2.m_.cost, .tree 1 (p2.m_.put.map (eK .i64)), .tree 1 (p2.m_.bools.map (eK .i64)), .tree 1 (p2.m_.get.map (eK .i64)), .tree 6 (p2.m_.code.map TIns.enc)]] ?_
  obtain rfl := Option.some.inj hm
  exact en
end Pam

/- the walk of slices_ContainsFunc_int_int, printed by a program of ours -/
namespace Pam
open Go Go.Proofs
set_option maxRecDepth 100000 in
set_option maxHeartbeats 1000000 in
theorem slices_ContainsFunc_int_int_ok (p1 : List Int) (p2 : Tjudge_code) (r : Bool) (hm : slices_ContainsFunc_int_int p1 p2 = some r) : Spec Try.prog 135 [.c (.tree 1 (p1.map (eK .i64))), .c (.fn 166 [.optr 0 0])] [.box [.int .i64 p2.m_.cells, .int .i64 p2.m_.regs, .int .i64 p2.m_.cost, .tree 1 (p2.m_.put.map (eK .i64)), .tree 1 (p2.m_.bools.map (eK .i64)), .tree 1 (p2.m_.get.map (eK .i64)), .tree 6 (p2.m_.code.map TIns.enc)]] (fun p σ => (p = .c (.bool r) ∧ σ = [.box [.int .i64 p2.m_.cells, .int .i64 p2.m_.regs, .int .i64 p2.m_.cost, .tree 1 (p2.m_.put.map (eK .i64)), .tree 1 (p2.m_.bools.map (eK .i64)), .tree 1 (p2.m_.get.map (eK .i64)), .tree 6 (p2.m_.code.map TIns.enc)]])) (fun _ _ => False) := by
 refine Spec_ofD 9 [.tmp 4] Try.func135 rfl rfl rfl (by kernel_rfl) (by simp) ?_
 refine W_eqf ?_
 unfold slices_ContainsFunc_int_int at hm
 refine W_rg [4] ?_
 refine W_regF [0, 1, 5, 6, 7, 8] fun k kp hk hp => ?_
 refine go ?_
 obtain ⟨y1, hc1, hm⟩ := bd hm
 refine RA (slices_IndexFunc_int_int_ok p1 p2  _ hc1) [0] ?_
 rintro p σ' hq2 _
 obtain ⟨rfl, rfl⟩ := hq2
 refine RunRest_ops ?_
 refine go ?_
 refine hk _ _ ?_
 clear hk hp k kp
 refine W_ret ?_
 refine KBody_ret [.box [.int .i64 p2.m_.cells, .int .i64 p2.m_.regs, .int .i64 p2.m_.cost, .tree 1 (p2.m_.put.map (eK .i64)), .tree 1 (p2.m_.bools.map (eK .i64)), .tree 1 (p2.m_.get.map (eK .i64)), .tree 6 (p2.m_.code.map TIns.enc)]] ?_
 obtain rfl := Option.some.inj hm
 exact en
end Pam

/- the walk of code_judge_reg, printed by a program of ours -/
namespace Pam
open Go Go.Proofs
set_option maxRecDepth 100000 in
set_option maxHeartbeats 1000000 in
theorem code_judge_reg_ok (p1 : Tjudge_code) (p2 : List Int) (r : Bool) (hm : code_judge_reg p1 p2 = some r) : SpecF Try.prog 143 [.a [.int .i64 p1.m_.cells, .int .i64 p1.m_.regs, .int .i64 p1.m_.cost, .tree 1 (p1.m_.put.map (eK .i64)), .tree 1 (p1.m_.bools.map (eK .i64)), .tree 1 (p1.m_.get.map (eK .i64)), .tree 6 (p1.m_.code.map TIns.enc)], .c (.tree 1 (p2.map (eK .i64)))] (.c (.bool r)) := by
 refine Spec_ofD 9 [.tmp 4] Try.func143 rfl rfl rfl (by kernel_rfl) (by simp) ?_
 refine W_eqf ?_
 unfold code_judge_reg at hm
 refine W_rg [0, 4] ?_
 refine W_regF [1, 2, 5, 6, 7, 8] fun k kp hk hp => ?_
 refine go ?_
 obtain ⟨y1, hc1, hm⟩ := bd hm
 refine RA (slices_ContainsFunc_int_int_ok p2 p1  _ hc1) [0] ?_
 rintro p σ' hq2 _
 obtain ⟨rfl, rfl⟩ := hq2
 refine RunRest_ops ?_
 refine go ?_
 refine hk _ _ ?_
 clear hk hp k kp
 refine W_ret ?_
 refine KBody_ret [] ?_
 obtain rfl := Option.some.inj hm
 exact en
end Pam

/- the walk of code_judge_cells, printed by a program of ours -/
namespace Pam
open Go Go.Proofs
set_option maxRecDepth 100000 in
set_option maxHeartbeats 1000000 in
theorem code_judge_cells_ok (p1 : Tjudge_code) (p2 : Int) (p3 : Int) (r : Bool) (hm : code_judge_cells p1 p2 p3 = some r) : SpecF Try.prog 144 [.a [.int .i64 p1.m_.cells, .int .i64 p1.m_.regs, .int .i64 p1.m_.cost, .tree 1 (p1.m_.put.map (eK .i64)), .tree 1 (p1.m_.bools.map (eK .i64)), .tree 1 (p1.m_.get.map (eK .i64)), .tree 6 (p1.m_.code.map TIns.enc)], .c (.int .i64 p2), .c (.int .i64 p3)] (.c (.bool r)) := by
 refine Spec_ofD 29 [.tmp 6] Try.func144 rfl rfl rfl (by kernel_rfl) (by simp) ?_
 refine W_eqf ?_
 unfold code_judge_cells at hm
 refine W_rg [0, 6] ?_
 by_cases h1 : p3 ≥ 1
 ·rw [if_pos h1] at hm
  have h1b : decide (p3 ≥ 1) = true := decide_eq_true h1
  refine W_regG [1, 2, 3, 7, 8, 9, 10, 11, 12, 13, 14, 15, 16, 17, 18, 19, 20, 21, 22, 23, 24, 25, 26, 27, 28] fun k kp hk hp => ?_
  refine RunRest_cut 10 ?_
  refine gox h1b ?_
  by_cases h2 : p3 ≤ p1.m_.cells
  ·rw [if_pos h2] at hm
   have h2b : decide (p3 ≤ p1.m_.cells) = true := decide_eq_true h2
   refine RunRest_cut 4 ?_
   refine gox (a2 h1b h2b) ?_
   by_cases h3 : p2 ≥ 0
   ·rw [if_pos h3] at hm
    have h3b : decide (p2 ≥ 0) = true := decide_eq_true h3
    refine RunRest_ops ?_
    refine gox (a2 h1b (a2 h2b h3b)) ?_
    refine hk _ _ ?_
    clear hk hp k kp
    refine W_ret ?_
    refine KBody_ret [] ?_
    obtain rfl := Option.some.inj hm
    exact en
   ·rw [if_neg h3] at hm
    have h3b : decide (p2 ≥ 0) = false := decide_eq_false h3
    refine RunRest_ops ?_
    refine gox (a2 h1b (a2 h2b h3b)) ?_
    refine hk _ _ ?_
    clear hk hp k kp
    refine W_ret ?_
    refine KBody_ret [] ?_
    obtain rfl := Option.some.inj hm
    exact en
  ·rw [if_neg h2] at hm
   have h2b : decide (p3 ≤ p1.m_.cells) = false := decide_eq_false h2
   refine RunRest_ops ?_
   refine gox (a2 h1b h2b) ?_
   refine hk _ _ ?_
   clear hk hp k kp
   refine W_ret ?_
   refine KBody_ret [] ?_
   obtain rfl := Option.some.inj hm
   exact en
 ·rw [if_neg h1] at hm
  have h1b : decide (p3 ≥ 1) = false := decide_eq_false h1
  refine W_rgx h1b [1, 2, 3, 7, 8, 9, 10, 11, 12, 13, 14, 15, 16, 17, 18, 19, 20, 21, 22, 23, 24, 25, 26, 27, 28] ?_
  refine W_ret ?_
  refine KBody_ret [] ?_
  obtain rfl := Option.some.inj hm
  exact en
end Pam

/- the walk of code_judge_fits, printed by a program of ours -/
namespace Pam
open Go Go.Proofs
set_option maxRecDepth 100000 in
set_option maxHeartbeats 8000000 in
theorem code_judge_fits_ok (p1 : Tjudge_code) (p2 : TIns) (r : Bool) (hm : code_judge_fits p1 p2 = some r) : SpecF Try.prog 116 [.a [.int .i64 p1.m_.cells, .int .i64 p1.m_.regs, .int .i64 p1.m_.cost, .tree 1 (p1.m_.put.map (eK .i64)), .tree 1 (p1.m_.bools.map (eK .i64)), .tree 1 (p1.m_.get.map (eK .i64)), .tree 6 (p1.m_.code.map TIns.enc)], .a [.int .i64 p2.op, .int .i64 p2.k, .int .i64 p2.r_, .int .i64 p2.a, .int .i64 p2.b, .int .i64 p2.n]] (.c (.bool r)) := by
 refine Spec_ofD 124 [.tmp 4] Try.func116 rfl rfl rfl (by kernel_rfl) (by simp) ?_
 refine W_eqf ?_
 unfold code_judge_fits at hm
 refine W_rg [0, 1, 4] ?_
 refine W_regF [5, 6, 8, 9, 10, 11, 12, 13, 14] fun k kp hk hp => ?_
 refine go ?_
 obtain ⟨y1, hc1, hm⟩ := bd hm
 refine RP (fun _ => kinds_Op_ok p2.k _ hc1) ?_
 refine RunRest_ops ?_
 refine go ?_
 refine hk _ _ ?_
 clear hk hp k kp
 refine W_seq_k fun k1 hk1 => ?_
 refine W_rg [15] ?_
 refine W_block ?_
 refine W_rg [18] ?_
 by_cases h2 : p2.op = 1
 ·rw [if_pos h2] at hm
  refine W_condt rfl (beq_iff_eq.2 h2) ?_
  refine W_regF [2, 3, 7, 16, 17, 19, 20, 21, 22, 23] fun k kp hk hp => ?_
  refine go ?_
  refine RunCall_turn (Ghost_fr 2 rfl) ?_
  simp only [bR, bT, tab, bX, reduceIte, ↓reduceIte, reduceCtorEq, Int.reduceToNat, Nat.reduceDiv, Nat.reduceMod, Nat.reduceLT, Nat.reduceLeDiff, Nat.reduceAdd, Nat.reduceSub, Nat.reduceMul, Nat.reduceEqDiff, Nat.reduceBEq, Nat.reduceBNe, Nat.reduceGT, bZ, List.replicate, List.foldr]
  repeat refine ⟨by first | omega | assumption | decide | exact all_len fun _ => rfl | (intro _; omega) | rfl | exact fun e => absurd (List.map_eq_nil_iff.1 e) (by assumption) | (and_intros <;> first | omega | assumption | decide | exact all_len fun _ => rfl), ?_⟩
  obtain ⟨y2, hc3, hm⟩ := bd hm
  refine RP (fun _ => code_judge_reg_ok p1 (lit ([p2.r_] : List Int)) _ hc3) ?_
  refine RunRest_ops ?_
  refine go ?_
  refine hk _ _ ?_
  clear hk hp k kp
  refine W_ret ?_
  refine KBlock_r ?_
  refine KThen_r ?_
  refine KBody_ret [] ?_
  obtain rfl := Option.some.inj hm
  exact en
 ·rw [if_neg h2] at hm
  refine W_condf rfl (beq_eq_false_iff_ne.2 h2) ?_
  refine W_joinM (S := Bool) (V := Unit) [17, 24, 25, 26] (fun b3 _ => [(24, .c (.bool b3))]) (fun b3 _ => [.box [.int .i64 p1.m_.cells, .int .i64 p1.m_.regs, .int .i64 p1.m_.cost, .tree 1 (p1.m_.put.map (eK .i64)), .tree 1 (p1.m_.bools.map (eK .i64)), .tree 1 (p1.m_.get.map (eK .i64)), .tree 6 (p1.m_.code.map TIns.enc)], .box [.int .i64 p2.op, .int .i64 p2.k, .int .i64 p2.r_, .int .i64 p2.a, .int .i64 p2.b, .int .i64 p2.n]]) (fun b3 => code_judge_fits_j1 p1 p2 y1 b3 = some r) ?_ ?_
  ·skip
   refine W_rg [17, 25] ?_
   by_cases h27 : p2.op = 2
   ·rw [if_pos h27] at hm
    refine W_condt rfl (beq_iff_eq.2 h27) ?_
    refine W_skip ?_
    refine KJoinM_n (p2.op == 2) () hm ?_
    exact ls
   ·rw [if_neg h27] at hm
    refine W_condf rfl (beq_eq_false_iff_ne.2 h27) ?_
    refine W_rn ?_
    refine KJoinM_n (p2.op == 4) () hm ?_
    exact ls
  ·rintro b3 _ hm
   replace hm : code_judge_fits_j1 p1 p2 y1 b3 = some r := hm
   refine W_eqm ?_
   unfold code_judge_fits_j1 at hm
   by_cases h4 : b3 = true
   ·rw [if_pos h4] at hm
    refine W_condt rfl (h4) ?_
    refine W_regF [2, 3, 7, 16, 24, 27, 28, 29, 30, 31, 32, 33, 34, 35, 36, 37] fun k kp hk hp => ?_
    refine go ?_
    refine RunCall_turn (Ghost_fr 2 rfl) ?_
    simp only [bR, bT, tab, bX, reduceIte, ↓reduceIte, reduceCtorEq, Int.reduceToNat, Nat.reduceDiv, Nat.reduceMod, Nat.reduceLT, Nat.reduceLeDiff, Nat.reduceAdd, Nat.reduceSub, Nat.reduceMul, Nat.reduceEqDiff, Nat.reduceBEq, Nat.reduceBNe, Nat.reduceGT, bZ, List.replicate, List.foldr]
    repeat refine ⟨by first | omega | assumption | decide | exact all_len fun _ => rfl | (intro _; omega) | rfl | exact fun e => absurd (List.map_eq_nil_iff.1 e) (by assumption) | (and_intros <;> first | omega | assumption | decide | exact all_len fun _ => rfl), ?_⟩
    obtain ⟨y4, hc5, hm⟩ := bd hm
    refine RP (fun _ => code_judge_reg_ok p1 (lit ([p2.r_] : List Int)) _ hc5) ?_
    by_cases h6 : y4 = true
    ·rw [if_pos h6] at hm
     have h6b : y4 = true := h6
     refine RunRest_ops ?_
     refine gox h6b ?_
     obtain ⟨y5, hc7, hm⟩ := bd hm
     refine RP (fun _ => code_judge_cells_ok p1 p2.n 1 _ hc7) ?_
     refine RunRest_ops ?_
     refine gox h6b ?_
     refine hk _ _ ?_
     clear hk hp k kp
     refine W_ret ?_
     refine KBlock_r ?_
     refine KThen_r ?_
     refine KBody_ret [] ?_
     obtain rfl := Option.some.inj hm
     exact en
    ·rw [if_neg h6] at hm
     have h6b : y4 = false := Bool.eq_false_iff.2 h6
     refine RunRest_ops ?_
     refine gox h6b ?_
     refine hk _ _ ?_
     clear hk hp k kp
     refine W_ret ?_
     refine KBlock_r ?_
     refine KThen_r ?_
     refine KBody_ret [] ?_
     obtain rfl := Option.some.inj hm
     exact en
   ·rw [if_neg h4] at hm
    refine W_condf rfl (Bool.eq_false_iff.2 h4) ?_
    refine W_joinM (S := Bool) (V := Unit) [24, 38, 39, 40] (fun b6 _ => [(38, .c (.bool b6))]) (fun b6 _ => [.box [.int .i64 p1.m_.cells, .int .i64 p1.m_.regs, .int .i64 p1.m_.cost, .tree 1 (p1.m_.put.map (eK .i64)), .tree 1 (p1.m_.bools.map (eK .i64)), .tree 1 (p1.m_.get.map (eK .i64)), .tree 6 (p1.m_.code.map TIns.enc)], .box [.int .i64 p2.op, .int .i64 p2.k, .int .i64 p2.r_, .int .i64 p2.a, .int .i64 p2.b, .int .i64 p2.n]]) (fun b6 => code_judge_fits_j2 p1 p2 y1 b6 = some r) ?_ ?_
    ·skip
     refine W_rg [24, 39] ?_
     by_cases h26 : p2.op = 3
     ·rw [if_pos h26] at hm
      refine W_condt rfl (beq_iff_eq.2 h26) ?_
      refine W_skip ?_
      refine KJoinM_n (p2.op == 3) () hm ?_
      exact ls
     ·rw [if_neg h26] at hm
      refine W_condf rfl (beq_eq_false_iff_ne.2 h26) ?_
      refine W_rn ?_
      refine KJoinM_n (p2.op == 5) () hm ?_
      exact ls
    ·rintro b6 _ hm
     replace hm : code_judge_fits_j2 p1 p2 y1 b6 = some r := hm
     refine W_eqm ?_
     unfold code_judge_fits_j2 at hm
     by_cases h8 : b6 = true
     ·rw [if_pos h8] at hm
      refine W_condt rfl (h8) ?_
      refine W_regF [2, 3, 7, 16, 38, 41, 42, 43, 44, 45, 46, 47, 48, 49, 50, 51, 52, 53, 54, 55] fun k kp hk hp => ?_
      refine go ?_
      refine RunCall_turn (Ghost_fr 2 rfl) ?_
      simp only [bR, bT, tab, bX, reduceIte, ↓reduceIte, reduceCtorEq, Int.reduceToNat, Nat.reduceDiv, Nat.reduceMod, Nat.reduceLT, Nat.reduceLeDiff, Nat.reduceAdd, Nat.reduceSub, Nat.reduceMul, Nat.reduceEqDiff, Nat.reduceBEq, Nat.reduceBNe, Nat.reduceGT, bZ, List.replicate, List.foldr]
      repeat refine ⟨by first | omega | assumption | decide | exact all_len fun _ => rfl | (intro _; omega) | rfl | exact fun e => absurd (List.map_eq_nil_iff.1 e) (by assumption) | (and_intros <;> first | omega | assumption | decide | exact all_len fun _ => rfl), ?_⟩
      obtain ⟨y7, hc9, hm⟩ := bd hm
      refine RP (fun _ => code_judge_reg_ok p1 (lit ([p2.r_, p2.a] : List Int)) _ hc9) ?_
      by_cases h10 : y7 = true
      ·rw [if_pos h10] at hm
       have h10b : y7 = true := h10
       refine RunRest_ops ?_
       refine gox h10b ?_
       obtain ⟨y8, hc11, hm⟩ := bd hm
       refine RP (fun _ => code_judge_cells_ok p1 p2.n p2.b _ hc11) ?_
       refine RunRest_ops ?_
       refine gox h10b ?_
       refine hk _ _ ?_
       clear hk hp k kp
       refine W_ret ?_
       refine KBlock_r ?_
       refine KThen_r ?_
       refine KBody_ret [] ?_
       obtain rfl := Option.some.inj hm
       exact en
      ·rw [if_neg h10] at hm
       have h10b : y7 = false := Bool.eq_false_iff.2 h10
       refine RunRest_ops ?_
       refine gox h10b ?_
       refine hk _ _ ?_
       clear hk hp k kp
       refine W_ret ?_
       refine KBlock_r ?_
       refine KThen_r ?_
       refine KBody_ret [] ?_
       obtain rfl := Option.some.inj hm
       exact en
     ·rw [if_neg h8] at hm
      refine W_condf rfl (Bool.eq_false_iff.2 h8) ?_
      refine W_rg [38, 57] ?_
      by_cases h12 : p2.op = 6
      ·rw [if_pos h12] at hm
       refine W_condt rfl (beq_iff_eq.2 h12) ?_
       refine W_regF [2, 3, 7, 16, 56, 58, 59, 60, 61, 62, 63, 64, 65, 66, 67, 68] fun k kp hk hp => ?_
       refine go ?_
       refine RunCall_turn (Ghost_fr 2 rfl) ?_
       simp only [bR, bT, tab, bX, reduceIte, ↓reduceIte, reduceCtorEq, Int.reduceToNat, Nat.reduceDiv, Nat.reduceMod, Nat.reduceLT, Nat.reduceLeDiff, Nat.reduceAdd, Nat.reduceSub, Nat.reduceMul, Nat.reduceEqDiff, Nat.reduceBEq, Nat.reduceBNe, Nat.reduceGT, bZ, List.replicate, List.foldr]
       repeat refine ⟨by first | omega | assumption | decide | exact all_len fun _ => rfl | (intro _; omega) | rfl | exact fun e => absurd (List.map_eq_nil_iff.1 e) (by assumption) | (and_intros <;> first | omega | assumption | decide | exact all_len fun _ => rfl), ?_⟩
       obtain ⟨y9, hc13, hm⟩ := bd hm
       refine RP (fun _ => code_judge_reg_ok p1 (lit ([p2.r_, p2.a] : List Int)) _ hc13) ?_
       by_cases h14 : y9 = true
       ·rw [if_pos h14] at hm
        have h14b : y9 = true := h14
        refine RunRest_ops ?_
        refine gox h14b ?_
        refine hk _ _ ?_
        clear hk hp k kp
        refine W_ret ?_
        refine KBlock_r ?_
        refine KThen_r ?_
        refine KBody_ret [] ?_
        obtain rfl := Option.some.inj hm
        exact en
       ·rw [if_neg h14] at hm
        have h14b : y9 = false := Bool.eq_false_iff.2 h14
        refine RunRest_ops ?_
        refine gox h14b ?_
        refine hk _ _ ?_
        clear hk hp k kp
        refine W_ret ?_
        refine KBlock_r ?_
        refine KThen_r ?_
        refine KBody_ret [] ?_
        obtain rfl := Option.some.inj hm
        exact en
      ·rw [if_neg h12] at hm
       refine W_condf rfl (beq_eq_false_iff_ne.2 h12) ?_
       refine W_rg [56, 70] ?_
       by_cases h15 : p2.op = 7
       ·rw [if_pos h15] at hm
        refine W_condt rfl (beq_iff_eq.2 h15) ?_
        refine W_regF [2, 3, 7, 16, 69, 71, 72, 73, 74, 75, 76, 77, 78, 79, 80, 81, 82, 83] fun k kp hk hp => ?_
        refine go ?_
        refine RunCall_turn (Ghost_fr 2 rfl) ?_
        simp only [bR, bT, tab, bX, reduceIte, ↓reduceIte, reduceCtorEq, Int.reduceToNat, Nat.reduceDiv, Nat.reduceMod, Nat.reduceLT, Nat.reduceLeDiff, Nat.reduceAdd, Nat.reduceSub, Nat.reduceMul, Nat.reduceEqDiff, Nat.reduceBEq, Nat.reduceBNe, Nat.reduceGT, bZ, List.replicate, List.foldr]
        repeat refine ⟨by first | omega | assumption | decide | exact all_len fun _ => rfl | (intro _; omega) | rfl | exact fun e => absurd (List.map_eq_nil_iff.1 e) (by assumption) | (and_intros <;> first | omega | assumption | decide | exact all_len fun _ => rfl), ?_⟩
        obtain ⟨y10, hc16, hm⟩ := bd hm
        refine RP (fun _ => code_judge_reg_ok p1 (lit ([p2.r_, p2.a, p2.b] : List Int)) _ hc16) ?_
        by_cases h17 : y10 = true
        ·rw [if_pos h17] at hm
         have h17b : y10 = true := h17
         refine RunRest_ops ?_
         refine gox h17b ?_
         refine hk _ _ ?_
         clear hk hp k kp
         refine W_ret ?_
         refine KBlock_r ?_
         refine KThen_r ?_
         refine KBody_ret [] ?_
         obtain rfl := Option.some.inj hm
         exact en
        ·rw [if_neg h17] at hm
         have h17b : y10 = false := Bool.eq_false_iff.2 h17
         refine RunRest_ops ?_
         refine gox h17b ?_
         refine hk _ _ ?_
         clear hk hp k kp
         refine W_ret ?_
         refine KBlock_r ?_
         refine KThen_r ?_
         refine KBody_ret [] ?_
         obtain rfl := Option.some.inj hm
         exact en
       ·rw [if_neg h15] at hm
        refine W_condf rfl (beq_eq_false_iff_ne.2 h15) ?_
        refine W_rg [7, 69, 85] ?_
        by_cases h18 : p2.op = 8
        ·rw [if_pos h18] at hm
         refine W_condt rfl (beq_iff_eq.2 h18) ?_
         refine W_regF [2, 3, 16, 84, 86, 87, 88, 89, 90, 91, 92, 93, 94] fun k kp hk hp => ?_
         refine go ?_
         refine RunCall_turn (Ghost_fr 2 rfl) ?_
         simp only [bR, bT, tab, bX, reduceIte, ↓reduceIte, reduceCtorEq, Int.reduceToNat, Nat.reduceDiv, Nat.reduceMod, Nat.reduceLT, Nat.reduceLeDiff, Nat.reduceAdd, Nat.reduceSub, Nat.reduceMul, Nat.reduceEqDiff, Nat.reduceBEq, Nat.reduceBNe, Nat.reduceGT, bZ, List.replicate, List.foldr]
         repeat refine ⟨by first | omega | assumption | decide | exact all_len fun _ => rfl | (intro _; omega) | rfl | exact fun e => absurd (List.map_eq_nil_iff.1 e) (by assumption) | (and_intros <;> first | omega | assumption | decide | exact all_len fun _ => rfl), ?_⟩
         obtain ⟨y11, hc19, hm⟩ := bd hm
         refine RP (fun _ => code_judge_reg_ok p1 (lit ([p2.r_, p2.a, p2.b] : List Int)) _ hc19) ?_
         refine RunRest_ops ?_
         refine go ?_
         refine hk _ _ ?_
         clear hk hp k kp
         refine W_ret ?_
         refine KBlock_r ?_
         refine KThen_r ?_
         refine KBody_ret [] ?_
         obtain rfl := Option.some.inj hm
         exact en
        ·rw [if_neg h18] at hm
         refine W_condf rfl (beq_eq_false_iff_ne.2 h18) ?_
         refine W_rg [84, 96] ?_
         by_cases h20 : p2.op = 9
         ·rw [if_pos h20] at hm
          refine W_condt rfl (beq_iff_eq.2 h20) ?_
          refine W_regF [2, 3, 16, 95, 97, 98, 99, 100, 101, 102, 103] fun k kp hk hp => ?_
          refine go ?_
          refine RunCall_turn (Ghost_fr 2 rfl) ?_
          simp only [bR, bT, tab, bX, reduceIte, ↓reduceIte, reduceCtorEq, Int.reduceToNat, Nat.reduceDiv, Nat.reduceMod, Nat.reduceLT, Nat.reduceLeDiff, Nat.reduceAdd, Nat.reduceSub, Nat.reduceMul, Nat.reduceEqDiff, Nat.reduceBEq, Nat.reduceBNe, Nat.reduceGT, bZ, List.replicate, List.foldr]
          repeat refine ⟨by first | omega | assumption | decide | exact all_len fun _ => rfl | (intro _; omega) | rfl | exact fun e => absurd (List.map_eq_nil_iff.1 e) (by assumption) | (and_intros <;> first | omega | assumption | decide | exact all_len fun _ => rfl), ?_⟩
          obtain ⟨y12, hc21, hm⟩ := bd hm
          refine RP (fun _ => code_judge_reg_ok p1 (lit ([p2.r_, p2.a] : List Int)) _ hc21) ?_
          refine RunRest_ops ?_
          refine go ?_
          refine hk _ _ ?_
          clear hk hp k kp
          refine W_ret ?_
          refine KBlock_r ?_
          refine KThen_r ?_
          refine KBody_ret [] ?_
          obtain rfl := Option.some.inj hm
          exact en
         ·rw [if_neg h20] at hm
          refine W_condf rfl (beq_eq_false_iff_ne.2 h20) ?_
          refine W_rg [16, 95, 105] ?_
          by_cases h22 : p2.op = 10
          ·rw [if_pos h22] at hm
           refine W_condt rfl (beq_iff_eq.2 h22) ?_
           refine W_regF [2, 3, 104, 106, 107, 108, 109, 110, 111, 112, 113, 114, 115, 116, 117, 118, 119, 120] fun k kp hk hp => ?_
           refine go ?_
           refine RunCall_turn (Ghost_fr 2 rfl) ?_
           simp only [bR, bT, tab, bX, reduceIte, ↓reduceIte, reduceCtorEq, Int.reduceToNat, Nat.reduceDiv, Nat.reduceMod, Nat.reduceLT, Nat.reduceLeDiff, Nat.reduceAdd, Nat.reduceSub, Nat.reduceMul, Nat.reduceEqDiff, Nat.reduceBEq, Nat.reduceBNe, Nat.reduceGT, bZ, List.replicate, List.foldr]
           repeat refine ⟨by first | omega | assumption | decide | exact all_len fun _ => rfl | (intro _; omega) | rfl | exact fun e => absurd (List.map_eq_nil_iff.1 e) (by assumption) | (and_intros <;> first | omega | assumption | decide | exact all_len fun _ => rfl), ?_⟩
           obtain ⟨y13, hc23, hm⟩ := bd hm
           refine RP (fun _ => code_judge_reg_ok p1 (lit ([p2.r_] : List Int)) _ hc23) ?_
           by_cases h24 : y13 = true
           ·rw [if_pos h24] at hm
            have h24b : y13 = true := h24
            refine RunRest_cut 6 ?_
            refine gox h24b ?_
            by_cases h25 : p2.n ≥ 1
            ·rw [if_pos h25] at hm
             have h25b : decide (p2.n ≥ 1) = true := decide_eq_true h25
             refine RunRest_ops ?_
             refine gox (a2 h24b h25b) ?_
             refine hk _ _ ?_
             clear hk hp k kp
             refine W_ret ?_
             refine KBlock_r ?_
             refine KThen_r ?_
             refine KBody_ret [] ?_
             obtain rfl := Option.some.inj hm
             exact en
            ·rw [if_neg h25] at hm
             have h25b : decide (p2.n ≥ 1) = false := decide_eq_false h25
             refine RunRest_ops ?_
             refine gox (a2 h24b h25b) ?_
             refine hk _ _ ?_
             clear hk hp k kp
             refine W_ret ?_
             refine KBlock_r ?_
             refine KThen_r ?_
             refine KBody_ret [] ?_
             obtain rfl := Option.some.inj hm
             exact en
           ·rw [if_neg h24] at hm
            have h24b : y13 = false := Bool.eq_false_iff.2 h24
            refine RunRest_ops ?_
            refine gox h24b ?_
            refine hk _ _ ?_
            clear hk hp k kp
            refine W_ret ?_
            refine KBlock_r ?_
            refine KThen_r ?_
            refine KBody_ret [] ?_
            obtain rfl := Option.some.inj hm
            exact en
          ·rw [if_neg h22] at hm
           refine W_condf rfl (beq_eq_false_iff_ne.2 h22) ?_
           refine W_skip ?_
           refine KBlock_n ?_
           refine KThen_n (hk1 _ _ ?_)
           refine W_rg [2, 3, 104, 121, 122, 123] ?_
           refine W_ret ?_
           refine KBody_ret [] ?_
           obtain rfl := Option.some.inj hm
           exact en
end Pam

/- the walk of code_Cost_2, printed by a program of ours -/
namespace Pam
open Go Go.Proofs
set_option maxRecDepth 100000 in
set_option maxHeartbeats 8000000 in
theorem code_Cost_2_ok (p1 : List TIns) (r : Int) (hm : code_Cost_2 p1 = some r) : SpecF Try.prog 71 [.c (.tree 6 (p1.map TIns.enc))] (.c (.int .i64 r)) := by
 refine Spec_ofD 47 [.tmp 2] Try.func71 rfl rfl rfl (by kernel_rfl) (by simp) ?_
 refine W_eqf ?_
 unfold code_Cost_2 at hm
 refine W_rg [2] ?_
 refine W_rg [] ?_
 refine W_joinM (S := (Int × Int)) (V := Unit) [0, 2, 3, 4, 5, 7, 8, 9, 10, 11, 12, 13, 14, 15, 16, 17, 18, 19, 20, 21, 22, 23, 24, 25, 26, 27, 28, 29, 30, 31, 32, 33, 34, 35, 36, 37, 38, 39, 40, 41, 42, 43] (fun (x1, x2) _ => [(3, .c (.int .i64 x1)), (5, .c (.int .i64 x2))]) (fun (x1, x2) _ => []) (fun (x1, x2) => code_Cost_2_j1 x1 x2 = some r) ?_ ?_
 ·skip
  refine W_rg [0] ?_
  refine W_block ?_
  obtain ⟨o1, hl1, hm1⟩ := bd hm
  refine W_loopM (S := (Int × Int × Int × Int)) (V := Unit) (O := (Int × Int) ⊕ Int) [2, 3, 4, 5, 7, 10, 11, 12, 13, 14, 15, 16, 17, 18, 19, 20, 21, 22, 23, 24, 25, 26, 27, 28, 29, 30, 31, 32, 33, 34, 35, 36, 37, 38, 39, 40, 41, 42, 43] (fun (x11, x12, x13, x14) _ => [(3, .c (.int .i64 x11)), (4, .c (.int .i64 x12)), (5, .c (.int .i64 x13)), (10, .c (.int .i64 x14))]) (fun (x11, x12, x13, x14) _ => []) _ _ () hl1 ?_ ?_
  ·exact ls
  ·rintro ⟨x11, x12, x13, x14⟩ _ r1 hm hr1
   replace hm : code_Cost_2_l1 p1 x11 x12 x13 x14 = some r1 := hm
   refine W_eqm ?_
   unfold code_Cost_2_l1 at hm
   refine W_rg [] ?_
   refine W_seq_k fun k2 hk2 => ?_
   by_cases h2 : x14 < (p1.length : Int)
   ·rw [if_pos h2] at hm
    refine W_condt rfl (decide_eq_true h2) ?_
    refine W_skip ?_
    refine KThen_n (hk2 _ _ ?_)
    refine W_seq_k fun k3 hk3 => ?_
    refine W_block ?_
    obtain ⟨hg3a, hm⟩ := gd hm
    refine W_rgx (em TIns.enc p1 x14.toNat) [11, 12, 13] ?_
    refine W_rg [14, 15, 16] ?_
    refine W_rg [17] ?_
    refine W_block ?_
    refine W_rg [20] ?_
    by_cases h4 : ((p1.getD x14.toNat default).op) = 10
    ·rw [if_pos h4] at hm
     refine W_condt rfl (beq_iff_eq.2 h4) ?_
     refine W_seq_k fun k4 hk4 => ?_
     by_cases h5 : x12 > 1
     ·rw [if_pos h5] at hm
      have h5b : decide (x12 > 1) = true := decide_eq_true h5
      refine W_rgx h5b [4, 5, 18, 19, 21, 22, 23, 24, 25, 26, 27, 28, 29, 30, 31, 32, 33, 34, 35] ?_
      refine W_condt rfl rfl ?_
      refine W_rg [3, 7, 8, 9, 10, 36] ?_
      have ho6 := out_eq hm hr1
      subst ho6
      replace hm : some 0 = some r := hm1
      refine W_ret ?_
      refine KThen_r ?_
      refine KBlock_r ?_
      refine KBlock_r ?_
      refine KThen_r ?_
      refine KLoopM_r ?_
      refine KBlock_r ?_
      refine KJoinM_r ?_
      refine KBody_ret [] ?_
      obtain rfl := Option.some.inj hm
      exact en
     ·rw [if_neg h5] at hm
      have h5b : decide (x12 > 1) = false := decide_eq_false h5
      refine W_regG [4, 5, 18, 19, 21, 22, 23, 24, 25, 26, 27, 28, 29, 30, 31, 32, 33, 34, 35] fun k kp hk hp => ?_
      refine RunRest_cut 7 ?_
      refine gox h5b ?_
      by_cases h7 : x13 > 0
      ·rw [if_pos h7] at hm
       have h7b : decide (x13 > 0) = true := decide_eq_true h7
       refine RunRest_ops ?_
       refine gox (a2 h5b h7b) ?_
       refine hk _ _ ?_
       clear hk hp k kp
       refine W_condt rfl rfl ?_
       refine W_rg [3, 7, 8, 9, 10, 36] ?_
       have ho8 := out_eq hm hr1
       subst ho8
       replace hm : some 0 = some r := hm1
       refine W_ret ?_
       refine KThen_r ?_
       refine KBlock_r ?_
       refine KBlock_r ?_
       refine KThen_r ?_
       refine KLoopM_r ?_
       refine KBlock_r ?_
       refine KJoinM_r ?_
       refine KBody_ret [] ?_
       obtain rfl := Option.some.inj hm
       exact en
      ·rw [if_neg h7] at hm
       have h7b : decide (x13 > 0) = false := decide_eq_false h7
       refine RunRest_cut 5 ?_
       refine gox (a2 h5b h7b) ?_
       by_cases h9 : ((p1.getD x14.toNat default).n) < 1
       ·rw [if_pos h9] at hm
        have h9b : decide (((p1.getD x14.toNat default).n) < 1) = true := decide_eq_true h9
        refine RunRest_ops ?_
        refine gox (a2 h5b (a2 h7b h9b)) ?_
        refine hk _ _ ?_
        clear hk hp k kp
        refine W_condt rfl rfl ?_
        refine W_rg [3, 7, 8, 9, 10, 36] ?_
        have ho10 := out_eq hm hr1
        subst ho10
        replace hm : some 0 = some r := hm1
        refine W_ret ?_
        refine KThen_r ?_
        refine KBlock_r ?_
        refine KBlock_r ?_
        refine KThen_r ?_
        refine KLoopM_r ?_
        refine KBlock_r ?_
        refine KJoinM_r ?_
        refine KBody_ret [] ?_
        obtain rfl := Option.some.inj hm
        exact en
       ·rw [if_neg h9] at hm
        have h9b : decide (((p1.getD x14.toNat default).n) < 1) = false := decide_eq_false h9
        refine RunRest_ops ?_
        refine gox (a2 h5b (a2 h7b h9b)) ?_
        refine hk _ _ ?_
        clear hk hp k kp
        by_cases h11 : ((p1.getD x14.toNat default).n) > 300
        ·rw [if_pos h11] at hm
         refine W_condt rfl (decide_eq_true h11) ?_
         refine W_rg [3, 7, 8, 9, 10, 36] ?_
         have ho12 := out_eq hm hr1
         subst ho12
         replace hm : some 0 = some r := hm1
         refine W_ret ?_
         refine KThen_r ?_
         refine KBlock_r ?_
         refine KBlock_r ?_
         refine KThen_r ?_
         refine KLoopM_r ?_
         refine KBlock_r ?_
         refine KJoinM_r ?_
         refine KBody_ret [] ?_
         obtain rfl := Option.some.inj hm
         exact en
        ·rw [if_neg h11] at hm
         refine W_condf rfl (decide_eq_false h11) ?_
         refine W_skip ?_
         refine KThen_n (hk4 _ _ ?_)
         refine W_rn ?_
         refine KBlock_n ?_
         refine KBlock_n ?_
         refine KThen_n (hk3 _ _ ?_)
         refine W_rn ?_
         refine KLoopM_n ((IntKind.wrap .i64 (x11 + x12)), (p1.getD x14.toNat default).n, 1, (IntKind.wrap .i64 (x14 + 1))) () hm ?_
         exact ls
    ·rw [if_neg h4] at hm
     refine W_condf rfl (beq_eq_false_iff_ne.2 h4) ?_
     refine W_rg [7, 18, 19, 40] ?_
     by_cases h13 : ((p1.getD x14.toNat default).op) = 11
     ·rw [if_pos h13] at hm
      refine W_condt rfl (beq_iff_eq.2 h13) ?_
      refine W_seq_k fun k5 hk5 => ?_
      refine W_rg [4, 5, 39, 41] ?_
      by_cases h14 : x13 = 0
      ·rw [if_pos h14] at hm
       refine W_condt rfl (beq_iff_eq.2 h14) ?_
       refine W_rg [3, 8, 9, 10, 42] ?_
       have ho15 := out_eq hm hr1
       subst ho15
       replace hm : some 0 = some r := hm1
       refine W_ret ?_
       refine KThen_r ?_
       refine KBlock_r ?_
       refine KBlock_r ?_
       refine KThen_r ?_
       refine KLoopM_r ?_
       refine KBlock_r ?_
       refine KJoinM_r ?_
       refine KBody_ret [] ?_
       obtain rfl := Option.some.inj hm
       exact en
      ·rw [if_neg h14] at hm
       refine W_condf rfl (beq_eq_false_iff_ne.2 h14) ?_
       refine W_skip ?_
       refine KThen_n (hk5 _ _ ?_)
       refine W_rn ?_
       refine KBlock_n ?_
       refine KBlock_n ?_
       refine KThen_n (hk3 _ _ ?_)
       refine W_rn ?_
       refine KLoopM_n ((IntKind.wrap .i64 (x11 + x12)), 1, 0, (IntKind.wrap .i64 (x14 + 1))) () hm ?_
       exact ls
     ·rw [if_neg h13] at hm
      refine W_condf rfl (beq_eq_false_iff_ne.2 h13) ?_
      refine W_skip ?_
      refine KBlock_n ?_
      refine KBlock_n ?_
      refine KThen_n (hk3 _ _ ?_)
      refine W_rn ?_
      refine KLoopM_n ((IntKind.wrap .i64 (x11 + x12)), x12, x13, (IntKind.wrap .i64 (x14 + 1))) () hm ?_
      exact ls
   ·rw [if_neg h2] at hm
    refine W_condf rfl (decide_eq_false h2) ?_
    refine W_exit ?_
    have ho16 := out_eq hm hr1
    subst ho16
    replace hm : code_Cost_2_j1 x11 x13 = some r := hm1
    refine KThen_x ?_
    refine KLoopM_x ?_
    refine KBlock_hit ?_
    refine KJoinM_n (x11, x13) () hm ?_
    exact ls
 ·rintro ⟨x1, x2⟩ _ hm
  replace hm : code_Cost_2_j1 x1 x2 = some r := hm
  refine W_eqm ?_
  unfold code_Cost_2_j1 at hm
  refine W_seq_k fun k1 hk1 => ?_
  refine W_rg [5, 44] ?_
  by_cases h1 : x2 > 0
  ·rw [if_pos h1] at hm
   refine W_condt rfl (decide_eq_true h1) ?_
   refine W_rg [3, 45] ?_
   refine W_ret ?_
   refine KThen_r ?_
   refine KBody_ret [] ?_
   obtain rfl := Option.some.inj hm
   exact en
  ·rw [if_neg h1] at hm
   refine W_condf rfl (decide_eq_false h1) ?_
   refine W_skip ?_
   refine KThen_n (hk1 _ _ ?_)
   refine W_rg [3, 45, 46] ?_
   refine W_ret ?_
   refine KBody_ret [] ?_
   obtain rfl := Option.some.inj hm
   exact en
end Pam

/- the walk of code_Check, printed by a program of ours -/
namespace Pam
open Go Go.Proofs
set_option maxRecDepth 100000 in
set_option maxHeartbeats 8000000 in
theorem code_Check_ok (p1 : TImage) (r : TFault) (hm : code_Check p1 = some r) : SpecF Try.prog 72 [.a [.int .i64 p1.cells, .int .i64 p1.regs, .int .i64 p1.cost, .tree 1 (p1.put.map (eK .i64)), .tree 1 (p1.bools.map (eK .i64)), .tree 1 (p1.get.map (eK .i64)), .tree 6 (p1.code.map TIns.enc)]] (.a [.int .i64 ((r).code), .int .i64 ((r).at_)]) := by
 refine Spec_ofD 116 [.cell 2 33] Try.func72 rfl rfl rfl (by kernel_rfl) (by simp) ?_
 refine W_eqf ?_
 unfold code_Check at hm
 refine W_rg [0] ?_
 refine W_seq_k fun k1 hk1 => ?_
 refine W_regG [10, 11, 12, 13, 14, 15, 16, 17, 18, 19, 20, 21, 22, 23, 24, 25, 26] fun k kp hk hp => ?_
 refine RunRest_cut 4 ?_
 refine go ?_
 by_cases h1 : p1.cells < 1
 ·rw [if_pos h1] at hm
  have h1b : decide (p1.cells < 1) = true := decide_eq_true h1
  refine RunRest_ops ?_
  refine gox h1b ?_
  refine hk _ _ ?_
  clear hk hp k kp
  refine W_condt rfl rfl ?_
  refine W_rg [1, 27, 28] ?_
  refine W_ret ?_
  refine KThen_r ?_
  refine KBody_ret [] ?_
  obtain rfl := Option.some.inj hm
  exact en
 ·rw [if_neg h1] at hm
  have h1b : decide (p1.cells < 1) = false := decide_eq_false h1
  refine RunRest_cut 5 ?_
  refine gox h1b ?_
  by_cases h2 : p1.cells > 6000
  ·rw [if_pos h2] at hm
   have h2b : decide (p1.cells > 6000) = true := decide_eq_true h2
   refine RunRest_ops ?_
   refine gox (a2 h1b h2b) ?_
   refine hk _ _ ?_
   clear hk hp k kp
   refine W_condt rfl rfl ?_
   refine W_rg [1, 27, 28] ?_
   refine W_ret ?_
   refine KThen_r ?_
   refine KBody_ret [] ?_
   obtain rfl := Option.some.inj hm
   exact en
  ·rw [if_neg h2] at hm
   have h2b : decide (p1.cells > 6000) = false := decide_eq_false h2
   refine RunRest_cut 5 ?_
   refine gox (a2 h1b h2b) ?_
   by_cases h3 : p1.regs < 1
   ·rw [if_pos h3] at hm
    have h3b : decide (p1.regs < 1) = true := decide_eq_true h3
    refine RunRest_ops ?_
    refine gox (a2 h1b (a2 h2b h3b)) ?_
    refine hk _ _ ?_
    clear hk hp k kp
    refine W_condt rfl rfl ?_
    refine W_rg [1, 27, 28] ?_
    refine W_ret ?_
    refine KThen_r ?_
    refine KBody_ret [] ?_
    obtain rfl := Option.some.inj hm
    exact en
   ·rw [if_neg h3] at hm
    have h3b : decide (p1.regs < 1) = false := decide_eq_false h3
    refine RunRest_ops ?_
    refine gox (a2 h1b (a2 h2b h3b)) ?_
    refine hk _ _ ?_
    clear hk hp k kp
    by_cases h4 : p1.regs > 40
    ·rw [if_pos h4] at hm
     refine W_condt rfl (decide_eq_true h4) ?_
     refine W_rg [1, 27, 28] ?_
     refine W_ret ?_
     refine KThen_r ?_
     refine KBody_ret [] ?_
     obtain rfl := Option.some.inj hm
     exact en
    ·rw [if_neg h4] at hm
     refine W_condf rfl (decide_eq_false h4) ?_
     refine W_skip ?_
     refine KThen_n (hk1 _ _ ?_)
     refine W_seq_k fun k2 hk2 => ?_
     refine W_regG [27, 29, 30, 31, 32, 33, 34, 35, 36, 37, 38, 39, 40, 41, 42, 43, 44, 45, 46, 47, 48, 49] fun k kp hk hp => ?_
     refine RunRest_cut 5 ?_
     refine go ?_
     by_cases h5 : (p1.put.length : Int) > 6000
     ·rw [if_pos h5] at hm
      have h5b : decide ((p1.put.length : Int) > 6000) = true := decide_eq_true h5
      refine RunRest_ops ?_
      refine gox h5b ?_
      refine hk _ _ ?_
      clear hk hp k kp
      refine W_condt rfl rfl ?_
      refine W_rg [1, 50, 51] ?_
      refine W_ret ?_
      refine KThen_r ?_
      refine KBody_ret [] ?_
      obtain rfl := Option.some.inj hm
      exact en
     ·rw [if_neg h5] at hm
      have h5b : decide ((p1.put.length : Int) > 6000) = false := decide_eq_false h5
      refine RunRest_cut 6 ?_
      refine gox h5b ?_
      by_cases h6 : (p1.bools.length : Int) > 6000
      ·rw [if_pos h6] at hm
       have h6b : decide ((p1.bools.length : Int) > 6000) = true := decide_eq_true h6
       refine RunRest_ops ?_
       refine gox (a2 h5b h6b) ?_
       refine hk _ _ ?_
       clear hk hp k kp
       refine W_condt rfl rfl ?_
       refine W_rg [1, 50, 51] ?_
       refine W_ret ?_
       refine KThen_r ?_
       refine KBody_ret [] ?_
       obtain rfl := Option.some.inj hm
       exact en
      ·rw [if_neg h6] at hm
       have h6b : decide ((p1.bools.length : Int) > 6000) = false := decide_eq_false h6
       refine RunRest_cut 6 ?_
       refine gox (a2 h5b h6b) ?_
       by_cases h7 : (p1.get.length : Int) > 120000
       ·rw [if_pos h7] at hm
        have h7b : decide ((p1.get.length : Int) > 120000) = true := decide_eq_true h7
        refine RunRest_ops ?_
        refine gox (a2 h5b (a2 h6b h7b)) ?_
        refine hk _ _ ?_
        clear hk hp k kp
        refine W_condt rfl rfl ?_
        refine W_rg [1, 50, 51] ?_
        refine W_ret ?_
        refine KThen_r ?_
        refine KBody_ret [] ?_
        obtain rfl := Option.some.inj hm
        exact en
       ·rw [if_neg h7] at hm
        have h7b : decide ((p1.get.length : Int) > 120000) = false := decide_eq_false h7
        refine RunRest_ops ?_
        refine gox (a2 h5b (a2 h6b h7b)) ?_
        refine hk _ _ ?_
        clear hk hp k kp
        by_cases h8 : (p1.code.length : Int) > 200000
        ·rw [if_pos h8] at hm
         refine W_condt rfl (decide_eq_true h8) ?_
         refine W_rg [1, 50, 51] ?_
         refine W_ret ?_
         refine KThen_r ?_
         refine KBody_ret [] ?_
         obtain rfl := Option.some.inj hm
         exact en
        ·rw [if_neg h8] at hm
         refine W_condf rfl (decide_eq_false h8) ?_
         refine W_skip ?_
         refine KThen_n (hk2 _ _ ?_)
         refine W_joinM (S := Unit) (V := Unit) [4, 6, 50, 52, 53, 54, 55, 56, 57, 58, 59, 60, 61, 62, 63, 64, 65, 66, 67, 68, 69, 70, 71, 72, 73, 74, 75, 76, 77, 78, 79, 80] (fun _ _ => []) (fun _ _ => [.box [.int .i64 p1.cells, .int .i64 p1.regs, .int .i64 p1.cost, .tree 1 (p1.put.map (eK .i64)), .tree 1 (p1.bools.map (eK .i64)), .tree 1 (p1.get.map (eK .i64)), .tree 6 (p1.code.map TIns.enc)], .box [.int .i64 0, .int .i64 0]]) (fun _ => code_Check_j1 p1 = some r) ?_ ?_
         ·skip
          refine W_rg [50, 52, 53, 54, 55, 56, 57] ?_
          refine W_eqa [.box [.int .i64 p1.cells, .int .i64 p1.regs, .int .i64 p1.cost, .tree 1 (p1.put.map (eK .i64)), .tree 1 (p1.bools.map (eK .i64)), .tree 1 (p1.get.map (eK .i64)), .tree 6 (p1.code.map TIns.enc)], .box [.int .i64 0, .int .i64 0], .arr 1 0 22 ((lit ([p1.put, p1.bools, p1.get] : List (List Int))).map (eL 1 (eK .i64)))] ?_
          refine W_block ?_
          obtain ⟨o2, hl2, hm2⟩ := bd hm
          refine W_loopM (S := Int) (V := Unit) (O := Unit ⊕ TFault) [4, 6, 58, 60, 61, 62, 63, 64, 65, 66, 67, 68, 69, 70, 71, 72, 73, 74, 75, 76, 77, 78, 79, 80] (fun x9 _ => [(58, .c (.osl 2 0 0 3)), (60, .c (.int .i64 x9))]) (fun x9 _ => [.box [.int .i64 p1.cells, .int .i64 p1.regs, .int .i64 p1.cost, .tree 1 (p1.put.map (eK .i64)), .tree 1 (p1.bools.map (eK .i64)), .tree 1 (p1.get.map (eK .i64)), .tree 6 (p1.code.map TIns.enc)], .box [.int .i64 0, .int .i64 0], .arr 1 0 22 ((lit ([p1.put, p1.bools, p1.get] : List (List Int))).map (eL 1 (eK .i64)))]) _ _ () hl2 ?_ ?_
          ·exact ls
          ·rintro x9 _ r2 hm hr2
           replace hm : code_Check_l2 p1 x9 = some r2 := hm
           refine W_eqm ?_
           unfold code_Check_l2 at hm
           refine W_rg [] ?_
           refine W_seq_k fun k6 hk6 => ?_
           by_cases h20 : x9 < (3 : Int)
           ·rw [if_pos h20] at hm
            refine W_condt rfl (decide_eq_true h20) ?_
            refine W_skip ?_
            refine KThen_n (hk6 _ _ ?_)
            refine W_joinM (S := Unit) (V := Unit) [4, 6, 58, 61, 62, 63, 64, 65, 66, 67, 68, 69, 70, 71, 72, 73, 74, 75, 76, 77, 78, 79] (fun _ _ => [(58, .c (.osl 2 0 0 3))]) (fun _ _ => [.box [.int .i64 p1.cells, .int .i64 p1.regs, .int .i64 p1.cost, .tree 1 (p1.put.map (eK .i64)), .tree 1 (p1.bools.map (eK .i64)), .tree 1 (p1.get.map (eK .i64)), .tree 6 (p1.code.map TIns.enc)], .box [.int .i64 0, .int .i64 0], .arr 1 0 22 ((lit ([p1.put, p1.bools, p1.get] : List (List Int))).map (eL 1 (eK .i64)))]) (fun _ => code_Check_j3 x9 = some r2) ?_ ?_
            ·skip
             refine W_block ?_
             obtain ⟨hg21a, hm⟩ := gd hm
             refine W_rgx (em (eL 1 (eK .i64)) (lit ([p1.put, p1.bools, p1.get] : List (List Int))) x9.toNat) [61, 62, 63] ?_
             refine W_rg [4] ?_
             refine W_block ?_
             obtain ⟨o3, hl3, hm3⟩ := bd hm
             refine W_loopM (S := Int) (V := Unit) (O := Unit ⊕ TFault) [6, 58, 66, 67, 68, 69, 70, 71, 72, 73, 74, 75, 76, 77, 78, 79] (fun x12 _ => [(58, .c (.osl 2 0 0 3)), (66, .c (.int .i64 x12))]) (fun x12 _ => [.box [.int .i64 p1.cells, .int .i64 p1.regs, .int .i64 p1.cost, .tree 1 (p1.put.map (eK .i64)), .tree 1 (p1.bools.map (eK .i64)), .tree 1 (p1.get.map (eK .i64)), .tree 6 (p1.code.map TIns.enc)], .box [.int .i64 0, .int .i64 0], .arr 1 0 22 ((lit ([p1.put, p1.bools, p1.get] : List (List Int))).map (eL 1 (eK .i64)))]) _ _ () hl3 ?_ ?_
             ·exact ls
             ·rintro x12 _ r3 hm hr3
              replace hm : code_Check_l3 p1 x9 x12 = some r3 := hm
              refine W_eqm ?_
              unfold code_Check_l3 at hm
              refine W_rg [] ?_
              refine W_seq_k fun k7 hk7 => ?_
              by_cases h22 : x12 < (((lit ([p1.put, p1.bools, p1.get] : List (List Int))).getD x9.toNat default).length : Int)
              ·rw [if_pos h22] at hm
               refine W_condt rfl (decide_eq_true h22) ?_
               refine W_skip ?_
               refine KThen_n (hk7 _ _ ?_)
               refine W_seq_k fun k8 hk8 => ?_
               refine W_block ?_
               obtain ⟨hg23a, hm⟩ := gd hm
               refine W_rgx (em (eK .i64) ((lit ([p1.put, p1.bools, p1.get] : List (List Int))).getD x9.toNat default) x12.toNat) [67, 68, 69] ?_
               by_cases h24 : (((lit ([p1.put, p1.bools, p1.get] : List (List Int))).getD x9.toNat default).getD x12.toNat default) < 0
               ·rw [if_pos h24] at hm
                have h24b : decide ((((lit ([p1.put, p1.bools, p1.get] : List (List Int))).getD x9.toNat default).getD x12.toNat default) < 0) = true := decide_eq_true h24
                refine W_rgx h24b [6, 70, 71, 72, 73, 74, 75, 76] ?_
                refine W_condt rfl rfl ?_
                refine W_rg [1, 58, 59, 60, 64, 65, 66, 77, 78] ?_
                have ho25 := out_eq hm hr3
                subst ho25
                replace hm : some (.inr (.inr (TFault.mk 16 (-1)))) = some r2 := hm3
                have ho26 := out_eq hm hr2
                subst ho26
                replace hm : some (TFault.mk 16 (-1)) = some r := hm2
                refine W_ret ?_
                refine KBlock_r ?_
                refine KThen_r ?_
                refine KLoopM_r ?_
                refine KBlock_r ?_
                refine KBlock_r ?_
                refine KJoinM_r ?_
                refine KLoopM_r ?_
                refine KBlock_r ?_
                refine KJoinM_r ?_
                refine KBody_ret [] ?_
                obtain rfl := Option.some.inj hm
                exact en
               ·rw [if_neg h24] at hm
                have h24b : decide ((((lit ([p1.put, p1.bools, p1.get] : List (List Int))).getD x9.toNat default).getD x12.toNat default) < 0) = false := decide_eq_false h24
                refine W_rgx h24b [6, 70, 71, 72, 73, 74, 75, 76] ?_
                by_cases h27 : (((lit ([p1.put, p1.bools, p1.get] : List (List Int))).getD x9.toNat default).getD x12.toNat default) ≥ p1.cells
                ·rw [if_pos h27] at hm
                 refine W_condt rfl (decide_eq_true h27) ?_
                 refine W_rg [1, 58, 59, 60, 64, 65, 66, 77, 78] ?_
                 have ho28 := out_eq hm hr3
                 subst ho28
                 replace hm : some (.inr (.inr (TFault.mk 16 (-1)))) = some r2 := hm3
                 have ho29 := out_eq hm hr2
                 subst ho29
                 replace hm : some (TFault.mk 16 (-1)) = some r := hm2
                 refine W_ret ?_
                 refine KBlock_r ?_
                 refine KThen_r ?_
                 refine KLoopM_r ?_
                 refine KBlock_r ?_
                 refine KBlock_r ?_
                 refine KJoinM_r ?_
                 refine KLoopM_r ?_
                 refine KBlock_r ?_
                 refine KJoinM_r ?_
                 refine KBody_ret [] ?_
                 obtain rfl := Option.some.inj hm
                 exact en
                ·rw [if_neg h27] at hm
                 refine W_condf rfl (decide_eq_false h27) ?_
                 refine W_skip ?_
                 refine KBlock_n ?_
                 refine KThen_n (hk8 _ _ ?_)
                 refine W_rn ?_
                 refine KLoopM_n (IntKind.wrap .i64 (x12 + 1)) () hm ?_
                 exact ls
              ·rw [if_neg h22] at hm
               refine W_condf rfl (decide_eq_false h22) ?_
               refine W_exit ?_
               have ho30 := out_eq hm hr3
               subst ho30
               replace hm : code_Check_j3 x9 = some r2 := hm3
               refine KThen_x ?_
               refine KLoopM_x ?_
               refine KBlock_hit ?_
               refine KBlock_n ?_
               refine KJoinM_n () () hm ?_
               exact ls
            ·rintro _ _ hm
             replace hm : code_Check_j3 x9 = some r2 := hm
             refine W_eqm ?_
             unfold code_Check_j3 at hm
             refine W_rn ?_
             refine KLoopM_n (IntKind.wrap .i64 (x9 + 1)) () hm ?_
             exact ls
           ·rw [if_neg h20] at hm
            refine W_condf rfl (decide_eq_false h20) ?_
            refine W_exit ?_
            have ho31 := out_eq hm hr2
            subst ho31
            replace hm : code_Check_j1 p1 = some r := hm2
            refine KThen_x ?_
            refine KLoopM_x ?_
            refine KBlock_hit ?_
            refine KJoinM_n () () hm ?_
            exact ls
         ·rintro _ _ hm
          replace hm : code_Check_j1 p1 = some r := hm
          refine W_eqm ?_
          unfold code_Check_j1 at hm
          refine W_joinM (S := Unit) (V := Unit) [7, 8, 81, 82, 83, 84, 85, 86, 87, 88, 89, 90, 91, 92, 93, 94, 95, 96] (fun _ _ => []) (fun _ _ => [.box [.int .i64 p1.cells, .int .i64 p1.regs, .int .i64 p1.cost, .tree 1 (p1.put.map (eK .i64)), .tree 1 (p1.bools.map (eK .i64)), .tree 1 (p1.get.map (eK .i64)), .tree 6 (p1.code.map TIns.enc)], .box [.int .i64 0, .int .i64 0]]) (fun _ => code_Check_j2 p1 = some r) ?_ ?_
          ·skip
           refine W_rg [81] ?_
           refine W_block ?_
           obtain ⟨o1, hl1, hm1⟩ := bd hm
           refine W_loopM (S := Int) (V := Unit) (O := Unit ⊕ TFault) [7, 8, 84, 85, 86, 87, 88, 89, 90, 91, 92, 93, 94, 95, 96] (fun x4 _ => [(84, .c (.int .i64 x4))]) (fun x4 _ => [.box [.int .i64 p1.cells, .int .i64 p1.regs, .int .i64 p1.cost, .tree 1 (p1.put.map (eK .i64)), .tree 1 (p1.bools.map (eK .i64)), .tree 1 (p1.get.map (eK .i64)), .tree 6 (p1.code.map TIns.enc)], .box [.int .i64 0, .int .i64 0]]) _ _ () hl1 ?_ ?_
           ·exact ls
           ·rintro x4 _ r1 hm hr1
            replace hm : code_Check_l1 p1 x4 = some r1 := hm
            refine W_eqm ?_
            unfold code_Check_l1 at hm
            refine W_rg [] ?_
            refine W_seq_k fun k4 hk4 => ?_
            by_cases h14 : x4 < (p1.code.length : Int)
            ·rw [if_pos h14] at hm
             refine W_condt rfl (decide_eq_true h14) ?_
             refine W_skip ?_
             refine KThen_n (hk4 _ _ ?_)
             refine W_seq_k fun k5 hk5 => ?_
             refine W_block ?_
             obtain ⟨hg15a, hm⟩ := gd hm
             refine W_rgx (em TIns.enc p1.code x4.toNat) [85, 86, 87, 88] ?_
             refine W_regF [8, 89, 90, 91, 92] fun k kp hk hp => ?_
             refine go ?_
             obtain ⟨y5, hc16, hm⟩ := bd hm
             refine RP (fun _ => code_judge_fits_ok (Tjudge_code.mk p1) (p1.code.getD x4.toNat default) _ hc16) ?_
             refine RunRest_ops ?_
             refine go ?_
             refine hk _ _ ?_
             clear hk hp k kp
             by_cases h17 : y5 = true
             ·rw [if_pos h17] at hm
              refine W_condf rfl (by rw [show y5 = true from (h17)]; rfl) ?_
              refine W_skip ?_
              refine KBlock_n ?_
              refine KThen_n (hk5 _ _ ?_)
              refine W_rn ?_
              refine KLoopM_n (IntKind.wrap .i64 (x4 + 1)) () hm ?_
              exact ls
             ·rw [if_neg h17] at hm
              refine W_condt rfl (by rw [show y5 = false from (Bool.eq_false_iff.2 h17)]; rfl) ?_
              refine W_rg [1, 7, 82, 83, 84, 93, 94, 95] ?_
              have ho18 := out_eq hm hr1
              subst ho18
              replace hm : some (TFault.mk 4 x4) = some r := hm1
              refine W_ret ?_
              refine KBlock_r ?_
              refine KThen_r ?_
              refine KLoopM_r ?_
              refine KBlock_r ?_
              refine KJoinM_r ?_
              refine KBody_ret [] ?_
              obtain rfl := Option.some.inj hm
              exact en
            ·rw [if_neg h14] at hm
             refine W_condf rfl (decide_eq_false h14) ?_
             refine W_exit ?_
             have ho19 := out_eq hm hr1
             subst ho19
             replace hm : code_Check_j2 p1 = some r := hm1
             refine KThen_x ?_
             refine KLoopM_x ?_
             refine KBlock_hit ?_
             refine KJoinM_n () () hm ?_
             exact ls
          ·rintro _ _ hm
           replace hm : code_Check_j2 p1 = some r := hm
           refine W_eqm ?_
           unfold code_Check_j2 at hm
           refine W_regF [97, 98, 99] fun k kp hk hp => ?_
           refine go ?_
           obtain ⟨y1, hc9, hm⟩ := bd hm
           refine RP (fun _ => code_Cost_2_ok p1.code _ hc9) ?_
           refine RunRest_ops ?_
           refine go ?_
           refine hk _ _ ?_
           clear hk hp k kp
           refine W_seq_k fun k3 hk3 => ?_
           by_cases h10 : y1 = 0
           ·rw [if_pos h10] at hm
            have h10b : (y1 == 0) = true := beq_iff_eq.2 h10
            refine W_regG [1, 9, 100, 101, 102, 103, 104, 105, 106, 107, 108, 109, 110, 111, 112] fun k kp hk hp => ?_
            refine RunRest_cut 9 ?_
            refine gox h10b ?_
            by_cases h11 : (p1.code.length : Int) > 0
            ·rw [if_pos h11] at hm
             have h11b : decide ((p1.code.length : Int) > 0) = true := decide_eq_true h11
             refine RunRest_ops ?_
             refine gox (a2 h10b h11b) ?_
             refine hk _ _ ?_
             clear hk hp k kp
             refine W_condt rfl rfl ?_
             refine W_rg [113, 114] ?_
             refine W_ret ?_
             refine KThen_r ?_
             refine KBody_ret [] ?_
             obtain rfl := Option.some.inj hm
             exact en
            ·rw [if_neg h11] at hm
             have h11b : decide ((p1.code.length : Int) > 0) = false := decide_eq_false h11
             refine RunRest_ops ?_
             refine gox (a2 h10b h11b) ?_
             refine hk _ _ ?_
             clear hk hp k kp
             by_cases h12 : ¬ y1 = p1.cost
             ·rw [if_pos h12] at hm
              refine W_condt rfl (bne_iff_ne.2 h12) ?_
              refine W_rg [113, 114] ?_
              refine W_ret ?_
              refine KThen_r ?_
              refine KBody_ret [] ?_
              obtain rfl := Option.some.inj hm
              exact en
             ·rw [if_neg h12] at hm
              refine W_condf rfl (bne_eq_false_iff_eq.2 (Decidable.not_not.1 h12)) ?_
              refine W_skip ?_
              refine KThen_n (hk3 _ _ ?_)
              refine W_rg [113, 115] ?_
              refine W_ret ?_
              refine KBody_ret [] ?_
              obtain rfl := Option.some.inj hm
              exact en
           ·rw [if_neg h10] at hm
            have h10b : (y1 == 0) = false := beq_eq_false_iff_ne.2 h10
            refine W_rgx h10b [1, 9, 100, 101, 102, 103, 104, 105, 106, 107, 108, 109, 110, 111, 112] ?_
            by_cases h13 : ¬ y1 = p1.cost
            ·rw [if_pos h13] at hm
             refine W_condt rfl (bne_iff_ne.2 h13) ?_
             refine W_rg [113, 114] ?_
             refine W_ret ?_
             refine KThen_r ?_
             refine KBody_ret [] ?_
             obtain rfl := Option.some.inj hm
             exact en
            ·rw [if_neg h13] at hm
             refine W_condf rfl (bne_eq_false_iff_eq.2 (Decidable.not_not.1 h13)) ?_
             refine W_skip ?_
             refine KThen_n (hk3 _ _ ?_)
             refine W_rg [113, 115] ?_
             refine W_ret ?_
             refine KBody_ret [] ?_
             obtain rfl := Option.some.inj hm
             exact en
end Pam

/- the walk of emit_Make, printed by a program of ours -/
namespace Pam
open Go Go.Proofs
set_option maxRecDepth 100000 in
set_option maxHeartbeats 8000000 in
theorem emit_Make_ok (p1 : TLoops) (r : (TImage × TFault)) (hm : emit_Make p1 = some r) : SpecF Try.prog 18 [.a [.int .i64 p1.cells, .tree 1 (p1.put.map (eK .i64)), .tree 1 (p1.get.map (eK .i64)), .tree 6 (p1.steps.map TLoop.enc)], .c (.nils)] (.t [.a [.int .i64 ((r.1).cells), .int .i64 ((r.1).regs), .int .i64 ((r.1).cost), .tree 1 (((r.1).put).map (eK .i64)), .tree 1 (((r.1).bools).map (eK .i64)), .tree 1 (((r.1).get).map (eK .i64)), .tree 6 (((r.1).code).map TIns.enc)], .a [.int .i64 ((r.2).code), .int .i64 ((r.2).at_)]]) := by
 refine Spec_ofD 91 [.cell 4 31, .cell 5 33] Try.func18 rfl rfl rfl (by kernel_rfl) (by simp) ?_
 refine W_eqf ?_
 unfold emit_Make at hm
 refine W_rg [0] ?_
 refine W_seq_k fun k1 hk1 => ?_
 refine W_regF [12, 13] fun k kp hk hp => ?_
 refine go ?_
 obtain ⟨y1, hc1, hm⟩ := bd hm
 refine RP (fun _ => loop_Check_ok p1 _ hc1) ?_
 refine RunRest_ops ?_
 refine go ?_
 refine hk _ _ ?_
 clear hk hp k kp
 refine W_rg [14, 15] ?_
 by_cases h2 : ¬ ((y1).code) = 0
 ·rw [if_pos h2] at hm
  refine W_condt rfl (bne_iff_ne.2 h2) ?_
  refine W_anyPF [1, 2, 6, 16, 17, 18] (by kernel_rfl) [1] [0, 0, 1, 7] [false, false, false, true] [false, false, true, false] [[], [6], [], []] (by kernel_rfl) fun k hk => ?_
  simp only [bAP, bT, tab, bX, reduceIte, ↓reduceIte, reduceCtorEq, Int.reduceToNat, Nat.reduceDiv, Nat.reduceMod, Nat.reduceLT, Nat.reduceLeDiff, Nat.reduceAdd, Nat.reduceSub, Nat.reduceMul, Nat.reduceEqDiff, Nat.reduceBEq, Nat.reduceBNe, Nat.reduceGT, List.replicate, List.foldr]
  repeat refine ⟨by first | omega | assumption | decide | exact all_len fun _ => rfl | (intro _; omega) | rfl | exact fun e => absurd (List.map_eq_nil_iff.1 e) (by assumption) | (and_intros <;> first | omega | assumption | decide | exact all_len fun _ => rfl) | (refine .inl ?_; simp only [extB]; and_intros <;> first | rfl | trivial) | (refine .inr (.inl ?_); simp only [extB]; and_intros <;> first | rfl | trivial) | (refine .inr ?_; simp only [nearB]; and_intros <;> first | exact .inl rfl | exact .inr rfl | trivial) | (refine .inr (.inr ⟨rfl, ?_⟩); simp only [nearB]; and_intros <;> first | exact .inl rfl | exact .inr rfl | trivial) | exact .inl rfl, ?_⟩
  refine hk _ _ ?_
  clear hk k
  refine W_ghost (Ghost_ntB 1 [.int .i64 0, .int .i64 0, .int .i64 0, .tree 1 ([].map (eK .i64)), .tree 1 ([].map (eK .i64)), .tree 1 ([].map (eK .i64)), .tree 6 ([].map TIns.enc)] rfl (by and_intros <;> trivial)) ?_
  refine W_eqE rfl (by simp only [bZ, bL, reduceIte, ↓reduceIte, reduceCtorEq, Int.reduceToNat, Nat.reduceDiv, Nat.reduceMod, Nat.reduceLT, Nat.reduceLeDiff, Nat.reduceAdd, Nat.reduceSub, Nat.reduceMul, Nat.reduceEqDiff, Nat.reduceBEq, Nat.reduceBNe, Nat.reduceGT]; rfl) ?_
  refine W_ret ?_
  refine KThen_r ?_
  refine KBody_ret [] ?_
  obtain rfl := Option.some.inj hm
  exact en
 ·rw [if_neg h2] at hm
  refine W_condf rfl (bne_eq_false_iff_eq.2 (Decidable.not_not.1 h2)) ?_
  refine W_skip ?_
  refine KThen_n (hk1 _ _ ?_)
  refine W_rg [6, 16, 19, 20] ?_
  refine W_gh (Ghost_nilB 4 0 6 118 (by decide) rfl rfl) ?_
  refine W_joinM (S := (Int × (List TIns))) (V := Nat) [8, 9, 21, 22, 23, 24, 25, 26, 27, 28, 29, 30, 31, 32, 33, 34, 35, 36, 37, 38, 39, 40, 41, 42, 43, 44, 45, 46, 47, 48] (fun (x4, l5) v6 => []) (fun (x4, l5) v6 => [.box [.int .i64 p1.cells, .tree 1 (p1.put.map (eK .i64)), .tree 1 (p1.get.map (eK .i64)), .tree 6 (p1.steps.map TLoop.enc)], .box [.int .i64 0, .int .i64 0, .int .i64 0, .nils, .nils, .nils, .nils], .box [.int .i64 0, .int .i64 0], .box [.int .i64 ((y1).code), .int .i64 ((y1).at_)], .box [.osl 5 v6 0 l5.length, .int .i64 x4], .arr 6 v6 118 (l5.map TIns.enc)]) (fun (x4, l5) => emit_Make_j1 p1 x4 l5 = some r) ?_ ?_
  ·skip
   refine W_rg [21] ?_
   refine W_block ?_
   obtain ⟨o1, hl1, hm1⟩ := bd hm
   refine W_loopM (S := (Int × (List TIns) × Int)) (V := Nat) (O := (Int × (List TIns)) ⊕ (TImage × TFault)) [8, 9, 24, 25, 26, 27, 28, 29, 30, 31, 32, 33, 34, 35, 36, 37, 38, 39, 40, 41, 42, 43, 44, 45, 46, 47, 48] (fun (x23, l24, x26) v25 => [(24, .c (.int .i64 x26))]) (fun (x23, l24, x26) v25 => [.box [.int .i64 p1.cells, .tree 1 (p1.put.map (eK .i64)), .tree 1 (p1.get.map (eK .i64)), .tree 6 (p1.steps.map TLoop.enc)], .box [.int .i64 0, .int .i64 0, .int .i64 0, .nils, .nils, .nils, .nils], .box [.int .i64 0, .int .i64 0], .box [.int .i64 ((y1).code), .int .i64 ((y1).at_)], .box [.osl 5 v25 0 l24.length, .int .i64 x23], .arr 6 v25 118 (l24.map TIns.enc)]) _ _ 0 hl1 ?_ ?_
   ·exact ls
   ·rintro ⟨x23, l24, x26⟩ v25 r1 hm hr1
    replace hm : emit_Make_l1 p1 x23 l24 x26 = some r1 := hm
    refine W_eqm ?_
    unfold emit_Make_l1 at hm
    refine W_rg [] ?_
    refine W_seq_k fun k3 hk3 => ?_
    by_cases h7 : x26 < (p1.steps.length : Int)
    ·rw [if_pos h7] at hm
     refine W_condt rfl (decide_eq_true h7) ?_
     refine W_skip ?_
     refine KThen_n (hk3 _ _ ?_)
     refine W_seq_k fun k4 hk4 => ?_
     refine W_block ?_
     obtain ⟨hg8a, hm⟩ := gd hm
     refine W_rgx (em TLoop.enc p1.steps x26.toNat) [25, 26, 27, 28] ?_
     refine W_regF [9, 29, 30, 31] fun k kp hk hp => ?_
     refine go ?_
     obtain ⟨y27, hc9, hm⟩ := bd hm
     refine RA (emit_emitter_step_ok (p1.steps.getD x26.toNat default) x23 l24 v25 _ hc9) [4, 5] ?_
     rintro p σ' hq10 _
     obtain ⟨v28, rfl, rfl⟩ := hq10
     refine RunRest_ops ?_
     refine go ?_
     refine hk _ _ ?_
     clear hk hp k kp
     refine W_regG [32, 33, 34, 35, 36, 37, 38, 39, 40, 41, 42, 43] fun k kp hk hp => ?_
     refine RunRest_cut 7 ?_
     refine go ?_
     by_cases h11 : (y27.2.length : Int) > 200000
     ·rw [if_pos h11] at hm
      have h11b : decide ((y27.2.length : Int) > 200000) = true := decide_eq_true h11
      refine RunRest_ops ?_
      refine gox h11b ?_
      refine hk _ _ ?_
      clear hk hp k kp
      refine W_condt rfl rfl ?_
      refine W_rg [1, 2, 7, 8, 22, 23, 24, 44, 45, 46, 47] ?_
      refine W_ghost (Ghost_ntB 1 [.int .i64 0, .int .i64 0, .int .i64 0, .tree 1 ([].map (eK .i64)), .tree 1 ([].map (eK .i64)), .tree 1 ([].map (eK .i64)), .tree 6 ([].map TIns.enc)] rfl (by and_intros <;> trivial)) ?_
      refine W_eqE rfl (by simp only [bZ, bL, reduceIte, ↓reduceIte, reduceCtorEq, Int.reduceToNat, Nat.reduceDiv, Nat.reduceMod, Nat.reduceLT, Nat.reduceLeDiff, Nat.reduceAdd, Nat.reduceSub, Nat.reduceMul, Nat.reduceEqDiff, Nat.reduceBEq, Nat.reduceBNe, Nat.reduceGT]; rfl) ?_
      have ho12 := out_eq hm hr1
      subst ho12
      replace hm : some ((TImage.mk 0 0 0 [] [] [] []), (TFault.mk 7 x26)) = some r := hm1
      refine W_ret ?_
      refine KBlock_r ?_
      refine KThen_r ?_
      refine KLoopM_r ?_
      refine KBlock_r ?_
      refine KJoinM_r ?_
      refine KBody_ret [] ?_
      obtain rfl := Option.some.inj hm
      exact en
     ·rw [if_neg h11] at hm
      have h11b : decide ((y27.2.length : Int) > 200000) = false := decide_eq_false h11
      refine RunRest_ops ?_
      refine gox h11b ?_
      refine hk _ _ ?_
      clear hk hp k kp
      by_cases h13 : y27.1 > 40
      ·rw [if_pos h13] at hm
       refine W_condt rfl (decide_eq_true h13) ?_
       refine W_rg [1, 2, 7, 8, 22, 23, 24, 44, 45, 46, 47] ?_
       refine W_ghost (Ghost_ntB 1 [.int .i64 0, .int .i64 0, .int .i64 0, .tree 1 ([].map (eK .i64)), .tree 1 ([].map (eK .i64)), .tree 1 ([].map (eK .i64)), .tree 6 ([].map TIns.enc)] rfl (by and_intros <;> trivial)) ?_
       refine W_eqE rfl (by simp only [bZ, bL, reduceIte, ↓reduceIte, reduceCtorEq, Int.reduceToNat, Nat.reduceDiv, Nat.reduceMod, Nat.reduceLT, Nat.reduceLeDiff, Nat.reduceAdd, Nat.reduceSub, Nat.reduceMul, Nat.reduceEqDiff, Nat.reduceBEq, Nat.reduceBNe, Nat.reduceGT]; rfl) ?_
       have ho14 := out_eq hm hr1
       subst ho14
       replace hm : some ((TImage.mk 0 0 0 [] [] [] []), (TFault.mk 7 x26)) = some r := hm1
       refine W_ret ?_
       refine KBlock_r ?_
       refine KThen_r ?_
       refine KLoopM_r ?_
       refine KBlock_r ?_
       refine KJoinM_r ?_
       refine KBody_ret [] ?_
       obtain rfl := Option.some.inj hm
       exact en
      ·rw [if_neg h13] at hm
       refine W_condf rfl (decide_eq_false h13) ?_
       refine W_skip ?_
       refine KBlock_n ?_
       refine KThen_n (hk4 _ _ ?_)
       refine W_rn ?_
       refine KLoopM_n (y27.1, y27.2, (IntKind.wrap .i64 (x26 + 1))) v28 hm ?_
       exact ls
    ·rw [if_neg h7] at hm
     refine W_condf rfl (decide_eq_false h7) ?_
     refine W_exit ?_
     have ho15 := out_eq hm hr1
     subst ho15
     replace hm : emit_Make_j1 p1 x23 l24 = some r := hm1
     refine KThen_x ?_
     refine KLoopM_x ?_
     refine KBlock_hit ?_
     refine KJoinM_n (x23, l24) v25 hm ?_
     exact ls
  ·rintro ⟨x4, l5⟩ v6 hm
   replace hm : emit_Make_j1 p1 x4 l5 = some r := hm
   refine W_eqm ?_
   unfold emit_Make_j1 at hm
   refine W_lateT [7, 49, 50, 51, 52, 53, 54, 55, 56, 57, 58, 59, 60, 61, 62, 63, 64] [10] [0, 1, 0, 4, 12, 28, 0, 64, 192, 448, 960, 0, 2048, 6144, 14336, 32767, 0, 131071] [false, false, false, false, false, false, false, false, false, false, false, false, false, false, false, false, false, true] (by kernel_rfl) (by kernel_rfl) (by decide) fun k kp hk => ?_
   simp only [virt, late, vOne, hush]
   refine ga ?_
   obtain ⟨y7, hc3, hm⟩ := bd hm
   refine AnyCall_at (σ2 := [.box [.int .i64 p1.cells, .tree 1 (p1.put.map (eK .i64)), .tree 1 (p1.get.map (eK .i64)), .tree 6 (p1.steps.map TLoop.enc)], .box [.int .i64 0, .int .i64 0, .int .i64 0, .nils, .nils, .nils, .nils], .box [.int .i64 0, .int .i64 0], .box [.int .i64 ((y1).code), .int .i64 ((y1).at_)], .box [.osl 5 v6 0 l5.length, .int .i64 x4], .arr 6 v6 118 (l5.map TIns.enc)]) (res := .c (.int .i64 y7)) ⟨_, _, _, _, [5], code_Cost_ok l5 v6 _ hc3, by simp, by simp, rfl, rfl, by first | trivial | (simp [bX, eK, eB, eS, eL, s_cap, psUnder, PV.under, CV.under, obsBelow, OB.under, cvsBelow]; done), by first | trivial | (simp [bX, eK, eB, eS, eL, s_cap, psUnder, PV.under, CV.under, obsBelow, OB.under, cvsBelow]; done), fun q τ hq _ => by obtain ⟨rfl, rfl⟩ := hq; exact ⟨rfl, rfl⟩, fun _ _ h => h.elim⟩ (by first | trivial | exact dst_ok rfl) (by first | trivial | (intro _; first | trivial | simp [need]) | simp [need]) (by first | exact .inl rfl | exact .inr (by simp only [extB]; and_intros <;> first | rfl | trivial)) ?_
   refine ga ?_
   refine go ?_
   refine hk _ _ ?_
   clear hk k kp
   obtain ⟨⟨⟨hg4ax, hg4ay⟩, ⟨hg4bx, hg4by⟩⟩, hm⟩ := gd hm
   refine W_ag [1, 2, 65, 66, 67, 68, 69, 70, 71, 72, 73, 74, 75, 76, 77, 78, 79, 80, 81] [0, 1, 0, 4, 15, 0, 32, 0, 128, 511, 0, 1024, 0, 8191, 3199, 32767, 65535, 131071, 262143, 524287] [false, false, false, false, false, false, false, false, false, false, false, false, false, false, false, true, true, true, true, true] ?_
   refine W_eqa [.box [.int .i64 p1.cells, .tree 1 (p1.put.map (eK .i64)), .tree 1 (p1.get.map (eK .i64)), .tree 6 (p1.steps.map TLoop.enc)], .box [.int .i64 0, .int .i64 0, .int .i64 0, .nils, .nils, .nils, .nils], .box [.int .i64 0, .int .i64 0], .box [.int .i64 ((y1).code), .int .i64 ((y1).at_)], .box [.osl 5 v6 0 l5.length, .int .i64 x4], .arr 6 v6 118 (l5.map TIns.enc), .box [.int .i64 p1.cells, .int .i64 x4, .int .i64 y7, .osl 7 0 0 p1.put.length, .osl 9 0 0 0, .osl 8 0 0 p1.get.length, .osl 5 v6 0 l5.length], .arr 1 0 3 (p1.put.map (eK .i64)), .arr 1 0 3 (p1.get.map (eK .i64)), .arr 1 0 3 ([].map (eK .i64))] ?_
   refine W_seq_k fun k2 hk2 => ?_
   refine W_regF [82, 83] fun k kp hk hp => ?_
   refine go ?_
   refine RunCall_turn (Ghost_fr 5 rfl) ?_
   simp only [bR, bT, tab, bX, reduceIte, ↓reduceIte, reduceCtorEq, Int.reduceToNat, Nat.reduceDiv, Nat.reduceMod, Nat.reduceLT, Nat.reduceLeDiff, Nat.reduceAdd, Nat.reduceSub, Nat.reduceMul, Nat.reduceEqDiff, Nat.reduceBEq, Nat.reduceBNe, Nat.reduceGT, bZ]
   repeat refine ⟨by first | omega | assumption | decide | exact all_len fun _ => rfl | (intro _; omega) | rfl | exact fun e => absurd (List.map_eq_nil_iff.1 e) (by assumption) | (and_intros <;> first | omega | assumption | decide | exact all_len fun _ => rfl), ?_⟩
   refine RunCall_turn (Ghost_fr 7 rfl) ?_
   simp only [bR, bT, tab, bX, reduceIte, ↓reduceIte, reduceCtorEq, Int.reduceToNat, Nat.reduceDiv, Nat.reduceMod, Nat.reduceLT, Nat.reduceLeDiff, Nat.reduceAdd, Nat.reduceSub, Nat.reduceMul, Nat.reduceEqDiff, Nat.reduceBEq, Nat.reduceBNe, Nat.reduceGT, bZ]
   repeat refine ⟨by first | omega | assumption | decide | exact all_len fun _ => rfl | (intro _; omega) | rfl | exact fun e => absurd (List.map_eq_nil_iff.1 e) (by assumption) | (and_intros <;> first | omega | assumption | decide | exact all_len fun _ => rfl), ?_⟩
   refine RunCall_turn (Ghost_fr 8 rfl) ?_
   simp only [bR, bT, tab, bX, reduceIte, ↓reduceIte, reduceCtorEq, Int.reduceToNat, Nat.reduceDiv, Nat.reduceMod, Nat.reduceLT, Nat.reduceLeDiff, Nat.reduceAdd, Nat.reduceSub, Nat.reduceMul, Nat.reduceEqDiff, Nat.reduceBEq, Nat.reduceBNe, Nat.reduceGT, bZ]
   repeat refine ⟨by first | omega | assumption | decide | exact all_len fun _ => rfl | (intro _; omega) | rfl | exact fun e => absurd (List.map_eq_nil_iff.1 e) (by assumption) | (and_intros <;> first | omega | assumption | decide | exact all_len fun _ => rfl), ?_⟩
   refine RunCall_turn (Ghost_fr 9 rfl) ?_
   simp only [bR, bT, tab, bX, reduceIte, ↓reduceIte, reduceCtorEq, Int.reduceToNat, Nat.reduceDiv, Nat.reduceMod, Nat.reduceLT, Nat.reduceLeDiff, Nat.reduceAdd, Nat.reduceSub, Nat.reduceMul, Nat.reduceEqDiff, Nat.reduceBEq, Nat.reduceBNe, Nat.reduceGT, bZ]
   repeat refine ⟨by first | omega | assumption | decide | exact all_len fun _ => rfl | (intro _; omega) | rfl | exact fun e => absurd (List.map_eq_nil_iff.1 e) (by assumption) | (and_intros <;> first | omega | assumption | decide | exact all_len fun _ => rfl), ?_⟩
   obtain ⟨y8, hc5, hm⟩ := bd hm
   refine RP (fun _ => code_Check_ok (TImage.mk p1.cells x4 y7 p1.put [] p1.get l5) _ hc5) ?_
   refine RunRest_ops ?_
   refine go ?_
   refine hk _ _ ?_
   clear hk hp k kp
   refine W_rg [84, 85] ?_
   by_cases h6 : ¬ ((y8).code) = 0
   ·rw [if_pos h6] at hm
    refine W_condt rfl (bne_iff_ne.2 h6) ?_
    refine W_anyPF [10, 11, 86, 87, 88] (by kernel_rfl) [1] [0, 0, 1, 7] [false, false, false, true] [false, false, true, false] [[], [11], [], []] (by kernel_rfl) fun k hk => ?_
    simp only [bAP, bT, tab, bX, reduceIte, ↓reduceIte, reduceCtorEq, Int.reduceToNat, Nat.reduceDiv, Nat.reduceMod, Nat.reduceLT, Nat.reduceLeDiff, Nat.reduceAdd, Nat.reduceSub, Nat.reduceMul, Nat.reduceEqDiff, Nat.reduceBEq, Nat.reduceBNe, Nat.reduceGT, List.replicate, List.foldr]
    repeat refine ⟨by first | omega | assumption | decide | exact all_len fun _ => rfl | (intro _; omega) | rfl | exact fun e => absurd (List.map_eq_nil_iff.1 e) (by assumption) | (and_intros <;> first | omega | assumption | decide | exact all_len fun _ => rfl) | (refine .inl ?_; simp only [extB]; and_intros <;> first | rfl | trivial) | (refine .inr (.inl ?_); simp only [extB]; and_intros <;> first | rfl | trivial) | (refine .inr ?_; simp only [nearB]; and_intros <;> first | exact .inl rfl | exact .inr rfl | trivial) | (refine .inr (.inr ⟨rfl, ?_⟩); simp only [nearB]; and_intros <;> first | exact .inl rfl | exact .inr rfl | trivial) | exact .inl rfl, ?_⟩
    refine hk _ _ ?_
    clear hk k
    refine W_ghost (Ghost_ntB 1 [.int .i64 0, .int .i64 0, .int .i64 0, .tree 1 ([].map (eK .i64)), .tree 1 ([].map (eK .i64)), .tree 1 ([].map (eK .i64)), .tree 6 ([].map TIns.enc)] rfl (by and_intros <;> trivial)) ?_
    refine W_eqE rfl (by simp only [bZ, bL, reduceIte, ↓reduceIte, reduceCtorEq, Int.reduceToNat, Nat.reduceDiv, Nat.reduceMod, Nat.reduceLT, Nat.reduceLeDiff, Nat.reduceAdd, Nat.reduceSub, Nat.reduceMul, Nat.reduceEqDiff, Nat.reduceBEq, Nat.reduceBNe, Nat.reduceGT]; rfl) ?_
    refine W_ret ?_
    refine KThen_r ?_
    refine KBody_ret [] ?_
    obtain rfl := Option.some.inj hm
    exact en
   ·rw [if_neg h6] at hm
    refine W_condf rfl (bne_eq_false_iff_eq.2 (Decidable.not_not.1 h6)) ?_
    refine W_skip ?_
    refine KThen_n (hk2 _ _ ?_)
    refine W_rg [10, 11, 86, 89, 90] ?_
    refine W_ret ?_
    refine KBody_ret [] ?_
    obtain rfl := Option.some.inj hm
    exact en
end Pam

/- the walk of law_emitBegun, printed by a program of ours -/
namespace Pam
open Go Go.Proofs
set_option maxRecDepth 100000 in
set_option maxHeartbeats 1000000 in
theorem law_emitBegun_ok (r : Bool) (hm : law_emitBegun  = some r) : SpecF Try.prog 15 [] (.c (.bool r)) := by
 refine Spec_ofD 37 [.tmp 0] Try.func15 rfl rfl rfl (by kernel_rfl) (by simp) ?_
 refine W_eqf ?_
 unfold law_emitBegun at hm
 refine W_rg [0] ?_
 refine W_regG [4, 5, 6, 7, 8, 9, 10, 11, 12] fun k kp hk hp => ?_
 refine RunRest_cut 7 ?_
 refine go ?_
 refine RunRest_ghost (Ghost_ntS 10 (.a [.int .i64 1, .int .i64 0, .int .i64 0, .int .i64 5, .tree 4 ([].map TPush.enc), .osl 2 0 0 3]) (by first | rfl | (simp only [bR, bT, tab, bX, reduceIte, ↓reduceIte, reduceCtorEq, Int.reduceToNat, Nat.reduceDiv, Nat.reduceMod, Nat.reduceLT, Nat.reduceLeDiff, Nat.reduceAdd, Nat.reduceSub, Nat.reduceMul, Nat.reduceEqDiff, Nat.reduceBEq, Nat.reduceBNe, Nat.reduceGT]; done)) (by and_intros <;> trivial)) ?_
 simp only [bE, Nat.reduceDiv, Nat.reduceMod, Nat.reduceLT, Nat.reduceLeDiff, Nat.reduceAdd, Nat.reduceSub, Nat.reduceMul, Nat.reduceEqDiff, Nat.reduceBEq, Nat.reduceBNe, Nat.reduceGT, Int.reduceToNat]
 refine RunRest_cut 0 ?_
 refine go ?_
 refine RunRest_ghost (Ghost_fr 2 rfl) ?_
 refine gz ?_
 refine RunRest_ops ?_
 refine go ?_
 refine hk _ _ ?_
 clear hk hp k kp
 refine W_eqa [.arr 1 0 3 ((lit ([1] : List Int)).map (eK .i64)), .arr 1 0 3 ((lit ([5] : List Int)).map (eK .i64)), .dead, .arr 6 0 108 ((lit ([(TLoop.mk 1 0 0 5 [] (lit ([(TPush.mk 2 0 1 0), (TPush.mk 1 0 0 2), (TPush.mk 6 1 0 0)] : List TPush)))] : List TLoop)).map TLoop.enc), .box [.int .i64 6, .osl 0 0 0 1, .osl 1 0 0 1, .osl 3 0 0 1]] ?_
 refine W_regF [1, 13, 14, 15, 16, 17] fun k kp hk hp => ?_
 refine go ?_
 refine RunCall_turn (Ghost_fr 0 rfl) ?_
 simp only [bR, bT, tab, bX, reduceIte, ↓reduceIte, reduceCtorEq, Int.reduceToNat, Nat.reduceDiv, Nat.reduceMod, Nat.reduceLT, Nat.reduceLeDiff, Nat.reduceAdd, Nat.reduceSub, Nat.reduceMul, Nat.reduceEqDiff, Nat.reduceBEq, Nat.reduceBNe, Nat.reduceGT, bZ]
 repeat refine ⟨by first | omega | assumption | decide | exact all_len fun _ => rfl | (intro _; omega) | rfl | exact fun e => absurd (List.map_eq_nil_iff.1 e) (by assumption) | (and_intros <;> first | omega | assumption | decide | exact all_len fun _ => rfl), ?_⟩
 refine RunCall_turn (Ghost_fr 1 rfl) ?_
 simp only [bR, bT, tab, bX, reduceIte, ↓reduceIte, reduceCtorEq, Int.reduceToNat, Nat.reduceDiv, Nat.reduceMod, Nat.reduceLT, Nat.reduceLeDiff, Nat.reduceAdd, Nat.reduceSub, Nat.reduceMul, Nat.reduceEqDiff, Nat.reduceBEq, Nat.reduceBNe, Nat.reduceGT, bZ]
 repeat refine ⟨by first | omega | assumption | decide | exact all_len fun _ => rfl | (intro _; omega) | rfl | exact fun e => absurd (List.map_eq_nil_iff.1 e) (by assumption) | (and_intros <;> first | omega | assumption | decide | exact all_len fun _ => rfl), ?_⟩
 refine RunCall_turn (Ghost_fr 3 rfl) ?_
 simp only [bR, bT, tab, bX, reduceIte, ↓reduceIte, reduceCtorEq, Int.reduceToNat, Nat.reduceDiv, Nat.reduceMod, Nat.reduceLT, Nat.reduceLeDiff, Nat.reduceAdd, Nat.reduceSub, Nat.reduceMul, Nat.reduceEqDiff, Nat.reduceBEq, Nat.reduceBNe, Nat.reduceGT, bZ]
 repeat refine ⟨by first | omega | assumption | decide | exact all_len fun _ => rfl | (intro _; omega) | rfl | exact fun e => absurd (List.map_eq_nil_iff.1 e) (by assumption) | (and_intros <;> first | omega | assumption | decide | exact all_len fun _ => rfl), ?_⟩
 obtain ⟨y1, hc1, hm⟩ := bd hm
 refine RP (fun _ => emit_Make_ok (TLoops.mk 6 (lit ([1] : List Int)) (lit ([5] : List Int)) (lit ([(TLoop.mk 1 0 0 5 [] (lit ([(TPush.mk 2 0 1 0), (TPush.mk 1 0 0 2), (TPush.mk 6 1 0 0)] : List TPush)))] : List TLoop))) _ hc1) ?_
 refine RunRest_ops ?_
 refine go ?_
 refine hk _ _ ?_
 clear hk hp k kp
 refine W_regG [2, 3, 18, 19, 20, 21, 22, 23, 24, 25, 26, 27, 28, 29, 30, 31, 32, 33, 34, 35, 36] fun k kp hk hp => ?_
 refine RunRest_cut 4 ?_
 refine go ?_
 by_cases h2 : ((y1.2).code) = 0
 ·rw [if_pos h2] at hm
  have h2b : (((y1.2).code) == 0) = true := beq_iff_eq.2 h2
  refine RunRest_cut 5 ?_
  refine gox h2b ?_
  by_cases h3 : ((y1.1).cost) = 4
  ·rw [if_pos h3] at hm
   have h3b : (((y1.1).cost) == 4) = true := beq_iff_eq.2 h3
   refine RunRest_cut 5 ?_
   refine gox (a2 h2b h3b) ?_
   by_cases h4 : ((y1.1).regs) = 4
   ·rw [if_pos h4] at hm
    have h4b : (((y1.1).regs) == 4) = true := beq_iff_eq.2 h4
    refine RunRest_ops ?_
    refine gox (a2 h2b (a2 h3b h4b)) ?_
    refine hk _ _ ?_
    clear hk hp k kp
    refine W_ret ?_
    refine KBody_ret [] ?_
    obtain rfl := Option.some.inj hm
    exact en
   ·rw [if_neg h4] at hm
    have h4b : (((y1.1).regs) == 4) = false := beq_eq_false_iff_ne.2 h4
    refine RunRest_ops ?_
    refine gox (a2 h2b (a2 h3b h4b)) ?_
    refine hk _ _ ?_
    clear hk hp k kp
    refine W_ret ?_
    refine KBody_ret [] ?_
    obtain rfl := Option.some.inj hm
    exact en
  ·rw [if_neg h3] at hm
   have h3b : (((y1.1).cost) == 4) = false := beq_eq_false_iff_ne.2 h3
   refine RunRest_ops ?_
   refine gox (a2 h2b h3b) ?_
   refine hk _ _ ?_
   clear hk hp k kp
   refine W_ret ?_
   refine KBody_ret [] ?_
   obtain rfl := Option.some.inj hm
   exact en
 ·rw [if_neg h2] at hm
  have h2b : (((y1.2).code) == 0) = false := beq_eq_false_iff_ne.2 h2
  refine RunRest_ops ?_
  refine gox h2b ?_
  refine hk _ _ ?_
  clear hk hp k kp
  refine W_ret ?_
  refine KBody_ret [] ?_
  obtain rfl := Option.some.inj hm
  exact en
end Pam

/- the walk of ref_GreatLoops, printed by a program of ours -/
namespace Pam
open Go Go.Proofs
set_option maxRecDepth 100000 in
set_option maxHeartbeats 1000000 in
theorem ref_GreatLoops_ok (p1 : TLoops) (r : Bool) (hm : ref_GreatLoops p1 = some r) : SpecF Try.prog 16 [.a [.int .i64 p1.cells, .tree 1 (p1.put.map (eK .i64)), .tree 1 (p1.get.map (eK .i64)), .tree 6 (p1.steps.map TLoop.enc)]] (.c (.bool r)) := by
 refine Spec_ofD 65 [.tmp 2] Try.func16 rfl rfl rfl (by kernel_rfl) (by simp) ?_
 refine W_eqf ?_
 unfold ref_GreatLoops at hm
 refine W_rg [0, 2] ?_
 refine W_seq_k fun k1 hk1 => ?_
 refine W_regG [5, 6, 7, 8, 9, 10, 11, 12, 13, 14, 15, 16, 17, 18, 19] fun k kp hk hp => ?_
 refine RunRest_cut 5 ?_
 refine go ?_
 by_cases h1 : (p1.put.length : Int) > 7000
 ·rw [if_pos h1] at hm
  have h1b : decide ((p1.put.length : Int) > 7000) = true := decide_eq_true h1
  refine RunRest_ops ?_
  refine gox h1b ?_
  refine hk _ _ ?_
  clear hk hp k kp
  refine W_condt rfl rfl ?_
  refine W_rg [1, 20] ?_
  refine W_ret ?_
  refine KThen_r ?_
  refine KBody_ret [] ?_
  obtain rfl := Option.some.inj hm
  exact en
 ·rw [if_neg h1] at hm
  have h1b : decide ((p1.put.length : Int) > 7000) = false := decide_eq_false h1
  refine RunRest_cut 6 ?_
  refine gox h1b ?_
  by_cases h2 : (p1.get.length : Int) > 130000
  ·rw [if_pos h2] at hm
   have h2b : decide ((p1.get.length : Int) > 130000) = true := decide_eq_true h2
   refine RunRest_ops ?_
   refine gox (a2 h1b h2b) ?_
   refine hk _ _ ?_
   clear hk hp k kp
   refine W_condt rfl rfl ?_
   refine W_rg [1, 20] ?_
   refine W_ret ?_
   refine KThen_r ?_
   refine KBody_ret [] ?_
   obtain rfl := Option.some.inj hm
   exact en
  ·rw [if_neg h2] at hm
   have h2b : decide ((p1.get.length : Int) > 130000) = false := decide_eq_false h2
   refine RunRest_ops ?_
   refine gox (a2 h1b h2b) ?_
   refine hk _ _ ?_
   clear hk hp k kp
   by_cases h3 : (p1.steps.length : Int) > 1300
   ·rw [if_pos h3] at hm
    refine W_condt rfl (decide_eq_true h3) ?_
    refine W_rg [1, 20] ?_
    refine W_ret ?_
    refine KThen_r ?_
    refine KBody_ret [] ?_
    obtain rfl := Option.some.inj hm
    exact en
   ·rw [if_neg h3] at hm
    refine W_condf rfl (decide_eq_false h3) ?_
    refine W_skip ?_
    refine KThen_n (hk1 _ _ ?_)
    refine W_rg [20] ?_
    refine W_joinM (S := Int) (V := Unit) [1, 2, 3, 4, 21, 22, 23, 24, 25, 26, 27, 28, 29, 30, 31, 32, 33, 34, 35, 36, 37, 38, 39, 40, 41, 42, 43, 44, 45, 46, 47, 48, 49, 50, 51, 52, 53, 54, 55, 56, 57, 58, 59, 60, 61, 62] (fun x1 _ => [(3, .c (.int .i64 x1))]) (fun x1 _ => [.box [.int .i64 p1.cells, .tree 1 (p1.put.map (eK .i64)), .tree 1 (p1.get.map (eK .i64)), .tree 6 (p1.steps.map TLoop.enc)]]) (fun x1 => ref_GreatLoops_j1 x1 = some r) ?_ ?_
    ·skip
     refine W_rg [] ?_
     refine W_block ?_
     obtain ⟨o1, hl1, hm1⟩ := bd hm
     refine W_loopM (S := (Int × Int)) (V := Unit) (O := Int ⊕ Bool) [2, 3, 4, 21, 22, 23, 24, 25, 26, 27, 28, 29, 30, 31, 32, 33, 34, 35, 36, 37, 38, 39, 40, 41, 42, 43, 44, 45, 46, 47, 48, 49, 50, 51, 52, 53, 54, 55, 56, 57, 58, 59, 60, 61, 62] (fun (x6, x7) _ => [(3, .c (.int .i64 x6)), (4, .c (.int .i64 x7))]) (fun (x6, x7) _ => [.box [.int .i64 p1.cells, .tree 1 (p1.put.map (eK .i64)), .tree 1 (p1.get.map (eK .i64)), .tree 6 (p1.steps.map TLoop.enc)]]) _ _ () hl1 ?_ ?_
     ·exact ls
     ·rintro ⟨x6, x7⟩ _ r1 hm hr1
      replace hm : ref_GreatLoops_l1 p1 x6 x7 = some r1 := hm
      refine W_eqm ?_
      unfold ref_GreatLoops_l1 at hm
      refine W_seq_k fun k2 hk2 => ?_
      refine W_rg [21, 22, 23, 24] ?_
      by_cases h4 : x7 < (p1.steps.length : Int)
      ·rw [if_pos h4] at hm
       refine W_condt rfl (decide_eq_true h4) ?_
       refine W_skip ?_
       refine KThen_n (hk2 _ _ ?_)
       refine W_seq_k fun k3 hk3 => ?_
       refine W_block ?_
       refine W_seq_k fun k4 hk4 => ?_
       obtain ⟨hg5a, hm⟩ := gd hm
       refine W_regG [25, 28, 29, 30, 31, 32, 33, 34, 35, 36, 37, 38, 39, 40, 41, 42, 43, 44] fun k kp hk hp => ?_
       refine RunRest_cut 9 ?_
       refine gox (em TLoop.enc p1.steps x7.toNat) ?_
       by_cases h6 : (((p1.steps.getD x7.toNat default).e).length : Int) > 1000
       ·rw [if_pos h6] at hm
        have h6b : decide ((((p1.steps.getD x7.toNat default).e).length : Int) > 1000) = true := decide_eq_true h6
        refine RunRest_ops ?_
        refine gox h6b ?_
        refine hk _ _ ?_
        clear hk hp k kp
        refine W_condt rfl rfl ?_
        refine W_rg [1, 3, 4, 45] ?_
        have ho7 := out_eq hm hr1
        subst ho7
        replace hm : some true = some r := hm1
        refine W_ret ?_
        refine KThen_r ?_
        refine KBlock_r ?_
        refine KThen_r ?_
        refine KLoopM_r ?_
        refine KBlock_r ?_
        refine KJoinM_r ?_
        refine KBody_ret [] ?_
        obtain rfl := Option.some.inj hm
        exact en
       ·rw [if_neg h6] at hm
        have h6b : decide ((((p1.steps.getD x7.toNat default).e).length : Int) > 1000) = false := decide_eq_false h6
        refine RunRest_ops ?_
        refine gox (a2 (em TLoop.enc p1.steps x7.toNat) h6b) ?_
        refine hk _ _ ?_
        clear hk hp k kp
        by_cases h8 : (((p1.steps.getD x7.toNat default).f).length : Int) > 1000
        ·rw [if_pos h8] at hm
         refine W_condt rfl (decide_eq_true h8) ?_
         refine W_rg [1, 3, 4, 45] ?_
         have ho9 := out_eq hm hr1
         subst ho9
         replace hm : some true = some r := hm1
         refine W_ret ?_
         refine KThen_r ?_
         refine KBlock_r ?_
         refine KThen_r ?_
         refine KLoopM_r ?_
         refine KBlock_r ?_
         refine KJoinM_r ?_
         refine KBody_ret [] ?_
         obtain rfl := Option.some.inj hm
         exact en
        ·rw [if_neg h8] at hm
         refine W_condf rfl (decide_eq_false h8) ?_
         refine W_skip ?_
         refine KThen_n (hk4 _ _ ?_)
         refine W_anx (em TLoop.enc p1.steps x7.toNat) [0, 0, 2, 0, 14, 30, 62, 126, 0, 256, 0, 1792, 3840, 7936, 16128, 32766, 65535, 131071] [false, false, false, false, false, false, false, false, false, false, false, false, false, false, false, false, true, true] ?_
         refine KBlock_n ?_
         refine KThen_n (hk3 _ _ ?_)
         refine W_rn ?_
         refine KLoopM_n ((IntKind.wrap .i64 (x6 + (IntKind.wrap .i64 ((((p1.steps.getD x7.toNat default).e).length : Int) + (((p1.steps.getD x7.toNat default).f).length : Int))))), (IntKind.wrap .i64 (x7 + 1))) () hm ?_
         exact ls
      ·rw [if_neg h4] at hm
       refine W_condf rfl (decide_eq_false h4) ?_
       refine W_exit ?_
       have ho10 := out_eq hm hr1
       subst ho10
       replace hm : ref_GreatLoops_j1 x6 = some r := hm1
       refine KThen_x ?_
       refine KLoopM_x ?_
       refine KBlock_hit ?_
       refine KJoinM_n x6 () hm ?_
       exact ls
    ·rintro x1 _ hm
     replace hm : ref_GreatLoops_j1 x1 = some r := hm
     refine W_eqm ?_
     unfold ref_GreatLoops_j1 at hm
     refine W_rg [3, 63, 64] ?_
     refine W_ret ?_
     refine KBody_ret [] ?_
     obtain rfl := Option.some.inj hm
     exact en
end Pam

/- the walk of ref_CopyLoops, printed by a program of ours -/
namespace Pam
open Go Go.Proofs
set_option maxRecDepth 100000 in
set_option maxHeartbeats 1000000 in
theorem ref_CopyLoops_ok (p1 : TLoops) (r : TLoops) (hm : ref_CopyLoops p1 = some r) : SpecF Try.prog 17 [.a [.int .i64 p1.cells, .tree 1 (p1.put.map (eK .i64)), .tree 1 (p1.get.map (eK .i64)), .tree 6 (p1.steps.map TLoop.enc)]] (.a [.int .i64 ((r).cells), .tree 1 (((r).put).map (eK .i64)), .tree 1 (((r).get).map (eK .i64)), .tree 6 (((r).steps).map TLoop.enc)]) := by
 refine Spec_ofD 50 [.cell 2 25] Try.func17 rfl rfl rfl (by kernel_rfl) (by simp) ?_
 refine W_eqf ?_
 unfold ref_CopyLoops at hm
 refine W_rg [0] ?_
 refine W_rg [] ?_
 obtain ⟨⟨⟨hg1ax, hg1ay⟩, ⟨hg1bx, hg1by⟩⟩, hm⟩ := gd hm
 refine W_lateT [3, 4, 10, 11, 12, 13, 14, 15, 16, 17, 18, 19, 20] [5] [0, 1, 0, 0, 8, 28, 0, 0, 128, 508, 1023, 0, 4095] [false, false, false, false, false, false, false, false, false, false, false, false, true] (by kernel_rfl) (by kernel_rfl) (by decide) fun k kp hk => ?_
 simp only [virt, late, vOne, hush]
 refine ga ?_
 refine go ?_
 refine hk _ _ ?_
 clear hk k kp
 refine W_eqa [.box [.int .i64 p1.cells, .tree 1 (p1.put.map (eK .i64)), .tree 1 (p1.get.map (eK .i64)), .tree 6 (p1.steps.map TLoop.enc)], .box [.int .i64 0, .nils, .nils, .nils], .arr 1 0 3 (p1.put.map (eK .i64)), .arr 1 0 3 (p1.get.map (eK .i64)), .box [.int .i64 p1.cells, .osl 2 0 0 p1.put.length, .osl 3 0 0 p1.get.length, .nils]] ?_
 refine W_gh (Ghost_nilB 4 3 6 108 (by decide) rfl rfl) ?_
 refine W_joinM (S := (List TLoop)) (V := Nat) [1, 6, 7, 8, 9, 21, 22, 23, 24, 25, 26, 27, 28, 29, 30, 31, 32, 33, 34, 35, 36, 37, 38, 39, 40, 41, 42, 43, 44, 45, 46, 47, 48] (fun l3 v4 => []) (fun l3 v4 => [.box [.int .i64 p1.cells, .tree 1 (p1.put.map (eK .i64)), .tree 1 (p1.get.map (eK .i64)), .tree 6 (p1.steps.map TLoop.enc)], .box [.int .i64 0, .nils, .nils, .nils], .arr 1 0 3 (p1.put.map (eK .i64)), .arr 1 0 3 (p1.get.map (eK .i64)), .box [.int .i64 p1.cells, .osl 2 0 0 p1.put.length, .osl 3 0 0 p1.get.length, .osl 5 v4 0 l3.length], .arr 6 v4 108 (l3.map TLoop.enc)]) (fun l3 => ref_CopyLoops_j1 p1 l3 = some r) ?_ ?_
 ·skip
  refine W_rg [] ?_
  refine W_block ?_
  obtain ⟨o1, hl1, hm1⟩ := bd hm
  refine W_loopM (S := ((List TLoop) × Int)) (V := Nat) (O := (List TLoop)) [6, 7, 8, 9, 21, 22, 23, 24, 25, 26, 27, 28, 29, 30, 31, 32, 33, 34, 35, 36, 37, 38, 39, 40, 41, 42, 43, 44, 45, 46, 47, 48] (fun (l17, x19) v18 => [(6, .c (.int .i64 x19))]) (fun (l17, x19) v18 => [.box [.int .i64 p1.cells, .tree 1 (p1.put.map (eK .i64)), .tree 1 (p1.get.map (eK .i64)), .tree 6 (p1.steps.map TLoop.enc)], .box [.int .i64 0, .nils, .nils, .nils], .arr 1 0 3 (p1.put.map (eK .i64)), .arr 1 0 3 (p1.get.map (eK .i64)), .box [.int .i64 p1.cells, .osl 2 0 0 p1.put.length, .osl 3 0 0 p1.get.length, .osl 5 v18 0 l17.length], .arr 6 v18 108 (l17.map TLoop.enc)]) _ _ 0 hl1 ?_ ?_
  ·exact ls
  ·rintro ⟨l17, x19⟩ v18 r1 hm hr1
   replace hm : ref_CopyLoops_l1 p1 l17 x19 = some r1 := hm
   refine W_eqm ?_
   unfold ref_CopyLoops_l1 at hm
   refine W_seq_k fun k1 hk1 => ?_
   refine W_rg [21, 22, 23, 24] ?_
   by_cases h2 : x19 < (p1.steps.length : Int)
   ·rw [if_pos h2] at hm
    refine W_condt rfl (decide_eq_true h2) ?_
    refine W_skip ?_
    refine KThen_n (hk1 _ _ ?_)
    refine W_seq_k fun k2 hk2 => ?_
    refine W_block ?_
    obtain ⟨hg3a, hm⟩ := gd hm
    refine W_rgx (em TLoop.enc p1.steps x19.toNat) [25, 28, 29, 30, 31, 32] ?_
    refine W_rg [] ?_
    obtain ⟨⟨⟨hg4ax, hg4ay⟩, ⟨hg4bx, hg4by⟩⟩, hm⟩ := gd hm
    refine W_ag [8, 9, 33, 34, 35, 36, 37, 38, 39, 40, 41, 42] [0, 0, 2, 7, 0, 0, 32, 127, 111, 511, 1023, 2047] [false, false, false, false, false, false, false, false, false, true, true, true] ?_
    refine W_eqa [.box [.int .i64 p1.cells, .tree 1 (p1.put.map (eK .i64)), .tree 1 (p1.get.map (eK .i64)), .tree 6 (p1.steps.map TLoop.enc)], .box [.int .i64 0, .nils, .nils, .nils], .arr 1 0 3 (p1.put.map (eK .i64)), .arr 1 0 3 (p1.get.map (eK .i64)), .box [.int .i64 p1.cells, .osl 2 0 0 p1.put.length, .osl 3 0 0 p1.get.length, .osl 5 v18 0 l17.length], .arr 6 v18 108 (l17.map TLoop.enc), .box [.int .i64 ((p1.steps.getD x19.toNat default).op), .int .i64 ((p1.steps.getD x19.toNat default).k), .int .i64 ((p1.steps.getD x19.toNat default).n), .int .i64 ((p1.steps.getD x19.toNat default).to), .osl 8 0 0 (((p1.steps.getD x19.toNat default).f).length), .osl 7 0 0 (((p1.steps.getD x19.toNat default).e).length)], .arr 4 0 106 (((p1.steps.getD x19.toNat default).e).map TPush.enc), .arr 4 0 106 (((p1.steps.getD x19.toNat default).f).map TPush.enc)] ?_
    refine W_gh (Ghost_fr 7 rfl) ?_
    refine W_gh (Ghost_fr 8 rfl) ?_
    obtain ⟨⟨hg5ax, hg5ay⟩, hm⟩ := gd hm
    refine W_rn ?_
    refine KBlock_n ?_
    refine KThen_n (hk2 _ _ ?_)
    refine W_rn ?_
    refine KLoopM_n ((l17 ++ (lit ([(p1.steps.getD x19.toNat default)] : List TLoop))), (IntKind.wrap .i64 (x19 + 1))) (v18 + 1) hm ?_
    exact ls
   ·rw [if_neg h2] at hm
    refine W_condf rfl (decide_eq_false h2) ?_
    refine W_exit ?_
    have ho6 := out_eq hm hr1
    subst ho6
    replace hm : ref_CopyLoops_j1 p1 l17 = some r := hm1
    refine KThen_x ?_
    refine KLoopM_x ?_
    refine KBlock_hit ?_
    refine KJoinM_n l17 v18 hm ?_
    exact ls
 ·rintro l3 v4 hm
  replace hm : ref_CopyLoops_j1 p1 l3 = some r := hm
  refine W_eqm ?_
  unfold ref_CopyLoops_j1 at hm
  refine W_rg [5, 49] ?_
  refine W_gh (Ghost_fr 2 rfl) ?_
  refine W_gh (Ghost_fr 3 rfl) ?_
  refine W_gh (Ghost_fr 5 rfl) ?_
  refine W_ret ?_
  refine KBody_ret [] ?_
  obtain rfl := Option.some.inj hm
  exact en
end Pam

/- the walk of emit_Make_2, printed by a program of ours -/
namespace Pam
open Go Go.Proofs
set_option maxRecDepth 100000 in
set_option maxHeartbeats 8000000 in
theorem emit_Make_2_ok (p1 : TLoops) (p2 : List Int) (r : (TImage × TFault)) (hm : emit_Make_2 p1 p2 = some r) : SpecF Try.prog 18 [.a [.int .i64 p1.cells, .tree 1 (p1.put.map (eK .i64)), .tree 1 (p1.get.map (eK .i64)), .tree 6 (p1.steps.map TLoop.enc)], .c (.tree 1 (p2.map (eK .i64)))] (.t [.a [.int .i64 ((r.1).cells), .int .i64 ((r.1).regs), .int .i64 ((r.1).cost), .tree 1 (((r.1).put).map (eK .i64)), .tree 1 (((r.1).bools).map (eK .i64)), .tree 1 (((r.1).get).map (eK .i64)), .tree 6 (((r.1).code).map TIns.enc)], .a [.int .i64 ((r.2).code), .int .i64 ((r.2).at_)]]) := by
 refine Spec_ofD 91 [.cell 4 31, .cell 5 33] Try.func18 rfl rfl rfl (by kernel_rfl) (by simp) ?_
 refine W_eqf ?_
 unfold emit_Make_2 at hm
 refine W_rg [0] ?_
 refine W_seq_k fun k1 hk1 => ?_
 refine W_regF [12, 13] fun k kp hk hp => ?_
 refine go ?_
 obtain ⟨y1, hc1, hm⟩ := bd hm
 refine RP (fun _ => loop_Check_ok p1 _ hc1) ?_
 refine RunRest_ops ?_
 refine go ?_
 refine hk _ _ ?_
 clear hk hp k kp
 refine W_rg [14, 15] ?_
 by_cases h2 : ¬ ((y1).code) = 0
 ·rw [if_pos h2] at hm
  refine W_condt rfl (bne_iff_ne.2 h2) ?_
  refine W_anyPF [1, 2, 6, 16, 17, 18] (by kernel_rfl) [1] [0, 0, 1, 7] [false, false, false, true] [false, false, true, false] [[], [6], [], []] (by kernel_rfl) fun k hk => ?_
  simp only [bAP, bT, tab, bX, reduceIte, ↓reduceIte, reduceCtorEq, Int.reduceToNat, Nat.reduceDiv, Nat.reduceMod, Nat.reduceLT, Nat.reduceLeDiff, Nat.reduceAdd, Nat.reduceSub, Nat.reduceMul, Nat.reduceEqDiff, Nat.reduceBEq, Nat.reduceBNe, Nat.reduceGT, List.replicate, List.foldr]
  repeat refine ⟨by first | omega | assumption | decide | exact all_len fun _ => rfl | (intro _; omega) | rfl | exact fun e => absurd (List.map_eq_nil_iff.1 e) (by assumption) | (and_intros <;> first | omega | assumption | decide | exact all_len fun _ => rfl) | (refine .inl ?_; simp only [extB]; and_intros <;> first | rfl | trivial) | (refine .inr (.inl ?_); simp only [extB]; and_intros <;> first | rfl | trivial) | (refine .inr ?_; simp only [nearB]; and_intros <;> first | exact .inl rfl | exact .inr rfl | trivial) | (refine .inr (.inr ⟨rfl, ?_⟩); simp only [nearB]; and_intros <;> first | exact .inl rfl | exact .inr rfl | trivial) | exact .inl rfl, ?_⟩
  refine hk _ _ ?_
  clear hk k
  refine W_ghost (Ghost_ntB 1 [.int .i64 0, .int .i64 0, .int .i64 0, .tree 1 ([].map (eK .i64)), .tree 1 ([].map (eK .i64)), .tree 1 ([].map (eK .i64)), .tree 6 ([].map TIns.enc)] rfl (by and_intros <;> trivial)) ?_
  refine W_eqE rfl (by simp only [bZ, bL, reduceIte, ↓reduceIte, reduceCtorEq, Int.reduceToNat, Nat.reduceDiv, Nat.reduceMod, Nat.reduceLT, Nat.reduceLeDiff, Nat.reduceAdd, Nat.reduceSub, Nat.reduceMul, Nat.reduceEqDiff, Nat.reduceBEq, Nat.reduceBNe, Nat.reduceGT]; rfl) ?_
  refine W_ret ?_
  refine KThen_r ?_
  refine KBody_ret [] ?_
  obtain rfl := Option.some.inj hm
  exact en
 ·rw [if_neg h2] at hm
  refine W_condf rfl (bne_eq_false_iff_eq.2 (Decidable.not_not.1 h2)) ?_
  refine W_skip ?_
  refine KThen_n (hk1 _ _ ?_)
  refine W_rg [6, 16, 19, 20] ?_
  refine W_gh (Ghost_nilB 4 0 6 118 (by decide) rfl rfl) ?_
  refine W_joinM (S := (Int × (List TIns))) (V := Nat) [8, 9, 21, 22, 23, 24, 25, 26, 27, 28, 29, 30, 31, 32, 33, 34, 35, 36, 37, 38, 39, 40, 41, 42, 43, 44, 45, 46, 47, 48] (fun (x4, l5) v6 => []) (fun (x4, l5) v6 => [.box [.int .i64 p1.cells, .tree 1 (p1.put.map (eK .i64)), .tree 1 (p1.get.map (eK .i64)), .tree 6 (p1.steps.map TLoop.enc)], .box [.int .i64 0, .int .i64 0, .int .i64 0, .nils, .nils, .nils, .nils], .box [.int .i64 0, .int .i64 0], .box [.int .i64 ((y1).code), .int .i64 ((y1).at_)], .box [.osl 5 v6 0 l5.length, .int .i64 x4], .arr 6 v6 118 (l5.map TIns.enc)]) (fun (x4, l5) => emit_Make_2_j1 p1 p2 x4 l5 = some r) ?_ ?_
  ·skip
   refine W_rg [21] ?_
   refine W_block ?_
   obtain ⟨o1, hl1, hm1⟩ := bd hm
   refine W_loopM (S := (Int × (List TIns) × Int)) (V := Nat) (O := (Int × (List TIns)) ⊕ (TImage × TFault)) [8, 9, 24, 25, 26, 27, 28, 29, 30, 31, 32, 33, 34, 35, 36, 37, 38, 39, 40, 41, 42, 43, 44, 45, 46, 47, 48] (fun (x23, l24, x26) v25 => [(24, .c (.int .i64 x26))]) (fun (x23, l24, x26) v25 => [.box [.int .i64 p1.cells, .tree 1 (p1.put.map (eK .i64)), .tree 1 (p1.get.map (eK .i64)), .tree 6 (p1.steps.map TLoop.enc)], .box [.int .i64 0, .int .i64 0, .int .i64 0, .nils, .nils, .nils, .nils], .box [.int .i64 0, .int .i64 0], .box [.int .i64 ((y1).code), .int .i64 ((y1).at_)], .box [.osl 5 v25 0 l24.length, .int .i64 x23], .arr 6 v25 118 (l24.map TIns.enc)]) _ _ 0 hl1 ?_ ?_
   ·exact ls
   ·rintro ⟨x23, l24, x26⟩ v25 r1 hm hr1
    replace hm : emit_Make_2_l1 p1 x23 l24 x26 = some r1 := hm
    refine W_eqm ?_
    unfold emit_Make_2_l1 at hm
    refine W_rg [] ?_
    refine W_seq_k fun k3 hk3 => ?_
    by_cases h7 : x26 < (p1.steps.length : Int)
    ·rw [if_pos h7] at hm
     refine W_condt rfl (decide_eq_true h7) ?_
     refine W_skip ?_
     refine KThen_n (hk3 _ _ ?_)
     refine W_seq_k fun k4 hk4 => ?_
     refine W_block ?_
     obtain ⟨hg8a, hm⟩ := gd hm
     refine W_rgx (em TLoop.enc p1.steps x26.toNat) [25, 26, 27, 28] ?_
     refine W_regF [9, 29, 30, 31] fun k kp hk hp => ?_
     refine go ?_
     obtain ⟨y27, hc9, hm⟩ := bd hm
     refine RA (emit_emitter_step_ok (p1.steps.getD x26.toNat default) x23 l24 v25 _ hc9) [4, 5] ?_
     rintro p σ' hq10 _
     obtain ⟨v28, rfl, rfl⟩ := hq10
     refine RunRest_ops ?_
     refine go ?_
     refine hk _ _ ?_
     clear hk hp k kp
     refine W_regG [32, 33, 34, 35, 36, 37, 38, 39, 40, 41, 42, 43] fun k kp hk hp => ?_
     refine RunRest_cut 7 ?_
     refine go ?_
     by_cases h11 : (y27.2.length : Int) > 200000
     ·rw [if_pos h11] at hm
      have h11b : decide ((y27.2.length : Int) > 200000) = true := decide_eq_true h11
      refine RunRest_ops ?_
      refine gox h11b ?_
      refine hk _ _ ?_
      clear hk hp k kp
      refine W_condt rfl rfl ?_
      refine W_rg [1, 2, 7, 8, 22, 23, 24, 44, 45, 46, 47] ?_
      refine W_ghost (Ghost_ntB 1 [.int .i64 0, .int .i64 0, .int .i64 0, .tree 1 ([].map (eK .i64)), .tree 1 ([].map (eK .i64)), .tree 1 ([].map (eK .i64)), .tree 6 ([].map TIns.enc)] rfl (by and_intros <;> trivial)) ?_
      refine W_eqE rfl (by simp only [bZ, bL, reduceIte, ↓reduceIte, reduceCtorEq, Int.reduceToNat, Nat.reduceDiv, Nat.reduceMod, Nat.reduceLT, Nat.reduceLeDiff, Nat.reduceAdd, Nat.reduceSub, Nat.reduceMul, Nat.reduceEqDiff, Nat.reduceBEq, Nat.reduceBNe, Nat.reduceGT]; rfl) ?_
      have ho12 := out_eq hm hr1
      subst ho12
      replace hm : some ((TImage.mk 0 0 0 [] [] [] []), (TFault.mk 7 x26)) = some r := hm1
      refine W_ret ?_
      refine KBlock_r ?_
      refine KThen_r ?_
      refine KLoopM_r ?_
      refine KBlock_r ?_
      refine KJoinM_r ?_
      refine KBody_ret [] ?_
      obtain rfl := Option.some.inj hm
      exact en
     ·rw [if_neg h11] at hm
      have h11b : decide ((y27.2.length : Int) > 200000) = false := decide_eq_false h11
      refine RunRest_ops ?_
      refine gox h11b ?_
      refine hk _ _ ?_
      clear hk hp k kp
      by_cases h13 : y27.1 > 40
      ·rw [if_pos h13] at hm
       refine W_condt rfl (decide_eq_true h13) ?_
       refine W_rg [1, 2, 7, 8, 22, 23, 24, 44, 45, 46, 47] ?_
       refine W_ghost (Ghost_ntB 1 [.int .i64 0, .int .i64 0, .int .i64 0, .tree 1 ([].map (eK .i64)), .tree 1 ([].map (eK .i64)), .tree 1 ([].map (eK .i64)), .tree 6 ([].map TIns.enc)] rfl (by and_intros <;> trivial)) ?_
       refine W_eqE rfl (by simp only [bZ, bL, reduceIte, ↓reduceIte, reduceCtorEq, Int.reduceToNat, Nat.reduceDiv, Nat.reduceMod, Nat.reduceLT, Nat.reduceLeDiff, Nat.reduceAdd, Nat.reduceSub, Nat.reduceMul, Nat.reduceEqDiff, Nat.reduceBEq, Nat.reduceBNe, Nat.reduceGT]; rfl) ?_
       have ho14 := out_eq hm hr1
       subst ho14
       replace hm : some ((TImage.mk 0 0 0 [] [] [] []), (TFault.mk 7 x26)) = some r := hm1
       refine W_ret ?_
       refine KBlock_r ?_
       refine KThen_r ?_
       refine KLoopM_r ?_
       refine KBlock_r ?_
       refine KJoinM_r ?_
       refine KBody_ret [] ?_
       obtain rfl := Option.some.inj hm
       exact en
      ·rw [if_neg h13] at hm
       refine W_condf rfl (decide_eq_false h13) ?_
       refine W_skip ?_
       refine KBlock_n ?_
       refine KThen_n (hk4 _ _ ?_)
       refine W_rn ?_
       refine KLoopM_n (y27.1, y27.2, (IntKind.wrap .i64 (x26 + 1))) v28 hm ?_
       exact ls
    ·rw [if_neg h7] at hm
     refine W_condf rfl (decide_eq_false h7) ?_
     refine W_exit ?_
     have ho15 := out_eq hm hr1
     subst ho15
     replace hm : emit_Make_2_j1 p1 p2 x23 l24 = some r := hm1
     refine KThen_x ?_
     refine KLoopM_x ?_
     refine KBlock_hit ?_
     refine KJoinM_n (x23, l24) v25 hm ?_
     exact ls
  ·rintro ⟨x4, l5⟩ v6 hm
   replace hm : emit_Make_2_j1 p1 p2 x4 l5 = some r := hm
   refine W_eqm ?_
   unfold emit_Make_2_j1 at hm
   refine W_lateT [7, 49, 50, 51, 52, 53, 54, 55, 56, 57, 58, 59, 60, 61, 62, 63, 64] [10] [0, 1, 0, 4, 12, 28, 0, 64, 192, 448, 960, 0, 2048, 6144, 14336, 32767, 0, 131071] [false, false, false, false, false, false, false, false, false, false, false, false, false, false, false, false, false, true] (by kernel_rfl) (by kernel_rfl) (by decide) fun k kp hk => ?_
   simp only [virt, late, vOne, hush]
   refine ga ?_
   obtain ⟨y7, hc3, hm⟩ := bd hm
   refine AnyCall_at (σ2 := [.box [.int .i64 p1.cells, .tree 1 (p1.put.map (eK .i64)), .tree 1 (p1.get.map (eK .i64)), .tree 6 (p1.steps.map TLoop.enc)], .box [.int .i64 0, .int .i64 0, .int .i64 0, .nils, .nils, .nils, .nils], .box [.int .i64 0, .int .i64 0], .box [.int .i64 ((y1).code), .int .i64 ((y1).at_)], .box [.osl 5 v6 0 l5.length, .int .i64 x4], .arr 6 v6 118 (l5.map TIns.enc)]) (res := .c (.int .i64 y7)) ⟨_, _, _, _, [5], code_Cost_ok l5 v6 _ hc3, by simp, by simp, rfl, rfl, by first | trivial | (simp [bX, eK, eB, eS, eL, s_cap, psUnder, PV.under, CV.under, obsBelow, OB.under, cvsBelow]; done), by first | trivial | (simp [bX, eK, eB, eS, eL, s_cap, psUnder, PV.under, CV.under, obsBelow, OB.under, cvsBelow]; done), fun q τ hq _ => by obtain ⟨rfl, rfl⟩ := hq; exact ⟨rfl, rfl⟩, fun _ _ h => h.elim⟩ (by first | trivial | exact dst_ok rfl) (by first | trivial | (intro _; first | trivial | simp [need]) | simp [need]) (by first | exact .inl rfl | exact .inr (by simp only [extB]; and_intros <;> first | rfl | trivial)) ?_
   refine ga ?_
   refine go ?_
   refine hk _ _ ?_
   clear hk k kp
   obtain ⟨⟨⟨hg4ax, hg4ay⟩, ⟨hg4bx, hg4by⟩, ⟨hg4cx, hg4cy⟩⟩, hm⟩ := gd hm
   refine W_ag [1, 2, 65, 66, 67, 68, 69, 70, 71, 72, 73, 74, 75, 76, 77, 78, 79, 80, 81] [0, 1, 0, 4, 15, 0, 32, 0, 128, 511, 0, 1024, 0, 8191, 3199, 32767, 65535, 131071, 262143, 524287] [false, false, false, false, false, false, false, false, false, false, false, false, false, false, false, true, true, true, true, true] ?_
   refine W_eqa [.box [.int .i64 p1.cells, .tree 1 (p1.put.map (eK .i64)), .tree 1 (p1.get.map (eK .i64)), .tree 6 (p1.steps.map TLoop.enc)], .box [.int .i64 0, .int .i64 0, .int .i64 0, .nils, .nils, .nils, .nils], .box [.int .i64 0, .int .i64 0], .box [.int .i64 ((y1).code), .int .i64 ((y1).at_)], .box [.osl 5 v6 0 l5.length, .int .i64 x4], .arr 6 v6 118 (l5.map TIns.enc), .box [.int .i64 p1.cells, .int .i64 x4, .int .i64 y7, .osl 7 0 0 p1.put.length, .osl 9 0 0 p2.length, .osl 8 0 0 p1.get.length, .osl 5 v6 0 l5.length], .arr 1 0 3 (p1.put.map (eK .i64)), .arr 1 0 3 (p1.get.map (eK .i64)), .arr 1 0 3 (p2.map (eK .i64))] ?_
   refine W_seq_k fun k2 hk2 => ?_
   refine W_regF [82, 83] fun k kp hk hp => ?_
   refine go ?_
   refine RunCall_turn (Ghost_fr 5 rfl) ?_
   simp only [bR, bT, tab, bX, reduceIte, ↓reduceIte, reduceCtorEq, Int.reduceToNat, Nat.reduceDiv, Nat.reduceMod, Nat.reduceLT, Nat.reduceLeDiff, Nat.reduceAdd, Nat.reduceSub, Nat.reduceMul, Nat.reduceEqDiff, Nat.reduceBEq, Nat.reduceBNe, Nat.reduceGT, bZ]
   repeat refine ⟨by first | omega | assumption | decide | exact all_len fun _ => rfl | (intro _; omega) | rfl | exact fun e => absurd (List.map_eq_nil_iff.1 e) (by assumption) | (and_intros <;> first | omega | assumption | decide | exact all_len fun _ => rfl), ?_⟩
   refine RunCall_turn (Ghost_fr 7 rfl) ?_
   simp only [bR, bT, tab, bX, reduceIte, ↓reduceIte, reduceCtorEq, Int.reduceToNat, Nat.reduceDiv, Nat.reduceMod, Nat.reduceLT, Nat.reduceLeDiff, Nat.reduceAdd, Nat.reduceSub, Nat.reduceMul, Nat.reduceEqDiff, Nat.reduceBEq, Nat.reduceBNe, Nat.reduceGT, bZ]
   repeat refine ⟨by first | omega | assumption | decide | exact all_len fun _ => rfl | (intro _; omega) | rfl | exact fun e => absurd (List.map_eq_nil_iff.1 e) (by assumption) | (and_intros <;> first | omega | assumption | decide | exact all_len fun _ => rfl), ?_⟩
   refine RunCall_turn (Ghost_fr 8 rfl) ?_
   simp only [bR, bT, tab, bX, reduceIte, ↓reduceIte, reduceCtorEq, Int.reduceToNat, Nat.reduceDiv, Nat.reduceMod, Nat.reduceLT, Nat.reduceLeDiff, Nat.reduceAdd, Nat.reduceSub, Nat.reduceMul, Nat.reduceEqDiff, Nat.reduceBEq, Nat.reduceBNe, Nat.reduceGT, bZ]
   repeat refine ⟨by first | omega | assumption | decide | exact all_len fun _ => rfl | (intro _; omega) | rfl | exact fun e => absurd (List.map_eq_nil_iff.1 e) (by assumption) | (and_intros <;> first | omega | assumption | decide | exact all_len fun _ => rfl), ?_⟩
   refine RunCall_turn (Ghost_fr 9 rfl) ?_
   simp only [bR, bT, tab, bX, reduceIte, ↓reduceIte, reduceCtorEq, Int.reduceToNat, Nat.reduceDiv, Nat.reduceMod, Nat.reduceLT, Nat.reduceLeDiff, Nat.reduceAdd, Nat.reduceSub, Nat.reduceMul, Nat.reduceEqDiff, Nat.reduceBEq, Nat.reduceBNe, Nat.reduceGT, bZ]
   repeat refine ⟨by first | omega | assumption | decide | exact all_len fun _ => rfl | (intro _; omega) | rfl | exact fun e => absurd (List.map_eq_nil_iff.1 e) (by assumption) | (and_intros <;> first | omega | assumption | decide | exact all_len fun _ => rfl), ?_⟩
   obtain ⟨y8, hc5, hm⟩ := bd hm
   refine RP (fun _ => code_Check_ok (TImage.mk p1.cells x4 y7 p1.put p2 p1.get l5) _ hc5) ?_
   refine RunRest_ops ?_
   refine go ?_
   refine hk _ _ ?_
   clear hk hp k kp
   refine W_rg [84, 85] ?_
   by_cases h6 : ¬ ((y8).code) = 0
   ·rw [if_pos h6] at hm
    refine W_condt rfl (bne_iff_ne.2 h6) ?_
    refine W_anyPF [10, 11, 86, 87, 88] (by kernel_rfl) [1] [0, 0, 1, 7] [false, false, false, true] [false, false, true, false] [[], [11], [], []] (by kernel_rfl) fun k hk => ?_
    simp only [bAP, bT, tab, bX, reduceIte, ↓reduceIte, reduceCtorEq, Int.reduceToNat, Nat.reduceDiv, Nat.reduceMod, Nat.reduceLT, Nat.reduceLeDiff, Nat.reduceAdd, Nat.reduceSub, Nat.reduceMul, Nat.reduceEqDiff, Nat.reduceBEq, Nat.reduceBNe, Nat.reduceGT, List.replicate, List.foldr]
    repeat refine ⟨by first | omega | assumption | decide | exact all_len fun _ => rfl | (intro _; omega) | rfl | exact fun e => absurd (List.map_eq_nil_iff.1 e) (by assumption) | (and_intros <;> first | omega | assumption | decide | exact all_len fun _ => rfl) | (refine .inl ?_; simp only [extB]; and_intros <;> first | rfl | trivial) | (refine .inr (.inl ?_); simp only [extB]; and_intros <;> first | rfl | trivial) | (refine .inr ?_; simp only [nearB]; and_intros <;> first | exact .inl rfl | exact .inr rfl | trivial) | (refine .inr (.inr ⟨rfl, ?_⟩); simp only [nearB]; and_intros <;> first | exact .inl rfl | exact .inr rfl | trivial) | exact .inl rfl, ?_⟩
    refine hk _ _ ?_
    clear hk k
    refine W_ghost (Ghost_ntB 1 [.int .i64 0, .int .i64 0, .int .i64 0, .tree 1 ([].map (eK .i64)), .tree 1 ([].map (eK .i64)), .tree 1 ([].map (eK .i64)), .tree 6 ([].map TIns.enc)] rfl (by and_intros <;> trivial)) ?_
    refine W_eqE rfl (by simp only [bZ, bL, reduceIte, ↓reduceIte, reduceCtorEq, Int.reduceToNat, Nat.reduceDiv, Nat.reduceMod, Nat.reduceLT, Nat.reduceLeDiff, Nat.reduceAdd, Nat.reduceSub, Nat.reduceMul, Nat.reduceEqDiff, Nat.reduceBEq, Nat.reduceBNe, Nat.reduceGT]; rfl) ?_
    refine W_ret ?_
    refine KThen_r ?_
    refine KBody_ret [] ?_
    obtain rfl := Option.some.inj hm
    exact en
   ·rw [if_neg h6] at hm
    refine W_condf rfl (bne_eq_false_iff_eq.2 (Decidable.not_not.1 h6)) ?_
    refine W_skip ?_
    refine KThen_n (hk2 _ _ ?_)
    refine W_rg [10, 11, 86, 89, 90] ?_
    refine W_ret ?_
    refine KBody_ret [] ?_
    obtain rfl := Option.some.inj hm
    exact en
end Pam

/- the walk of ref_F, printed by a program of ours -/
namespace Pam
open Go Go.Proofs
set_option maxRecDepth 100000 in
set_option maxHeartbeats 1000000 in
theorem ref_F_ok (p1 : Int) (p2 : Int) (r : TFault) (hm : ref_F p1 p2 = some r) : SpecF Try.prog 55 [.c (.int .i64 p1), .c (.int .i64 p2)] (.a [.int .i64 ((r).code), .int .i64 ((r).at_)]) := by
 refine Spec_ofD 8 [.cell 4 33] Try.func55 rfl rfl rfl (by kernel_rfl) (by simp) ?_
 refine W_eqf ?_
 unfold ref_F at hm
 refine W_rg [] ?_
 refine W_rg [0, 1, 5, 6, 7] ?_
 refine W_ret ?_
 refine KBody_ret [] ?_
 obtain rfl := Option.some.inj hm
 exact en
end Pam

/- the walk of ref_there, printed by a program of ours -/
namespace Pam
open Go Go.Proofs
set_option maxRecDepth 100000 in
set_option maxHeartbeats 1000000 in
theorem ref_there_ok (p1 : TLoops) (p2 : Int) (p3 : Int) (r : Bool) (hm : ref_there p1 p2 p3 = some r) : SpecF Try.prog 76 [.a [.int .i64 p1.cells, .tree 1 (p1.put.map (eK .i64)), .tree 1 (p1.get.map (eK .i64)), .tree 6 (p1.steps.map TLoop.enc)], .c (.int .i64 p2), .c (.int .i64 p3)] (.c (.bool r)) := by
 refine Spec_ofD 27 [.tmp 6] Try.func76 rfl rfl rfl (by kernel_rfl) (by simp) ?_
 refine W_eqf ?_
 unfold ref_there at hm
 refine W_rg [0, 6] ?_
 by_cases h1 : p2 ≥ 0
 ·rw [if_pos h1] at hm
  have h1b : decide (p2 ≥ 0) = true := decide_eq_true h1
  refine W_regG [1, 2, 3, 7, 8, 9, 10, 11, 12, 13, 14, 15, 16, 17, 18, 19, 20, 21, 22, 23, 24, 25, 26] fun k kp hk hp => ?_
  refine RunRest_cut 9 ?_
  refine gox h1b ?_
  by_cases h2 : p2 < p1.cells
  ·rw [if_pos h2] at hm
   have h2b : decide (p2 < p1.cells) = true := decide_eq_true h2
   refine RunRest_cut 4 ?_
   refine gox (a2 h1b h2b) ?_
   by_cases h3 : p3 ≥ 1
   ·rw [if_pos h3] at hm
    have h3b : decide (p3 ≥ 1) = true := decide_eq_true h3
    refine RunRest_ops ?_
    refine gox (a2 h1b (a2 h2b h3b)) ?_
    refine hk _ _ ?_
    clear hk hp k kp
    refine W_ret ?_
    refine KBody_ret [] ?_
    obtain rfl := Option.some.inj hm
    exact en
   ·rw [if_neg h3] at hm
    have h3b : decide (p3 ≥ 1) = false := decide_eq_false h3
    refine RunRest_ops ?_
    refine gox (a2 h1b (a2 h2b h3b)) ?_
    refine hk _ _ ?_
    clear hk hp k kp
    refine W_ret ?_
    refine KBody_ret [] ?_
    obtain rfl := Option.some.inj hm
    exact en
  ·rw [if_neg h2] at hm
   have h2b : decide (p2 < p1.cells) = false := decide_eq_false h2
   refine RunRest_ops ?_
   refine gox (a2 h1b h2b) ?_
   refine hk _ _ ?_
   clear hk hp k kp
   refine W_ret ?_
   refine KBody_ret [] ?_
   obtain rfl := Option.some.inj hm
   exact en
 ·rw [if_neg h1] at hm
  have h1b : decide (p2 ≥ 0) = false := decide_eq_false h1
  refine W_rgx h1b [1, 2, 3, 7, 8, 9, 10, 11, 12, 13, 14, 15, 16, 17, 18, 19, 20, 21, 22, 23, 24, 25, 26] ?_
  refine W_ret ?_
  refine KBody_ret [] ?_
  obtain rfl := Option.some.inj hm
  exact en
end Pam

/- the walk of ref_OpOf, printed by a program of ours -/
namespace Pam
open Go Go.Proofs
set_option maxRecDepth 100000 in
set_option maxHeartbeats 1000000 in
theorem ref_OpOf_ok (p1 : Int) (r : (Int × Int × Int)) (hm : ref_OpOf p1 = some r) : SpecF Try.prog 120 [.c (.int .i64 p1)] (.t [.c (.int .u8 r.1), .c (.int .u8 r.2.1), .c (.int .i64 r.2.2)]) := by
 refine Spec_ofD 23 [.tmp 2, .tmp 3, .tmp 4] Try.func120 rfl rfl rfl (by kernel_rfl) (by simp) ?_
 refine W_eqf ?_
 unfold ref_OpOf at hm
 refine W_rg [2, 3, 4] ?_
 refine W_rg [] ?_
 refine W_rg [] ?_
 refine W_seq_k fun k1 hk1 => ?_
 by_cases h1 : p1 < 1
 ·rw [if_pos h1] at hm
  have h1b : decide (p1 < 1) = true := decide_eq_true h1
  refine W_rgx h1b [8, 9, 10, 11, 12] ?_
  refine W_condt rfl rfl ?_
  refine W_rg [0, 5, 6, 13] ?_
  refine W_ret ?_
  refine KThen_r ?_
  refine KBody_ret [] ?_
  obtain rfl := Option.some.inj hm
  exact en
 ·rw [if_neg h1] at hm
  have h1b : decide (p1 < 1) = false := decide_eq_false h1
  refine W_rgx h1b [8, 9, 10, 11, 12] ?_
  by_cases h2 : p1 > 14
  ·rw [if_pos h2] at hm
   refine W_condt rfl (decide_eq_true h2) ?_
   refine W_rg [0, 5, 6, 13] ?_
   refine W_ret ?_
   refine KThen_r ?_
   refine KBody_ret [] ?_
   obtain rfl := Option.some.inj hm
   exact en
  ·rw [if_neg h2] at hm
   refine W_condf rfl (decide_eq_false h2) ?_
   refine W_skip ?_
   refine KThen_n (hk1 _ _ ?_)
   refine W_rg [13] ?_
   refine W_joinM (S := Int) (V := Unit) [7, 14, 15] (fun x1 _ => [(7, .c (.int .i64 x1))]) (fun x1 _ => []) (fun x1 => ref_OpOf_j1 p1 x1 = some r) ?_ ?_
   ·skip
    refine W_rg [14] ?_
    by_cases h4 : p1 ≥ 13
    ·rw [if_pos h4] at hm
     refine W_condt rfl (decide_eq_true h4) ?_
     refine W_rn ?_
     refine KJoinM_n 1 () hm ?_
     exact ls
    ·rw [if_neg h4] at hm
     refine W_condf rfl (decide_eq_false h4) ?_
     refine W_skip ?_
     refine KJoinM_n 2 () hm ?_
     exact ls
   ·rintro x1 _ hm
    replace hm : ref_OpOf_j1 p1 x1 = some r := hm
    refine W_eqm ?_
    unfold ref_OpOf_j1 at hm
    obtain ⟨⟨hg3a, hg3b⟩, hm⟩ := gd hm
    refine W_ag [0, 5, 6, 7, 16, 17, 18, 19, 20, 21, 22] [0, 0, 3, 0, 0, 24, 0, 7, 191, 511] [false, false, false, false, false, false, false, false, false, true] ?_
    refine W_ret ?_
    refine KBody_ret [] ?_
    obtain rfl := Option.some.inj hm
    exact en
end Pam
