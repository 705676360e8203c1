/- the walk of slices_Grow_int_int, printed by a program of ours -/
import Derived.Test.YtkdminbbajdjpaaBase3
import Derived.Test.YtkdminbbajdjpaaLoopRowsFun1
set_option linter.all false
namespace Pam
open Go Go.Proofs
set_option maxRecDepth 100000 in
set_option maxHeartbeats 1000000 in
theorem slices_Grow_int_int_ok (p1 : Int) (r : (List Int)) (hm : slices_Grow_int_int p1 = some r) : Spec Try.prog 114 [.c (.nils), .c (.int .i64 p1)] [] (fun p σ => (p = .c (.osl 0 1 0 r.length) ∧ σ = [.arr 1 1 3 (r.map (eK .i64))])) (fun _ _ => False) := by
 refine Spec_ofD 27 [.tmp 4] Try.func114 rfl rfl rfl (by kernel_rfl) (by simp) ?_
 refine W_eqf ?_
 unfold slices_Grow_int_int at hm
 refine W_rg [4] ?_
 refine W_seq_k fun k1 hk1 => ?_
 refine W_rg [5] ?_
 by_cases h1 : p1 < 0
 ·rw [if_pos h1] at hm
  refine W_condt rfl (decide_eq_true h1) ?_
  cases hm
 ·rw [if_neg h1] at hm
  refine W_condf rfl (decide_eq_false h1) ?_
  refine W_skip ?_
  refine KThen_n (hk1 _ _ ?_)
  refine W_seq_k fun k2 hk2 => ?_
  refine W_regG [6, 8, 9, 10, 11, 12, 13, 14] fun k kp hk hp => ?_
  refine RunRest_cut 2 ?_
  refine go ?_
  refine RS (Ext_capN rfl rfl rfl rfl (by first | rfl | (simp only [bR, bT, tab, bX, reduceIte, ↓reduceIte, reduceCtorEq, Int.reduceToNat, Nat.reduceDiv, Nat.reduceMod, Nat.reduceLT, Nat.reduceLeDiff, Nat.reduceAdd, Nat.reduceSub, Nat.reduceMul, Nat.reduceEqDiff, Nat.reduceBEq, Nat.reduceBNe, Nat.reduceGT]; done)) (by first | kernel_rfl | exact of_decide_eq_true (by kernel_rfl))) ?_
  simp only [bR, bT, tab, bX, reduceIte, ↓reduceIte, reduceCtorEq, Int.reduceToNat, Nat.reduceDiv, Nat.reduceMod, Nat.reduceLT, Nat.reduceLeDiff, Nat.reduceAdd, Nat.reduceSub, Nat.reduceMul, Nat.reduceEqDiff, Nat.reduceBEq, Nat.reduceBNe, Nat.reduceGT]
  refine RunRest_ops ?_
  refine go ?_
  refine hk _ _ ?_
  clear hk hp k kp
  refine W_rg [15] ?_
  by_cases h2 : (IntKind.wrap .i64 (p1 - (IntKind.wrap .i64 (0 - 0)))) > 0
  ·rw [if_pos h2] at hm
   refine W_condt rfl (decide_eq_true h2) ?_
   refine W_regionG fun k kp hk hp => ?_
   refine RunRest_cut 2 ?_
   refine go ?_
   refine RS (Ext_capN rfl rfl rfl rfl (by first | rfl | (simp only [bR, bT, tab, bX, reduceIte, ↓reduceIte, reduceCtorEq, Int.reduceToNat, Nat.reduceDiv, Nat.reduceMod, Nat.reduceLT, Nat.reduceLeDiff, Nat.reduceAdd, Nat.reduceSub, Nat.reduceMul, Nat.reduceEqDiff, Nat.reduceBEq, Nat.reduceBNe, Nat.reduceGT]; done)) (by first | kernel_rfl | exact of_decide_eq_true (by kernel_rfl))) ?_
   simp only [bR, bT, tab, bX, reduceIte, ↓reduceIte, reduceCtorEq, Int.reduceToNat, Nat.reduceDiv, Nat.reduceMod, Nat.reduceLT, Nat.reduceLeDiff, Nat.reduceAdd, Nat.reduceSub, Nat.reduceMul, Nat.reduceEqDiff, Nat.reduceBEq, Nat.reduceBNe, Nat.reduceGT]
   refine RunRest_cut 0 ?_
   refine go ?_
   refine RS (Ext_slN rfl (by first | rfl | (simp only [bR, bT, tab, bX, reduceIte, ↓reduceIte, reduceCtorEq, Int.reduceToNat, Nat.reduceDiv, Nat.reduceMod, Nat.reduceLT, Nat.reduceLeDiff, Nat.reduceAdd, Nat.reduceSub, Nat.reduceMul, Nat.reduceEqDiff, Nat.reduceBEq, Nat.reduceBNe, Nat.reduceGT]; done)) (by first | kernel_rfl | exact of_decide_eq_true (by kernel_rfl)) (by first | kernel_rfl | exact of_decide_eq_true (by kernel_rfl)) rfl rfl rfl rfl) ?_
   simp only [bR, bT, tab, bX, reduceIte, ↓reduceIte, reduceCtorEq, Int.reduceToNat, Nat.reduceDiv, Nat.reduceMod, Nat.reduceLT, Nat.reduceLeDiff, Nat.reduceAdd, Nat.reduceSub, Nat.reduceMul, Nat.reduceEqDiff, Nat.reduceBEq, Nat.reduceBNe, Nat.reduceGT]
   obtain ⟨⟨hg3a, ⟨hg3bx, hg3by⟩⟩, hm⟩ := gd hm
   refine RunRest_cut 1 ?_
   refine go ?_
   refine RS (Ext_zerosN (z := [.int .i64 0]) rfl rfl rfl rfl (by first | rfl | (simp only [bR, bT, tab, bX, reduceIte, ↓reduceIte, reduceCtorEq, Int.reduceToNat, Nat.reduceDiv, Nat.reduceMod, Nat.reduceLT, Nat.reduceLeDiff, Nat.reduceAdd, Nat.reduceSub, Nat.reduceMul, Nat.reduceEqDiff, Nat.reduceBEq, Nat.reduceBNe, Nat.reduceGT]; done)) (by first | rfl | (simp only [bR, bT, tab, bX, reduceIte, ↓reduceIte, reduceCtorEq, Int.reduceToNat, Nat.reduceDiv, Nat.reduceMod, Nat.reduceLT, Nat.reduceLeDiff, Nat.reduceAdd, Nat.reduceSub, Nat.reduceMul, Nat.reduceEqDiff, Nat.reduceBEq, Nat.reduceBNe, Nat.reduceGT]; done)) (by first | kernel_rfl | exact of_decide_eq_true (by kernel_rfl)) (by first | kernel_rfl | exact of_decide_eq_true (by kernel_rfl)) (by first | kernel_rfl | exact of_decide_eq_true (by kernel_rfl)) (by first | kernel_rfl | rfl) (by first | kernel_rfl | exact of_decide_eq_true (by kernel_rfl)) (by first | (and_intros <;> omega) | (simp only [bT, tab]; omega) | omega) (by first | (and_intros <;> omega) | (simp only [bT, tab]; omega) | omega)) ?_
   simp only [bR, bT, tab, bX, reduceIte, ↓reduceIte, reduceCtorEq, Int.reduceToNat, Nat.reduceDiv, Nat.reduceMod, Nat.reduceLT, Nat.reduceLeDiff, Nat.reduceAdd, Nat.reduceSub, Nat.reduceMul, Nat.reduceEqDiff, Nat.reduceBEq, Nat.reduceBNe, Nat.reduceGT]
   obtain ⟨hg4a, hm⟩ := gd hm
   refine RunRest_ops ?_
   refine go ?_
   refine hk _ _ ?_
   clear hk hp k kp
   refine KThen_n (hk2 _ _ ?_)
   refine W_rg [0, 1, 16, 17, 18, 19, 20, 21, 22, 23, 24, 25, 26] ?_
   refine W_eqa [.arr 1 0 3 ((List.replicate ((IntKind.wrap .i64 (p1 - (IntKind.wrap .i64 (0 - 0)))).toNat) 0).map (eK .i64))] ?_
   refine W_gh (Ghost_trim 0 0 rfl) ?_
   refine W_ghost (Ghost_new 1 3 (by decide)) ?_
   simp only [bZ, bL, reduceIte, ↓reduceIte, reduceCtorEq, Int.reduceToNat, Nat.reduceDiv, Nat.reduceMod, Nat.reduceLT, Nat.reduceLeDiff, Nat.reduceAdd, Nat.reduceSub, Nat.reduceMul, Nat.reduceEqDiff, Nat.reduceBEq, Nat.reduceBNe, Nat.reduceGT, List.length_cons, List.length_nil, List.length_append, List.cons_append, List.nil_append]
   refine W_gh (Ghost_mv 1 0 (by decide) rfl rfl) ?_
   refine W_gh (Ghost_dn 0 1 (by decide) (Nat.le_of_ble_eq_true rfl) (Nat.le_of_ble_eq_true rfl) rfl rfl) ?_
   refine W_ret ?_
   refine KBody_ret [.arr 1 1 3 (((List.replicate ((IntKind.wrap .i64 (p1 - (IntKind.wrap .i64 (0 - 0)))).toNat) 0).take 0).map (eK .i64))] ?_
   obtain rfl := Option.some.inj hm
   exact en
  ·rw [if_neg h2] at hm
   refine W_condf rfl (decide_eq_false h2) ?_
   refine W_skip ?_
   refine KThen_n (hk2 _ _ ?_)
   refine W_rg [0, 1, 16, 26] ?_
   refine W_ghost (Ghost_nil 4 1 3 (by decide) rfl (Nat.le_of_ble_eq_true rfl)) ?_
   refine W_eql ?_
   refine W_ghost (Ghost_new 1 3 (by decide)) ?_
   simp only [bZ, bL, reduceIte, ↓reduceIte, reduceCtorEq, Int.reduceToNat, Nat.reduceDiv, Nat.reduceMod, Nat.reduceLT, Nat.reduceLeDiff, Nat.reduceAdd, Nat.reduceSub, Nat.reduceMul, Nat.reduceEqDiff, Nat.reduceBEq, Nat.reduceBNe, Nat.reduceGT, List.length_cons, List.length_nil, List.length_append, List.cons_append, List.nil_append]
   refine W_gh (Ghost_mv 1 0 (by decide) rfl rfl) ?_
   refine W_gh (Ghost_dn 0 1 (by decide) (Nat.le_of_ble_eq_true rfl) (Nat.le_of_ble_eq_true rfl) rfl rfl) ?_
   refine W_ret ?_
   refine KBody_ret [.arr 1 1 3 ([].map (eK .i64))] ?_
   obtain rfl := Option.some.inj hm
   exact en
end Pam

/- the walk of slices_Concat_int_int, printed by a program of ours -/
namespace Pam
open Go Go.Proofs
set_option maxRecDepth 100000 in
set_option maxHeartbeats 1000000 in
theorem slices_Concat_int_int_ok (p1 : List (List Int)) (v0_ : Nat) (r : (List Int)) (hm : slices_Concat_int_int p1 = some r) : Spec Try.prog 78 [.c (.osl 0 v0_ 0 p1.length)] [.arr 1 v0_ 22 (p1.map (eL 1 (eK .i64)))] (fun p σ => (p = .c (.osl 1 1 0 r.length) ∧ σ = [.arr 1 v0_ 22 (p1.map (eL 1 (eK .i64))), .arr 1 1 3 (r.map (eK .i64))])) (fun _ _ => False) := by
 refine Spec_ofD 36 [.tmp 2] Try.func78 rfl rfl rfl (by kernel_rfl) (by simp) ?_
 refine W_eqf ?_
 unfold slices_Concat_int_int at hm
 refine W_rg [2] ?_
 refine W_rg [] ?_
 refine W_joinM (S := Int) (V := Unit) [0, 3, 5, 9, 10, 11, 12, 13, 14, 15, 16, 17, 18, 19, 20, 21, 22] (fun x1 _ => [(0, .c (.osl 0 v0_ 0 p1.length)), (3, .c (.int .i64 x1))]) (fun x1 _ => [.arr 1 v0_ 22 (p1.map (eL 1 (eK .i64)))]) (fun x1 => slices_Concat_int_int_j1 p1 x1 = some r) ?_ ?_
 ·skip
  refine W_rg [] ?_
  refine W_block ?_
  obtain ⟨o2, hl2, hm2⟩ := bd hm
  refine W_loopM (S := (Int × Int)) (V := Unit) (O := Int) [0, 3, 5, 9, 11, 12, 13, 14, 15, 16, 17, 18, 19, 20, 21, 22] (fun (x27, x28) _ => [(0, .c (.osl 0 v0_ 0 p1.length)), (3, .c (.int .i64 x27)), (9, .c (.osl 0 v0_ 0 p1.length)), (11, .c (.int .i64 x28))]) (fun (x27, x28) _ => [.arr 1 v0_ 22 (p1.map (eL 1 (eK .i64)))]) _ _ () hl2 ?_ ?_
  ·exact ls
  ·rintro ⟨x27, x28⟩ _ r2 hm hr2
   replace hm : slices_Concat_int_int_l2 p1 x27 x28 = some r2 := hm
   refine W_eqm ?_
   unfold slices_Concat_int_int_l2 at hm
   refine W_rg [] ?_
   refine W_seq_k fun k3 hk3 => ?_
   by_cases h7 : x28 < (p1.length : Int)
   ·rw [if_pos h7] at hm
    refine W_condt rfl (decide_eq_true h7) ?_
    refine W_skip ?_
    refine KThen_n (hk3 _ _ ?_)
    refine W_seq_k fun k4 hk4 => ?_
    refine W_block ?_
    obtain ⟨hg8a, hm⟩ := gd hm
    refine W_rgx (em (eL 1 (eK .i64)) p1 x28.toNat) [12, 13, 14] ?_
    refine W_rg [5, 15, 16, 17, 18] ?_
    refine W_rg [19] ?_
    by_cases h9 : (IntKind.wrap .i64 (x27 + ((p1.getD x28.toNat default).length : Int))) < 0
    ·rw [if_pos h9] at hm
     refine W_condt rfl (decide_eq_true h9) ?_
     cases hm
    ·rw [if_neg h9] at hm
     refine W_condf rfl (decide_eq_false h9) ?_
     refine W_skip ?_
     refine KBlock_n ?_
     refine KThen_n (hk4 _ _ ?_)
     refine W_rn ?_
     refine KLoopM_n ((IntKind.wrap .i64 (x27 + ((p1.getD x28.toNat default).length : Int))), (IntKind.wrap .i64 (x28 + 1))) () hm ?_
     exact ls
   ·rw [if_neg h7] at hm
    refine W_condf rfl (decide_eq_false h7) ?_
    refine W_exit ?_
    have ho10 := out_eq hm hr2
    subst ho10
    replace hm : slices_Concat_int_int_j1 p1 x27 = some r := hm2
    refine KThen_x ?_
    refine KLoopM_x ?_
    refine KBlock_hit ?_
    refine KJoinM_n x27 () hm ?_
    exact ls
 ·rintro x1 _ hm
  replace hm : slices_Concat_int_int_j1 p1 x1 = some r := hm
  refine W_eqm ?_
  unfold slices_Concat_int_int_j1 at hm
  refine W_regF [3, 23, 24] fun k kp hk hp => ?_
  refine go ?_
  obtain ⟨y2, hc1, hm⟩ := bd hm
  refine RA (slices_Grow_int_int_ok x1  _ hc1) [] ?_
  rintro p σ' hq2 _
  obtain ⟨rfl, rfl⟩ := hq2
  refine RunRest_ops ?_
  refine go ?_
  refine hk _ _ ?_
  clear hk hp k kp
  refine W_joinM (S := (List Int)) (V := Nat) [0, 6, 8, 25, 26, 27, 28, 29, 30, 31, 32, 33, 34] (fun l5 v6 => [(6, .c (.osl 1 v6 0 l5.length))]) (fun l5 v6 => [.arr 1 v0_ 22 (p1.map (eL 1 (eK .i64))), .arr 1 v6 3 (l5.map (eK .i64))]) (fun l5 => slices_Concat_int_int_j2 l5 = some r) ?_ ?_
  ·skip
   refine W_rg [0] ?_
   refine W_block ?_
   obtain ⟨o1, hl1, hm1⟩ := bd hm
   refine W_loopM (S := ((List Int) × Int)) (V := Nat) (O := (List Int)) [6, 8, 25, 27, 28, 29, 30, 31, 32, 33, 34] (fun (l19, x21) v20 => [(6, .c (.osl 1 v20 0 l19.length)), (25, .c (.osl 0 v0_ 0 p1.length)), (27, .c (.int .i64 x21))]) (fun (l19, x21) v20 => [.arr 1 v0_ 22 (p1.map (eL 1 (eK .i64))), .arr 1 v20 3 (l19.map (eK .i64))]) _ _ 1 hl1 ?_ ?_
   ·exact ls
   ·rintro ⟨l19, x21⟩ v20 r1 hm hr1
    replace hm : slices_Concat_int_int_l1 p1 l19 x21 = some r1 := hm
    refine W_eqm ?_
    unfold slices_Concat_int_int_l1 at hm
    refine W_rg [] ?_
    refine W_seq_k fun k1 hk1 => ?_
    by_cases h3 : x21 < (p1.length : Int)
    ·rw [if_pos h3] at hm
     refine W_condt rfl (decide_eq_true h3) ?_
     refine W_skip ?_
     refine KThen_n (hk1 _ _ ?_)
     refine W_seq_k fun k2 hk2 => ?_
     refine W_block ?_
     obtain ⟨hg4a, hm⟩ := gd hm
     refine W_rgx (em (eL 1 (eK .i64)) p1 x21.toNat) [28, 29, 30] ?_
     obtain ⟨⟨hg5ax, hg5ay⟩, hm⟩ := gd hm
     refine W_rn ?_
     refine KBlock_n ?_
     refine KThen_n (hk2 _ _ ?_)
     refine W_rn ?_
     refine KLoopM_n ((l19 ++ (p1.getD x21.toNat default)), (IntKind.wrap .i64 (x21 + 1))) (v20 + 1) hm ?_
     exact ls
    ·rw [if_neg h3] at hm
     refine W_condf rfl (decide_eq_false h3) ?_
     refine W_exit ?_
     have ho6 := out_eq hm hr1
     subst ho6
     replace hm : slices_Concat_int_int_j2 l19 = some r := hm1
     refine KThen_x ?_
     refine KLoopM_x ?_
     refine KBlock_hit ?_
     refine KJoinM_n l19 v20 hm ?_
     exact ls
  ·rintro l5 v6 hm
   replace hm : slices_Concat_int_int_j2 l5 = some r := hm
   refine W_eqm ?_
   unfold slices_Concat_int_int_j2 at hm
   refine W_rg [6, 35] ?_
   refine W_ghost (Ghost_new 1 3 (by decide)) ?_
   simp only [bZ, bL, reduceIte, ↓reduceIte, reduceCtorEq, Int.reduceToNat, Nat.reduceDiv, Nat.reduceMod, Nat.reduceLT, Nat.reduceLeDiff, Nat.reduceAdd, Nat.reduceSub, Nat.reduceMul, Nat.reduceEqDiff, Nat.reduceBEq, Nat.reduceBNe, Nat.reduceGT, List.length_cons, List.length_nil, List.length_append, List.cons_append, List.nil_append]
   refine W_gh (Ghost_mv 2 1 (by decide) rfl rfl) ?_
   refine W_gh (Ghost_dn 1 2 (by decide) (Nat.le_of_ble_eq_true rfl) (Nat.le_of_ble_eq_true rfl) rfl rfl) ?_
   refine W_ret ?_
   refine KBody_ret [.arr 1 v0_ 22 (p1.map (eL 1 (eK .i64))), .arr 1 1 3 (l5.map (eK .i64))] ?_
   obtain rfl := Option.some.inj hm
   exact en
end Pam

/- the walk of loop_inside, printed by a program of ours -/
namespace Pam
open Go Go.Proofs
set_option maxRecDepth 100000 in
set_option maxHeartbeats 1000000 in
theorem loop_inside_ok (p1 : TLoops) (p2 : Int) (p3 : Int) (r : Bool) (hm : loop_inside p1 p2 p3 = some r) : SpecF Try.prog 79 [.a [.int .i64 p1.cells, .tree 1 (p1.put.map (eK .i64)), .tree 1 (p1.get.map (eK .i64)), .tree 6 (p1.steps.map TLoop.enc)], .c (.int .i64 p2), .c (.int .i64 p3)] (.c (.bool r)) := by
 refine Spec_ofD 27 [.tmp 6] Try.func79 rfl rfl rfl (by kernel_rfl) (by simp) ?_
 refine W_eqf ?_
 unfold loop_inside at hm
 refine W_rg [0, 6] ?_
 by_cases h1 : p2 ≥ 0
 ·rw [if_pos h1] at hm
  have h1b : decide (p2 ≥ 0) = true := decide_eq_true h1
  by_cases h2 : p3 ≥ 1
  ·rw [if_pos h2] at hm
   have h2b : decide (p3 ≥ 1) = true := decide_eq_true h2
   by_cases h3 : p3 ≤ p1.cells
   ·rw [if_pos h3] at hm
    have h3b : decide (p3 ≤ p1.cells) = true := decide_eq_true h3
    refine W_rgx (a2 h1b (a2 h2b h3b)) [1, 2, 3, 7, 8, 9, 10, 11, 12, 13, 14, 15, 16, 17, 18, 19, 20, 21, 22, 23, 24, 25, 26] ?_
    refine W_ret ?_
    refine KBody_ret [] ?_
    obtain rfl := Option.some.inj hm
    exact en
   ·rw [if_neg h3] at hm
    have h3b : decide (p3 ≤ p1.cells) = false := decide_eq_false h3
    refine W_rgx (a2 h1b (a2 h2b h3b)) [1, 2, 3, 7, 8, 9, 10, 11, 12, 13, 14, 15, 16, 17, 18, 19, 20, 21, 22, 23, 24, 25, 26] ?_
    refine W_ret ?_
    refine KBody_ret [] ?_
    obtain rfl := Option.some.inj hm
    exact en
  ·rw [if_neg h2] at hm
   have h2b : decide (p3 ≥ 1) = false := decide_eq_false h2
   refine W_rgx (a2 h1b h2b) [1, 2, 3, 7, 8, 9, 10, 11, 12, 13, 14, 15, 16, 17, 18, 19, 20, 21, 22, 23, 24, 25, 26] ?_
   refine W_ret ?_
   refine KBody_ret [] ?_
   obtain rfl := Option.some.inj hm
   exact en
 ·rw [if_neg h1] at hm
  have h1b : decide (p2 ≥ 0) = false := decide_eq_false h1
  refine W_rgx h1b [1, 2, 3, 7, 8, 9, 10, 11, 12, 13, 14, 15, 16, 17, 18, 19, 20, 21, 22, 23, 24, 25, 26] ?_
  refine W_ret ?_
  refine KBody_ret [] ?_
  obtain rfl := Option.some.inj hm
  exact en
end Pam

/- the walk of kinds_Op, printed by a program of ours -/
namespace Pam
open Go Go.Proofs
set_option maxRecDepth 100000 in
set_option maxHeartbeats 1000000 in
theorem kinds_Op_ok (p1 : Int) (r : (Int × Int × Int)) (hm : kinds_Op p1 = some r) : SpecF Try.prog 105 [.c (.int .i64 p1)] (.t [.c (.int .u8 r.1), .c (.int .u8 r.2.1), .c (.int .i64 r.2.2)]) := by
 refine Spec_ofD 32 [.tmp 2, .tmp 3, .tmp 4] Try.func105 rfl rfl rfl (by kernel_rfl) (by simp) ?_
 refine W_eqf ?_
 unfold kinds_Op at hm
 refine W_rg [2, 3, 4] ?_
 refine W_seq_k fun k1 hk1 => ?_
 refine W_block ?_
 by_cases h1 : p1 ≥ 1
 ·rw [if_pos h1] at hm
  have h1b : decide (p1 ≥ 1) = true := decide_eq_true h1
  refine W_rgx h1b [6, 7, 8, 9, 10, 11] ?_
  by_cases h2 : p1 ≤ 7
  ·rw [if_pos h2] at hm
   refine W_condt rfl (decide_eq_true h2) ?_
   refine W_rg [0, 5] ?_
   refine W_ret ?_
   refine KBlock_r ?_
   refine KThen_r ?_
   refine KBody_ret [] ?_
   obtain rfl := Option.some.inj hm
   exact en
  ·rw [if_neg h2] at hm
   refine W_condf rfl (decide_eq_false h2) ?_
   by_cases h3 : p1 = 8
   ·rw [if_pos h3] at hm
    have h3b : (p1 == 8) = true := beq_iff_eq.2 h3
    refine W_rgx h3b [5, 13, 14, 15, 16, 17, 18] ?_
    refine W_condt rfl rfl ?_
    refine W_rg [0, 12] ?_
    refine W_ret ?_
    refine KBlock_r ?_
    refine KThen_r ?_
    refine KBody_ret [] ?_
    obtain rfl := Option.some.inj hm
    exact en
   ·rw [if_neg h3] at hm
    have h3b : (p1 == 8) = false := beq_eq_false_iff_ne.2 h3
    refine W_rgx h3b [5, 13, 14, 15, 16, 17, 18] ?_
    by_cases h4 : p1 = 9
    ·rw [if_pos h4] at hm
     refine W_condt rfl (beq_iff_eq.2 h4) ?_
     refine W_rg [0, 12] ?_
     refine W_ret ?_
     refine KBlock_r ?_
     refine KThen_r ?_
     refine KBody_ret [] ?_
     obtain rfl := Option.some.inj hm
     exact en
    ·rw [if_neg h4] at hm
     refine W_condf rfl (beq_eq_false_iff_ne.2 h4) ?_
     by_cases h5 : p1 ≥ 10
     ·rw [if_pos h5] at hm
      have h5b : decide (p1 ≥ 10) = true := decide_eq_true h5
      refine W_rgx h5b [12, 20, 21, 22, 23, 24, 25] ?_
      by_cases h6 : p1 ≤ 12
      ·rw [if_pos h6] at hm
       refine W_condt rfl (decide_eq_true h6) ?_
       refine W_rg [0, 19] ?_
       refine W_ret ?_
       refine KBlock_r ?_
       refine KThen_r ?_
       refine KBody_ret [] ?_
       obtain rfl := Option.some.inj hm
       exact en
      ·rw [if_neg h6] at hm
       refine W_condf rfl (decide_eq_false h6) ?_
       refine W_rg [19, 27, 28] ?_
       by_cases h7 : p1 = 13
       ·rw [if_pos h7] at hm
        refine W_condt rfl (beq_iff_eq.2 h7) ?_
        refine W_rg [0, 26] ?_
        refine W_ret ?_
        refine KBlock_r ?_
        refine KThen_r ?_
        refine KBody_ret [] ?_
        obtain rfl := Option.some.inj hm
        exact en
       ·rw [if_neg h7] at hm
        refine W_condf rfl (beq_eq_false_iff_ne.2 h7) ?_
        refine W_rg [0, 26, 30, 31] ?_
        by_cases h8 : p1 = 14
        ·rw [if_pos h8] at hm
         refine W_condt rfl (beq_iff_eq.2 h8) ?_
         refine W_rg [29] ?_
         refine W_ret ?_
         refine KBlock_r ?_
         refine KThen_r ?_
         refine KBody_ret [] ?_
         obtain rfl := Option.some.inj hm
         exact en
        ·rw [if_neg h8] at hm
         refine W_condf rfl (beq_eq_false_iff_ne.2 h8) ?_
         refine W_skip ?_
         refine KBlock_n ?_
         refine KThen_n (hk1 _ _ ?_)
         refine W_rg [29] ?_
         refine W_ret ?_
         refine KBody_ret [] ?_
         obtain rfl := Option.some.inj hm
         exact en
     ·rw [if_neg h5] at hm
      have h5b : decide (p1 ≥ 10) = false := decide_eq_false h5
      refine W_rgx h5b [12, 20, 21, 22, 23, 24, 25] ?_
      refine W_condf rfl rfl ?_
      refine W_rg [19, 27, 28] ?_
      by_cases h9 : p1 = 13
      ·rw [if_pos h9] at hm
       refine W_condt rfl (beq_iff_eq.2 h9) ?_
       refine W_rg [0, 26] ?_
       refine W_ret ?_
       refine KBlock_r ?_
       refine KThen_r ?_
       refine KBody_ret [] ?_
       obtain rfl := Option.some.inj hm
       exact en
      ·rw [if_neg h9] at hm
       refine W_condf rfl (beq_eq_false_iff_ne.2 h9) ?_
       refine W_rg [0, 26, 30, 31] ?_
       by_cases h10 : p1 = 14
       ·rw [if_pos h10] at hm
        refine W_condt rfl (beq_iff_eq.2 h10) ?_
        refine W_rg [29] ?_
        refine W_ret ?_
        refine KBlock_r ?_
        refine KThen_r ?_
        refine KBody_ret [] ?_
        obtain rfl := Option.some.inj hm
        exact en
       ·rw [if_neg h10] at hm
        refine W_condf rfl (beq_eq_false_iff_ne.2 h10) ?_
        refine W_skip ?_
        refine KBlock_n ?_
        refine KThen_n (hk1 _ _ ?_)
        refine W_rg [29] ?_
        refine W_ret ?_
        refine KBody_ret [] ?_
        obtain rfl := Option.some.inj hm
        exact en
 ·rw [if_neg h1] at hm
  have h1b : decide (p1 ≥ 1) = false := decide_eq_false h1
  refine W_rgx h1b [6, 7, 8, 9, 10, 11] ?_
  refine W_condf rfl rfl ?_
  by_cases h11 : p1 = 8
  ·rw [if_pos h11] at hm
   have h11b : (p1 == 8) = true := beq_iff_eq.2 h11
   refine W_rgx h11b [5, 13, 14, 15, 16, 17, 18] ?_
   refine W_condt rfl rfl ?_
   refine W_rg [0, 12] ?_
   refine W_ret ?_
   refine KBlock_r ?_
   refine KThen_r ?_
   refine KBody_ret [] ?_
   obtain rfl := Option.some.inj hm
   exact en
  ·rw [if_neg h11] at hm
   have h11b : (p1 == 8) = false := beq_eq_false_iff_ne.2 h11
   refine W_rgx h11b [5, 13, 14, 15, 16, 17, 18] ?_
   by_cases h12 : p1 = 9
   ·rw [if_pos h12] at hm
    refine W_condt rfl (beq_iff_eq.2 h12) ?_
    refine W_rg [0, 12] ?_
    refine W_ret ?_
    refine KBlock_r ?_
    refine KThen_r ?_
    refine KBody_ret [] ?_
    obtain rfl := Option.some.inj hm
    exact en
   ·rw [if_neg h12] at hm
    refine W_condf rfl (beq_eq_false_iff_ne.2 h12) ?_
    by_cases h13 : p1 ≥ 10
    ·rw [if_pos h13] at hm
     have h13b : decide (p1 ≥ 10) = true := decide_eq_true h13
     refine W_rgx h13b [12, 20, 21, 22, 23, 24, 25] ?_
     by_cases h14 : p1 ≤ 12
     ·rw [if_pos h14] at hm
      refine W_condt rfl (decide_eq_true h14) ?_
      refine W_rg [0, 19] ?_
      refine W_ret ?_
      refine KBlock_r ?_
      refine KThen_r ?_
      refine KBody_ret [] ?_
      obtain rfl := Option.some.inj hm
      exact en
     ·rw [if_neg h14] at hm
      refine W_condf rfl (decide_eq_false h14) ?_
      refine W_rg [19, 27, 28] ?_
      by_cases h15 : p1 = 13
      ·rw [if_pos h15] at hm
       refine W_condt rfl (beq_iff_eq.2 h15) ?_
       refine W_rg [0, 26] ?_
       refine W_ret ?_
       refine KBlock_r ?_
       refine KThen_r ?_
       refine KBody_ret [] ?_
       obtain rfl := Option.some.inj hm
       exact en
      ·rw [if_neg h15] at hm
       refine W_condf rfl (beq_eq_false_iff_ne.2 h15) ?_
       refine W_rg [0, 26, 30, 31] ?_
       by_cases h16 : p1 = 14
       ·rw [if_pos h16] at hm
        refine W_condt rfl (beq_iff_eq.2 h16) ?_
        refine W_rg [29] ?_
        refine W_ret ?_
        refine KBlock_r ?_
        refine KThen_r ?_
        refine KBody_ret [] ?_
        obtain rfl := Option.some.inj hm
        exact en
       ·rw [if_neg h16] at hm
        refine W_condf rfl (beq_eq_false_iff_ne.2 h16) ?_
        refine W_skip ?_
        refine KBlock_n ?_
        refine KThen_n (hk1 _ _ ?_)
        refine W_rg [29] ?_
        refine W_ret ?_
        refine KBody_ret [] ?_
        obtain rfl := Option.some.inj hm
        exact en
    ·rw [if_neg h13] at hm
     have h13b : decide (p1 ≥ 10) = false := decide_eq_false h13
     refine W_rgx h13b [12, 20, 21, 22, 23, 24, 25] ?_
     refine W_condf rfl rfl ?_
     refine W_rg [19, 27, 28] ?_
     by_cases h17 : p1 = 13
     ·rw [if_pos h17] at hm
      refine W_condt rfl (beq_iff_eq.2 h17) ?_
      refine W_rg [0, 26] ?_
      refine W_ret ?_
      refine KBlock_r ?_
      refine KThen_r ?_
      refine KBody_ret [] ?_
      obtain rfl := Option.some.inj hm
      exact en
     ·rw [if_neg h17] at hm
      refine W_condf rfl (beq_eq_false_iff_ne.2 h17) ?_
      refine W_rg [0, 26, 30, 31] ?_
      by_cases h18 : p1 = 14
      ·rw [if_pos h18] at hm
       refine W_condt rfl (beq_iff_eq.2 h18) ?_
       refine W_rg [29] ?_
       refine W_ret ?_
       refine KBlock_r ?_
       refine KThen_r ?_
       refine KBody_ret [] ?_
       obtain rfl := Option.some.inj hm
       exact en
      ·rw [if_neg h18] at hm
       refine W_condf rfl (beq_eq_false_iff_ne.2 h18) ?_
       refine W_skip ?_
       refine KBlock_n ?_
       refine KThen_n (hk1 _ _ ?_)
       refine W_rg [29] ?_
       refine W_ret ?_
       refine KBody_ret [] ?_
       obtain rfl := Option.some.inj hm
       exact en
end Pam

/- the walk of loop_step, printed by a program of ours -/
namespace Pam
open Go Go.Proofs
set_option maxRecDepth 100000 in
set_option maxHeartbeats 1000000 in
theorem loop_step_ok (p1 : TLoops) (p2 : TPush) (p3 : Int) (r : (Int × Bool)) (hm : loop_step p1 p2 p3 = some r) : SpecF Try.prog 130 [.a [.int .i64 p1.cells, .tree 1 (p1.put.map (eK .i64)), .tree 1 (p1.get.map (eK .i64)), .tree 6 (p1.steps.map TLoop.enc)], .a [.int .i64 p2.op, .int .i64 p2.k, .int .i64 p2.v, .int .i64 p2.n], .c (.int .i64 p3)] (.t [.c (.int .i64 r.1), .c (.bool r.2)]) := by
 refine Spec_ofD 65 [.tmp 6, .tmp 7] Try.func130 rfl rfl rfl (by kernel_rfl) (by simp) ?_
 refine W_eqf ?_
 unfold loop_step at hm
 refine W_rg [0, 1, 6, 7] ?_
 refine W_seq_k fun k1 hk1 => ?_
 refine W_rg [11] ?_
 refine W_block ?_
 refine W_rg [14] ?_
 by_cases h1 : p2.op = 1
 ·rw [if_pos h1] at hm
  refine W_condt rfl (beq_iff_eq.2 h1) ?_
  refine W_rg [2, 3, 4, 12, 13] ?_
  refine W_ret ?_
  refine KBlock_r ?_
  refine KThen_r ?_
  refine KBody_ret [] ?_
  obtain rfl := Option.some.inj hm
  exact en
 ·rw [if_neg h1] at hm
  refine W_condf rfl (beq_eq_false_iff_ne.2 h1) ?_
  refine W_rg [13, 16] ?_
  by_cases h2 : p2.op = 2
  ·rw [if_pos h2] at hm
   refine W_condt rfl (beq_iff_eq.2 h2) ?_
   refine W_regF [2, 3, 4, 12, 15, 17, 18, 19, 20] fun k kp hk hp => ?_
   refine go ?_
   obtain ⟨y1, hc3, hm⟩ := bd hm
   refine RP (fun _ => loop_inside_ok p1 p2.v 1 _ hc3) ?_
   refine RunRest_ops ?_
   refine go ?_
   refine hk _ _ ?_
   clear hk hp k kp
   refine W_ret ?_
   refine KBlock_r ?_
   refine KThen_r ?_
   refine KBody_ret [] ?_
   obtain rfl := Option.some.inj hm
   exact en
  ·rw [if_neg h2] at hm
   refine W_condf rfl (beq_eq_false_iff_ne.2 h2) ?_
   refine W_rg [15, 22] ?_
   by_cases h4 : p2.op = 3
   ·rw [if_pos h4] at hm
    refine W_condt rfl (beq_iff_eq.2 h4) ?_
    refine W_regF [2, 3, 4, 12, 21, 23, 24, 25, 26, 27] fun k kp hk hp => ?_
    refine go ?_
    obtain ⟨y2, hc5, hm⟩ := bd hm
    refine RP (fun _ => loop_inside_ok p1 p2.v p3 _ hc5) ?_
    refine RunRest_ops ?_
    refine go ?_
    refine hk _ _ ?_
    clear hk hp k kp
    refine W_ret ?_
    refine KBlock_r ?_
    refine KThen_r ?_
    refine KBody_ret [] ?_
    obtain rfl := Option.some.inj hm
    exact en
   ·rw [if_neg h4] at hm
    refine W_condf rfl (beq_eq_false_iff_ne.2 h4) ?_
    refine W_rg [2, 21, 29] ?_
    by_cases h6 : p2.op = 4
    ·rw [if_pos h6] at hm
     refine W_condt rfl (beq_iff_eq.2 h6) ?_
     by_cases h7 : p2.n ≥ (-1000000000000000000)
     ·rw [if_pos h7] at hm
      have h7b : decide (p2.n ≥ (-1000000000000000000)) = true := decide_eq_true h7
      refine W_agx h7b [3, 4, 12, 28, 30, 31, 32, 33, 34, 35, 36, 37] [0, 1, 3, 7, 15, 31, 63, 127, 15, 511] [true, true, true, true, false, false, false, false, false, true] ?_
      refine W_ret ?_
      refine KBlock_r ?_
      refine KThen_r ?_
      refine KBody_ret [] ?_
      obtain rfl := Option.some.inj hm
      exact en
     ·rw [if_neg h7] at hm
      have h7b : decide (p2.n ≥ (-1000000000000000000)) = false := decide_eq_false h7
      refine W_agx h7b [3, 4, 12, 28, 30, 31, 32, 33, 34, 35, 36, 37] [0, 1, 3, 7, 15, 31, 63, 127, 15, 511] [true, true, true, true, false, false, false, false, false, true] ?_
      refine W_ret ?_
      refine KBlock_r ?_
      refine KThen_r ?_
      refine KBody_ret [] ?_
      obtain rfl := Option.some.inj hm
      exact en
    ·rw [if_neg h6] at hm
     refine W_condf rfl (beq_eq_false_iff_ne.2 h6) ?_
     refine W_joinM (S := Bool) (V := Unit) [28, 38, 39, 40] (fun b3 _ => [(38, .c (.bool b3))]) (fun b3 _ => [.box [.int .i64 p1.cells, .tree 1 (p1.put.map (eK .i64)), .tree 1 (p1.get.map (eK .i64)), .tree 6 (p1.steps.map TLoop.enc)], .box [.int .i64 p2.op, .int .i64 p2.k, .int .i64 p2.v, .int .i64 p2.n]]) (fun b3 => loop_step_j1 p1 p2 b3 = some r) ?_ ?_
     ·skip
      refine W_rg [28, 39] ?_
      by_cases h13 : p2.op = 5
      ·rw [if_pos h13] at hm
       refine W_condt rfl (beq_iff_eq.2 h13) ?_
       refine W_skip ?_
       refine KJoinM_n (p2.op == 5) () hm ?_
       exact ls
      ·rw [if_neg h13] at hm
       refine W_condf rfl (beq_eq_false_iff_ne.2 h13) ?_
       refine W_rn ?_
       refine KJoinM_n (p2.op == 6) () hm ?_
       exact ls
     ·rintro b3 _ hm
      replace hm : loop_step_j1 p1 p2 b3 = some r := hm
      refine W_eqm ?_
      unfold loop_step_j1 at hm
      by_cases h8 : b3 = true
      ·rw [if_pos h8] at hm
       refine W_condt rfl (h8) ?_
       refine W_regF [3, 8, 9, 12, 38, 41, 42, 43, 44, 45, 46, 47] fun k kp hk hp => ?_
       refine go ?_
       obtain ⟨y4, hc9, hm⟩ := bd hm
       refine RP (fun _ => kinds_Op_ok p2.k _ hc9) ?_
       refine RunRest_ops ?_
       refine go ?_
       refine hk _ _ ?_
       clear hk hp k kp
       refine W_ag [4, 10, 48, 49, 50, 51, 52, 53, 54] [0, 0, 0, 4, 12, 28, 62, 1, 255] [false, false, false, false, false, false, false, false, true] ?_
       refine W_ret ?_
       refine KBlock_r ?_
       refine KThen_r ?_
       refine KBody_ret [] ?_
       obtain rfl := Option.some.inj hm
       exact en
      ·rw [if_neg h8] at hm
       refine W_condf rfl (Bool.eq_false_iff.2 h8) ?_
       refine W_rg [38, 56] ?_
       by_cases h10 : p2.op = 7
       ·rw [if_pos h10] at hm
        refine W_condt rfl (beq_iff_eq.2 h10) ?_
        refine W_rg [3, 4, 12, 55] ?_
        refine W_ret ?_
        refine KBlock_r ?_
        refine KThen_r ?_
        refine KBody_ret [] ?_
        obtain rfl := Option.some.inj hm
        exact en
       ·rw [if_neg h10] at hm
        refine W_condf rfl (beq_eq_false_iff_ne.2 h10) ?_
        refine W_rg [12, 55, 58] ?_
        by_cases h11 : p2.op = 8
        ·rw [if_pos h11] at hm
         refine W_condt rfl (beq_iff_eq.2 h11) ?_
         refine W_regF [3, 4, 57, 59, 60, 61, 62, 63, 64] fun k kp hk hp => ?_
         refine go ?_
         obtain ⟨y5, hc12, hm⟩ := bd hm
         refine RP (fun _ => loop_inside_ok p1 p2.v p2.n _ hc12) ?_
         refine RunRest_ops ?_
         refine go ?_
         refine hk _ _ ?_
         clear hk hp k kp
         refine W_ret ?_
         refine KBlock_r ?_
         refine KThen_r ?_
         refine KBody_ret [] ?_
         obtain rfl := Option.some.inj hm
         exact en
        ·rw [if_neg h11] at hm
         refine W_condf rfl (beq_eq_false_iff_ne.2 h11) ?_
         refine W_skip ?_
         refine KBlock_n ?_
         refine KThen_n (hk1 _ _ ?_)
         refine W_rg [3, 4, 57] ?_
         refine W_ret ?_
         refine KBody_ret [] ?_
         obtain rfl := Option.some.inj hm
         exact en
end Pam

/- the walk of loop_tree, printed by a program of ours -/
namespace Pam
open Go Go.Proofs
set_option maxRecDepth 100000 in
set_option maxHeartbeats 1000000 in
theorem loop_tree_ok (p1 : TLoops) (p2 : List TPush) (p3 : Int) (r : Bool) (hm : loop_tree p1 p2 p3 = some r) : SpecF Try.prog 115 [.a [.int .i64 p1.cells, .tree 1 (p1.put.map (eK .i64)), .tree 1 (p1.get.map (eK .i64)), .tree 6 (p1.steps.map TLoop.enc)], .c (.tree 4 (p2.map TPush.enc)), .c (.int .i64 p3)] (.c (.bool r)) := by
 refine Spec_ofD 44 [.tmp 6] Try.func115 rfl rfl rfl (by kernel_rfl) (by simp) ?_
 refine W_eqf ?_
 unfold loop_tree at hm
 refine W_rg [0, 6] ?_
 refine W_rg [] ?_
 refine W_joinM (S := Int) (V := Unit) [2, 3, 6, 7, 9, 10, 11, 12, 13, 14, 15, 16, 17, 18, 19, 20, 21, 22, 23, 24, 25, 26, 27, 28, 29, 30, 31, 32, 33, 34, 35, 36] (fun x1 _ => [(7, .c (.int .i64 x1))]) (fun x1 _ => [.box [.int .i64 p1.cells, .tree 1 (p1.put.map (eK .i64)), .tree 1 (p1.get.map (eK .i64)), .tree 6 (p1.steps.map TLoop.enc)]]) (fun x1 => loop_tree_j1 p2 x1 = some r) ?_ ?_
 ·skip
  refine W_rg [] ?_
  refine W_block ?_
  obtain ⟨o1, hl1, hm1⟩ := bd hm
  refine W_loopM (S := (Int × Int)) (V := Unit) (O := Int ⊕ Bool) [6, 7, 9, 10, 11, 14, 15, 16, 17, 18, 19, 20, 21, 22, 23, 24, 25, 26, 27, 28, 29, 30, 31, 32, 33, 34, 35, 36] (fun (x6, x7) _ => [(7, .c (.int .i64 x6)), (14, .c (.int .i64 x7))]) (fun (x6, x7) _ => [.box [.int .i64 p1.cells, .tree 1 (p1.put.map (eK .i64)), .tree 1 (p1.get.map (eK .i64)), .tree 6 (p1.steps.map TLoop.enc)]]) _ _ () hl1 ?_ ?_
  ·exact ls
  ·rintro ⟨x6, x7⟩ _ r1 hm hr1
   replace hm : loop_tree_l1 p1 p2 p3 x6 x7 = some r1 := hm
   refine W_eqm ?_
   unfold loop_tree_l1 at hm
   refine W_rg [] ?_
   refine W_seq_k fun k1 hk1 => ?_
   by_cases h2 : x7 < (p2.length : Int)
   ·rw [if_pos h2] at hm
    refine W_condt rfl (decide_eq_true h2) ?_
    refine W_skip ?_
    refine KThen_n (hk1 _ _ ?_)
    refine W_seq_k fun k2 hk2 => ?_
    refine W_block ?_
    obtain ⟨hg3a, hm⟩ := gd hm
    refine W_rgx (em TPush.enc p2 x7.toNat) [15, 16, 17] ?_
    refine W_regF [9, 18, 19, 20, 21, 22, 23, 24] fun k kp hk hp => ?_
    refine go ?_
    obtain ⟨y8, hc4, hm⟩ := bd hm
    refine RP (fun _ => loop_step_ok p1 (p2.getD x7.toNat default) p3 _ hc4) ?_
    refine RunRest_ops ?_
    refine go ?_
    refine hk _ _ ?_
    clear hk hp k kp
    refine W_seq_k fun k3 hk3 => ?_
    by_cases h5 : y8.2 = true
    ·rw [if_pos h5] at hm
     have h5b : y8.2 = true := h5
     have h5c : (!y8.2) = false := by rw [h5b]; rfl
     refine W_rgx (a2 h5b h5c) [11, 25, 26, 27, 28, 29, 30] ?_
     by_cases h6 : x6 < y8.1
     ·rw [if_pos h6] at hm
      refine W_condt rfl (decide_eq_true h6) ?_
      refine W_rg [1, 2, 3, 7, 10, 12, 13, 14, 31] ?_
      have ho7 := out_eq hm hr1
      subst ho7
      replace hm : some false = some r := hm1
      refine W_ret ?_
      refine KThen_r ?_
      refine KBlock_r ?_
      refine KThen_r ?_
      refine KLoopM_r ?_
      refine KBlock_r ?_
      refine KJoinM_r ?_
      refine KBody_ret [] ?_
      obtain rfl := Option.some.inj hm
      exact en
     ·rw [if_neg h6] at hm
      refine W_condf rfl (decide_eq_false h6) ?_
      refine W_skip ?_
      refine KThen_n (hk3 _ _ ?_)
      refine W_rn ?_
      refine KBlock_n ?_
      refine KThen_n (hk2 _ _ ?_)
      refine W_rn ?_
      refine KLoopM_n ((IntKind.wrap .i64 (x6 + (IntKind.wrap .i64 (1 - y8.1)))), (IntKind.wrap .i64 (x7 + 1))) () hm ?_
      exact ls
    ·rw [if_neg h5] at hm
     have h5b : y8.2 = false := Bool.eq_false_iff.2 h5
     have h5c : (!y8.2) = true := by rw [h5b]; rfl
     refine W_rgx (a2 h5b h5c) [11, 25, 26, 27, 28, 29, 30] ?_
     refine W_condt rfl rfl ?_
     refine W_rg [1, 2, 3, 7, 10, 12, 13, 14, 31] ?_
     have ho8 := out_eq hm hr1
     subst ho8
     replace hm : some false = some r := hm1
     refine W_ret ?_
     refine KThen_r ?_
     refine KBlock_r ?_
     refine KThen_r ?_
     refine KLoopM_r ?_
     refine KBlock_r ?_
     refine KJoinM_r ?_
     refine KBody_ret [] ?_
     obtain rfl := Option.some.inj hm
     exact en
   ·rw [if_neg h2] at hm
    refine W_condf rfl (decide_eq_false h2) ?_
    refine W_exit ?_
    have ho9 := out_eq hm hr1
    subst ho9
    replace hm : loop_tree_j1 p2 x6 = some r := hm1
    refine KThen_x ?_
    refine KLoopM_x ?_
    refine KBlock_hit ?_
    refine KJoinM_n x6 () hm ?_
    exact ls
 ·rintro x1 _ hm
  replace hm : loop_tree_j1 p2 x1 = some r := hm
  refine W_eqm ?_
  unfold loop_tree_j1 at hm
  by_cases h1 : x1 = 1
  ·rw [if_pos h1] at hm
   have h1b : (x1 == 1) = true := beq_iff_eq.2 h1
   refine W_rgx h1b [1, 7, 37, 38, 39, 40, 41, 42, 43] ?_
   refine W_ret ?_
   refine KBody_ret [] ?_
   obtain rfl := Option.some.inj hm
   exact en
  ·rw [if_neg h1] at hm
   have h1b : (x1 == 1) = false := beq_eq_false_iff_ne.2 h1
   refine W_rgx h1b [1, 7, 37, 38, 39, 40, 41, 42, 43] ?_
   refine W_ret ?_
   refine KBody_ret [] ?_
   obtain rfl := Option.some.inj hm
   exact en
end Pam

/- the walk of loop_fits, printed by a program of ours -/
namespace Pam
open Go Go.Proofs
set_option maxRecDepth 100000 in
set_option maxHeartbeats 1000000 in
theorem loop_fits_ok (p1 : TLoops) (p2 : TLoop) (r : Bool) (hm : loop_fits p1 p2 = some r) : SpecF Try.prog 80 [.a [.int .i64 p1.cells, .tree 1 (p1.put.map (eK .i64)), .tree 1 (p1.get.map (eK .i64)), .tree 6 (p1.steps.map TLoop.enc)], .a [.int .i64 p2.op, .int .i64 p2.k, .int .i64 p2.n, .int .i64 p2.to, .tree 4 (p2.f.map TPush.enc), .tree 4 (p2.e.map TPush.enc)]] (.c (.bool r)) := by
 refine Spec_ofD 77 [.tmp 4] Try.func80 rfl rfl rfl (by kernel_rfl) (by simp) ?_
 refine W_eqf ?_
 unfold loop_fits at hm
 refine W_rg [0, 1, 4] ?_
 refine W_regF [5, 6, 9, 10, 11, 12, 13, 14, 15] fun k kp hk hp => ?_
 refine go ?_
 obtain ⟨y1, hc1, hm⟩ := bd hm
 refine RP (fun _ => kinds_Op_ok p2.k _ hc1) ?_
 refine RunRest_ops ?_
 refine go ?_
 refine hk _ _ ?_
 clear hk hp k kp
 refine W_seq_k fun k1 hk1 => ?_
 refine W_rg [16] ?_
 refine W_block ?_
 refine W_rg [19] ?_
 by_cases h2 : p2.op = 1
 ·rw [if_pos h2] at hm
  refine W_condt rfl (beq_iff_eq.2 h2) ?_
  refine W_regF [2, 3, 7, 17, 18, 20, 21, 22, 23, 24, 25, 26, 27, 28, 29] fun k kp hk hp => ?_
  refine go ?_
  obtain ⟨y2, hc3, hm⟩ := bd hm
  refine RP (fun _ => loop_inside_ok p1 p2.to 1 _ hc3) ?_
  by_cases h4 : y2 = true
  ·rw [if_pos h4] at hm
   have h4b : y2 = true := h4
   refine RunRest_ops ?_
   refine gox h4b ?_
   obtain ⟨y3, hc5, hm⟩ := bd hm
   refine RP (fun _ => loop_tree_ok p1 p2.e 1 _ hc5) ?_
   refine RunRest_ops ?_
   refine gox h4b ?_
   refine hk _ _ ?_
   clear hk hp k kp
   refine W_ret ?_
   refine KBlock_r ?_
   refine KThen_r ?_
   refine KBody_ret [] ?_
   obtain rfl := Option.some.inj hm
   exact en
  ·rw [if_neg h4] at hm
   have h4b : y2 = false := Bool.eq_false_iff.2 h4
   refine RunRest_ops ?_
   refine gox h4b ?_
   refine hk _ _ ?_
   clear hk hp k kp
   refine W_ret ?_
   refine KBlock_r ?_
   refine KThen_r ?_
   refine KBody_ret [] ?_
   obtain rfl := Option.some.inj hm
   exact en
 ·rw [if_neg h2] at hm
  refine W_condf rfl (beq_eq_false_iff_ne.2 h2) ?_
  refine W_joinM (S := Bool) (V := Unit) [17, 18, 30, 31, 32, 33] (fun b4 _ => [(30, .c (.bool b4))]) (fun b4 _ => [.box [.int .i64 p1.cells, .tree 1 (p1.put.map (eK .i64)), .tree 1 (p1.get.map (eK .i64)), .tree 6 (p1.steps.map TLoop.enc)], .box [.int .i64 p2.op, .int .i64 p2.k, .int .i64 p2.n, .int .i64 p2.to, .tree 4 (p2.f.map TPush.enc), .tree 4 (p2.e.map TPush.enc)]]) (fun b4 => loop_fits_j1 p1 p2 y1 b4 = some r) ?_ ?_
  ·skip
   refine W_rg [18, 31] ?_
   by_cases h17 : p2.op = 2
   ·rw [if_pos h17] at hm
    refine W_condt rfl (beq_iff_eq.2 h17) ?_
    refine W_skip ?_
    refine KJoinM_n (p2.op == 2) () hm ?_
    exact ls
   ·rw [if_neg h17] at hm
    refine W_condf rfl (beq_eq_false_iff_ne.2 h17) ?_
    refine W_rg [32] ?_
    by_cases h18 : p2.op = 4
    ·rw [if_pos h18] at hm
     refine W_condt rfl (beq_iff_eq.2 h18) ?_
     refine W_skip ?_
     refine KJoinM_n (p2.op == 4) () hm ?_
     exact ls
    ·rw [if_neg h18] at hm
     refine W_condf rfl (beq_eq_false_iff_ne.2 h18) ?_
     refine W_rn ?_
     refine KJoinM_n (p2.op == 3) () hm ?_
     exact ls
  ·rintro b4 _ hm
   replace hm : loop_fits_j1 p1 p2 y1 b4 = some r := hm
   refine W_eqm ?_
   unfold loop_fits_j1 at hm
   by_cases h6 : b4 = true
   ·rw [if_pos h6] at hm
    refine W_condt rfl (h6) ?_
    refine W_skip ?_
    refine KBlock_n ?_
    refine KThen_n (hk1 _ _ ?_)
    refine W_rg [30, 34, 35] ?_
    refine W_joinM (S := Int) (V := Unit) [8, 36, 37, 38] (fun x5 _ => [(8, .c (.int .i64 x5))]) (fun x5 _ => [.box [.int .i64 p1.cells, .tree 1 (p1.put.map (eK .i64)), .tree 1 (p1.get.map (eK .i64)), .tree 6 (p1.steps.map TLoop.enc)], .box [.int .i64 p2.op, .int .i64 p2.k, .int .i64 p2.n, .int .i64 p2.to, .tree 4 (p2.f.map TPush.enc), .tree 4 (p2.e.map TPush.enc)]]) (fun x5 => loop_fits_j2 p1 p2 y1 x5 = some r) ?_ ?_
    ·skip
     refine W_rg [36, 37] ?_
     by_cases h16 : p2.op = 3
     ·rw [if_pos h16] at hm
      refine W_condt rfl (beq_iff_eq.2 h16) ?_
      refine W_rn ?_
      refine KJoinM_n 1 () hm ?_
      exact ls
     ·rw [if_neg h16] at hm
      refine W_condf rfl (beq_eq_false_iff_ne.2 h16) ?_
      refine W_skip ?_
      refine KJoinM_n p2.n () hm ?_
      exact ls
    ·rintro x5 _ hm
     replace hm : loop_fits_j2 p1 p2 y1 x5 = some r := hm
     refine W_eqm ?_
     unfold loop_fits_j2 at hm
     by_cases h7 : p2.n ≥ 1
     ·rw [if_pos h7] at hm
      have h7b : decide (p2.n ≥ 1) = true := decide_eq_true h7
      by_cases h8 : p2.n ≤ 300
      ·rw [if_pos h8] at hm
       have h8b : decide (p2.n ≤ 300) = true := decide_eq_true h8
       refine W_regF [2, 3, 7, 8, 39, 40, 41, 42, 43, 44, 45, 46, 47, 48, 49, 50, 51, 52, 53, 54, 55, 56, 57, 58, 59, 60, 61, 62, 63, 64, 65, 66, 67, 68, 69, 70, 71, 72, 73, 74, 75, 76] fun k kp hk hp => ?_
       refine gox (a2 h7b h8b) ?_
       obtain ⟨y6, hc9, hm⟩ := bd hm
       refine RP (fun _ => loop_inside_ok p1 p2.to x5 _ hc9) ?_
       by_cases h10 : y6 = true
       ·rw [if_pos h10] at hm
        have h10b : y6 = true := h10
        refine RunRest_ops ?_
        refine gox (a2 h7b (a2 h8b h10b)) ?_
        obtain ⟨y7, hc11, hm⟩ := bd hm
        refine RP (fun _ => loop_tree_ok p1 p2.e p2.n _ hc11) ?_
        by_cases h12 : y7 = true
        ·rw [if_pos h12] at hm
         have h12b : y7 = true := h12
         by_cases h13 : p2.op = 2
         ·rw [if_pos h13] at hm
          have h13b : (p2.op == 2) = true := beq_iff_eq.2 h13
          refine RunRest_ops ?_
          refine gox (a2 h7b (a2 h8b (a2 h10b (a2 h12b h13b)))) ?_
          refine hk _ _ ?_
          clear hk hp k kp
          refine W_ret ?_
          refine KBody_ret [] ?_
          obtain rfl := Option.some.inj hm
          exact en
         ·rw [if_neg h13] at hm
          have h13b : (p2.op == 2) = false := beq_eq_false_iff_ne.2 h13
          by_cases h14 : y1.2.2 = 2
          ·rw [if_pos h14] at hm
           have h14b : (y1.2.2 == 2) = true := beq_iff_eq.2 h14
           refine RunRest_ops ?_
           refine gox (a2 h7b (a2 h8b (a2 h10b (a2 h12b (a2 h13b h14b))))) ?_
           obtain ⟨y8, hc15, hm⟩ := bd hm
           refine RP (fun _ => loop_tree_ok p1 p2.f 1 _ hc15) ?_
           refine RunRest_ops ?_
           refine gox (a2 h7b (a2 h8b (a2 h10b (a2 h12b (a2 h13b h14b))))) ?_
           refine hk _ _ ?_
           clear hk hp k kp
           refine W_ret ?_
           refine KBody_ret [] ?_
           obtain rfl := Option.some.inj hm
           exact en
          ·rw [if_neg h14] at hm
           have h14b : (y1.2.2 == 2) = false := beq_eq_false_iff_ne.2 h14
           refine RunRest_ops ?_
           refine gox (a2 h7b (a2 h8b (a2 h10b (a2 h12b (a2 h13b h14b))))) ?_
           refine hk _ _ ?_
           clear hk hp k kp
           refine W_ret ?_
           refine KBody_ret [] ?_
           obtain rfl := Option.some.inj hm
           exact en
        ·rw [if_neg h12] at hm
         have h12b : y7 = false := Bool.eq_false_iff.2 h12
         refine RunRest_ops ?_
         refine gox (a2 h7b (a2 h8b (a2 h10b h12b))) ?_
         refine hk _ _ ?_
         clear hk hp k kp
         refine W_ret ?_
         refine KBody_ret [] ?_
         obtain rfl := Option.some.inj hm
         exact en
       ·rw [if_neg h10] at hm
        have h10b : y6 = false := Bool.eq_false_iff.2 h10
        refine RunRest_ops ?_
        refine gox (a2 h7b (a2 h8b h10b)) ?_
        refine hk _ _ ?_
        clear hk hp k kp
        refine W_ret ?_
        refine KBody_ret [] ?_
        obtain rfl := Option.some.inj hm
        exact en
      ·rw [if_neg h8] at hm
       have h8b : decide (p2.n ≤ 300) = false := decide_eq_false h8
       refine W_rgx (a2 h7b h8b) [2, 3, 7, 8, 39, 40, 41, 42, 43, 44, 45, 46, 47, 48, 49, 50, 51, 52, 53, 54, 55, 56, 57, 58, 59, 60, 61, 62, 63, 64, 65, 66, 67, 68, 69, 70, 71, 72, 73, 74, 75, 76] ?_
       refine W_ret ?_
       refine KBody_ret [] ?_
       obtain rfl := Option.some.inj hm
       exact en
     ·rw [if_neg h7] at hm
      have h7b : decide (p2.n ≥ 1) = false := decide_eq_false h7
      refine W_rgx h7b [2, 3, 7, 8, 39, 40, 41, 42, 43, 44, 45, 46, 47, 48, 49, 50, 51, 52, 53, 54, 55, 56, 57, 58, 59, 60, 61, 62, 63, 64, 65, 66, 67, 68, 69, 70, 71, 72, 73, 74, 75, 76] ?_
      refine W_ret ?_
      refine KBody_ret [] ?_
      obtain rfl := Option.some.inj hm
      exact en
   ·rw [if_neg h6] at hm
    refine W_condf rfl (Bool.eq_false_iff.2 h6) ?_
    refine W_rg [2, 3, 7, 30] ?_
    refine W_ret ?_
    refine KBlock_r ?_
    refine KThen_r ?_
    refine KBody_ret [] ?_
    obtain rfl := Option.some.inj hm
    exact en
end Pam

/- the walk of loop_Check, printed by a program of ours -/
namespace Pam
open Go Go.Proofs
set_option maxRecDepth 100000 in
set_option maxHeartbeats 1000000 in
theorem loop_Check_ok (p1 : TLoops) (r : TFault) (hm : loop_Check p1 = some r) : SpecF Try.prog 32 [.a [.int .i64 p1.cells, .tree 1 (p1.put.map (eK .i64)), .tree 1 (p1.get.map (eK .i64)), .tree 6 (p1.steps.map TLoop.enc)]] (.a [.int .i64 ((r).code), .int .i64 ((r).at_)]) := by
 refine Spec_ofD 66 [.cell 2 30] Try.func32 rfl rfl rfl (by kernel_rfl) (by simp) ?_
 refine W_eqf ?_
 unfold loop_Check at hm
 refine W_rg [0] ?_
 refine W_seq_k fun k1 hk1 => ?_
 by_cases h1 : p1.cells < 1
 ·rw [if_pos h1] at hm
  have h1b : decide (p1.cells < 1) = true := decide_eq_true h1
  refine W_rgx h1b [7, 8, 9, 10, 11, 12, 13] ?_
  refine W_condt rfl rfl ?_
  refine W_rg [1, 14, 15] ?_
  refine W_ret ?_
  refine KThen_r ?_
  refine KBody_ret [] ?_
  obtain rfl := Option.some.inj hm
  exact en
 ·rw [if_neg h1] at hm
  have h1b : decide (p1.cells < 1) = false := decide_eq_false h1
  refine W_rgx h1b [7, 8, 9, 10, 11, 12, 13] ?_
  by_cases h2 : p1.cells > 6000
  ·rw [if_pos h2] at hm
   refine W_condt rfl (decide_eq_true h2) ?_
   refine W_rg [1, 14, 15] ?_
   refine W_ret ?_
   refine KThen_r ?_
   refine KBody_ret [] ?_
   obtain rfl := Option.some.inj hm
   exact en
  ·rw [if_neg h2] at hm
   refine W_condf rfl (decide_eq_false h2) ?_
   refine W_skip ?_
   refine KThen_n (hk1 _ _ ?_)
   refine W_seq_k fun k2 hk2 => ?_
   by_cases h3 : (p1.put.length : Int) > 6000
   ·rw [if_pos h3] at hm
    have h3b : decide ((p1.put.length : Int) > 6000) = true := decide_eq_true h3
    refine W_rgx h3b [14, 16, 17, 18, 19, 20, 21, 22, 23, 24, 25, 26, 27, 28, 29, 30] ?_
    refine W_condt rfl rfl ?_
    refine W_rg [1, 31, 32] ?_
    refine W_ret ?_
    refine KThen_r ?_
    refine KBody_ret [] ?_
    obtain rfl := Option.some.inj hm
    exact en
   ·rw [if_neg h3] at hm
    have h3b : decide ((p1.put.length : Int) > 6000) = false := decide_eq_false h3
    by_cases h4 : (p1.get.length : Int) > 120000
    ·rw [if_pos h4] at hm
     have h4b : decide ((p1.get.length : Int) > 120000) = true := decide_eq_true h4
     refine W_rgx (a2 h3b h4b) [14, 16, 17, 18, 19, 20, 21, 22, 23, 24, 25, 26, 27, 28, 29, 30] ?_
     refine W_condt rfl rfl ?_
     refine W_rg [1, 31, 32] ?_
     refine W_ret ?_
     refine KThen_r ?_
     refine KBody_ret [] ?_
     obtain rfl := Option.some.inj hm
     exact en
    ·rw [if_neg h4] at hm
     have h4b : decide ((p1.get.length : Int) > 120000) = false := decide_eq_false h4
     refine W_rgx (a2 h3b h4b) [14, 16, 17, 18, 19, 20, 21, 22, 23, 24, 25, 26, 27, 28, 29, 30] ?_
     by_cases h5 : (p1.steps.length : Int) > 1200
     ·rw [if_pos h5] at hm
      refine W_condt rfl (decide_eq_true h5) ?_
      refine W_rg [1, 31, 32] ?_
      refine W_ret ?_
      refine KThen_r ?_
      refine KBody_ret [] ?_
      obtain rfl := Option.some.inj hm
      exact en
     ·rw [if_neg h5] at hm
      refine W_condf rfl (decide_eq_false h5) ?_
      refine W_skip ?_
      refine KThen_n (hk2 _ _ ?_)
      refine W_joinM (S := Unit) (V := Unit) [4, 31, 33, 34, 35, 36, 37, 38, 39, 40, 41, 42, 43, 44, 45, 46, 47, 48, 49] (fun _ _ => []) (fun _ _ => [.box [.int .i64 p1.cells, .tree 1 (p1.put.map (eK .i64)), .tree 1 (p1.get.map (eK .i64)), .tree 6 (p1.steps.map TLoop.enc)], .box [.int .i64 0, .int .i64 0]]) (fun _ => loop_Check_j1 p1 = some r) ?_ ?_
      ·skip
       refine W_regF [31, 33, 34, 35, 36, 37] fun k kp hk hp => ?_
       refine go ?_
       obtain ⟨y6, hc12, hm⟩ := bd hm
       refine RA (slices_Concat_int_int_ok (lit ([p1.put, p1.get] : List (List Int))) 0 _ hc12) [2] ?_
       rintro p σ' hq13 _
       obtain ⟨rfl, rfl⟩ := hq13
       refine RunRest_ops ?_
       refine go ?_
       refine hk _ _ ?_
       clear hk hp k kp
       refine W_eqa [.box [.int .i64 p1.cells, .tree 1 (p1.put.map (eK .i64)), .tree 1 (p1.get.map (eK .i64)), .tree 6 (p1.steps.map TLoop.enc)], .box [.int .i64 0, .int .i64 0], .arr 1 0 22 ((lit ([p1.put, p1.get] : List (List Int))).map (eL 1 (eK .i64))), .arr 1 1 3 (y6.map (eK .i64))] ?_
       refine W_block ?_
       obtain ⟨o2, hl2, hm2⟩ := bd hm
       refine W_loopM (S := Int) (V := Unit) (O := Unit ⊕ TFault) [4, 38, 40, 41, 42, 43, 44, 45, 46, 47, 48, 49] (fun x9 _ => [(38, .c (.osl 3 1 0 y6.length)), (40, .c (.int .i64 x9))]) (fun x9 _ => [.box [.int .i64 p1.cells, .tree 1 (p1.put.map (eK .i64)), .tree 1 (p1.get.map (eK .i64)), .tree 6 (p1.steps.map TLoop.enc)], .box [.int .i64 0, .int .i64 0], .arr 1 0 22 ((lit ([p1.put, p1.get] : List (List Int))).map (eL 1 (eK .i64))), .arr 1 1 3 (y6.map (eK .i64))]) _ _ () hl2 ?_ ?_
       ·exact ls
       ·rintro x9 _ r2 hm hr2
        replace hm : loop_Check_l2 p1 y6 x9 = some r2 := hm
        refine W_eqm ?_
        unfold loop_Check_l2 at hm
        refine W_rg [] ?_
        refine W_seq_k fun k5 hk5 => ?_
        by_cases h14 : x9 < (y6.length : Int)
        ·rw [if_pos h14] at hm
         refine W_condt rfl (decide_eq_true h14) ?_
         refine W_skip ?_
         refine KThen_n (hk5 _ _ ?_)
         refine W_seq_k fun k6 hk6 => ?_
         refine W_block ?_
         obtain ⟨hg15a, hm⟩ := gd hm
         refine W_rgx (em (eK .i64) y6 x9.toNat) [41, 42, 43] ?_
         refine W_regF [4, 44, 45, 46] fun k kp hk hp => ?_
         refine go ?_
         obtain ⟨y10, hc16, hm⟩ := bd hm
         refine RP (fun _ => loop_inside_ok p1 (y6.getD x9.toNat default) 1 _ hc16) ?_
         refine RunRest_ops ?_
         refine go ?_
         refine hk _ _ ?_
         clear hk hp k kp
         by_cases h17 : y10 = true
         ·rw [if_pos h17] at hm
          refine W_condf rfl (by rw [show y10 = true from (h17)]; rfl) ?_
          refine W_skip ?_
          refine KBlock_n ?_
          refine KThen_n (hk6 _ _ ?_)
          refine W_rn ?_
          refine KLoopM_n (IntKind.wrap .i64 (x9 + 1)) () hm ?_
          exact ls
         ·rw [if_neg h17] at hm
          refine W_condt rfl (by rw [show y10 = false from (Bool.eq_false_iff.2 h17)]; rfl) ?_
          refine W_rg [1, 38, 39, 40, 47, 48] ?_
          have ho18 := out_eq hm hr2
          subst ho18
          replace hm : some (TFault.mk 16 (-1)) = some r := hm2
          refine W_ret ?_
          refine KBlock_r ?_
          refine KThen_r ?_
          refine KLoopM_r ?_
          refine KBlock_r ?_
          refine KJoinM_r ?_
          refine KBody_ret [] ?_
          obtain rfl := Option.some.inj hm
          exact en
        ·rw [if_neg h14] at hm
         refine W_condf rfl (decide_eq_false h14) ?_
         refine W_exit ?_
         have ho19 := out_eq hm hr2
         subst ho19
         replace hm : loop_Check_j1 p1 = some r := hm2
         refine KThen_x ?_
         refine KLoopM_x ?_
         refine KBlock_hit ?_
         refine KJoinM_n () () hm ?_
         exact ls
      ·rintro _ _ hm
       replace hm : loop_Check_j1 p1 = some r := hm
       refine W_eqm ?_
       unfold loop_Check_j1 at hm
       refine W_joinM (S := Unit) (V := Unit) [1, 5, 6, 50, 51, 52, 53, 54, 55, 56, 57, 58, 59, 60, 61, 62, 63, 64] (fun _ _ => []) (fun _ _ => [.box [.int .i64 p1.cells, .tree 1 (p1.put.map (eK .i64)), .tree 1 (p1.get.map (eK .i64)), .tree 6 (p1.steps.map TLoop.enc)], .box [.int .i64 0, .int .i64 0]]) (fun _ => loop_Check_j2 = some r) ?_ ?_
       ·skip
        refine W_rg [50] ?_
        refine W_block ?_
        obtain ⟨o1, hl1, hm1⟩ := bd hm
        refine W_loopM (S := Int) (V := Unit) (O := Unit ⊕ TFault) [5, 6, 53, 54, 55, 56, 57, 58, 59, 60, 61, 62, 63, 64] (fun x3 _ => [(53, .c (.int .i64 x3))]) (fun x3 _ => [.box [.int .i64 p1.cells, .tree 1 (p1.put.map (eK .i64)), .tree 1 (p1.get.map (eK .i64)), .tree 6 (p1.steps.map TLoop.enc)], .box [.int .i64 0, .int .i64 0]]) _ _ () hl1 ?_ ?_
        ·exact ls
        ·rintro x3 _ r1 hm hr1
         replace hm : loop_Check_l1 p1 x3 = some r1 := hm
         refine W_eqm ?_
         unfold loop_Check_l1 at hm
         refine W_rg [] ?_
         refine W_seq_k fun k3 hk3 => ?_
         by_cases h6 : x3 < (p1.steps.length : Int)
         ·rw [if_pos h6] at hm
          refine W_condt rfl (decide_eq_true h6) ?_
          refine W_skip ?_
          refine KThen_n (hk3 _ _ ?_)
          refine W_seq_k fun k4 hk4 => ?_
          refine W_block ?_
          obtain ⟨hg7a, hm⟩ := gd hm
          refine W_rgx (em TLoop.enc p1.steps x3.toNat) [54, 55, 56, 57] ?_
          refine W_regF [6, 58, 59, 60] fun k kp hk hp => ?_
          refine go ?_
          obtain ⟨y4, hc8, hm⟩ := bd hm
          refine RP (fun _ => loop_fits_ok p1 (p1.steps.getD x3.toNat default) _ hc8) ?_
          refine RunRest_ops ?_
          refine go ?_
          refine hk _ _ ?_
          clear hk hp k kp
          by_cases h9 : y4 = true
          ·rw [if_pos h9] at hm
           refine W_condf rfl (by rw [show y4 = true from (h9)]; rfl) ?_
           refine W_skip ?_
           refine KBlock_n ?_
           refine KThen_n (hk4 _ _ ?_)
           refine W_rn ?_
           refine KLoopM_n (IntKind.wrap .i64 (x3 + 1)) () hm ?_
           exact ls
          ·rw [if_neg h9] at hm
           refine W_condt rfl (by rw [show y4 = false from (Bool.eq_false_iff.2 h9)]; rfl) ?_
           refine W_rg [1, 5, 51, 52, 53, 61, 62, 63] ?_
           have ho10 := out_eq hm hr1
           subst ho10
           replace hm : some (TFault.mk 4 x3) = some r := hm1
           refine W_ret ?_
           refine KBlock_r ?_
           refine KThen_r ?_
           refine KLoopM_r ?_
           refine KBlock_r ?_
           refine KJoinM_r ?_
           refine KBody_ret [] ?_
           obtain rfl := Option.some.inj hm
           exact en
         ·rw [if_neg h6] at hm
          refine W_condf rfl (decide_eq_false h6) ?_
          refine W_exit ?_
          have ho11 := out_eq hm hr1
          subst ho11
          replace hm : loop_Check_j2 = some r := hm1
          refine KThen_x ?_
          refine KLoopM_x ?_
          refine KBlock_hit ?_
          refine KJoinM_n () () hm ?_
          exact ls
       ·rintro _ _ hm
        replace hm : loop_Check_j2 = some r := hm
        refine W_eqm ?_
        unfold loop_Check_j2 at hm
        refine W_rg [65] ?_
        refine W_ret ?_
        refine KBody_ret [] ?_
        obtain rfl := Option.some.inj hm
        exact en
end Pam

/- the walk of slices_Clone_int_int, printed by a program of ours -/
namespace Pam
open Go Go.Proofs
set_option maxRecDepth 100000 in
set_option maxHeartbeats 1000000 in
theorem slices_Clone_int_int_ok (p1 : List Int) (r : (List Int)) (hm : slices_Clone_int_int p1 = some r) : Spec Try.prog 83 [.c (.tree 1 (p1.map (eK .i64)))] [] (fun p σ => (p = .c (.osl 0 1 0 r.length) ∧ σ = [.arr 1 1 3 (r.map (eK .i64))])) (fun _ _ => False) := by
 refine Spec_ofD 8 [.tmp 2] Try.func83 rfl rfl rfl (by kernel_rfl) (by simp) ?_
 refine W_eqf ?_
 unfold slices_Clone_int_int at hm
 refine W_rg [2] ?_
 refine W_seq_k fun k1 hk1 => ?_
 by_cases h1 : p1 = []
 ·rw [if_pos h1] at hm
  refine W_nilcase 0 (s := 1) (by rw [h1]; rfl) ?_ ?_
  ·refine W_eqn ?_
   refine W_rg [3] ?_
   refine W_condt rfl rfl ?_
   refine W_rg [0, 4] ?_
   refine W_ghost (Ghost_nil 2 1 3 (by decide) rfl (Nat.le_of_ble_eq_true rfl)) ?_
   refine W_eql ?_
   refine W_ghost (Ghost_new 1 3 (by decide)) ?_
   simp only [bZ, bL, reduceIte, ↓reduceIte, reduceCtorEq, Int.reduceToNat, Nat.reduceDiv, Nat.reduceMod, Nat.reduceLT, Nat.reduceLeDiff, Nat.reduceAdd, Nat.reduceSub, Nat.reduceMul, Nat.reduceEqDiff, Nat.reduceBEq, Nat.reduceBNe, Nat.reduceGT, List.length_cons, List.length_nil, List.length_append, List.cons_append, List.nil_append]
   refine W_gh (Ghost_mv 1 0 (by decide) rfl rfl) ?_
   refine W_gh (Ghost_dn 0 1 (by decide) (Nat.le_of_ble_eq_true rfl) (Nat.le_of_ble_eq_true rfl) rfl rfl) ?_
   refine W_ret ?_
   refine KThen_r ?_
   refine KBody_ret [.arr 1 1 3 ([].map (eK .i64))] ?_
   obtain rfl := Option.some.inj hm
   exact en
  ·refine W_eqn ?_
   refine W_rg [3] ?_
   refine W_condf rfl rfl ?_
   refine W_skip ?_
   refine KThen_n (hk1 _ _ ?_)
   refine W_rg [0, 4, 5, 6, 7] ?_
   refine W_eqa [.arr 1 1 3 ([].map (eK .i64))] ?_
   refine W_ret ?_
   refine KBody_ret [.arr 1 1 3 ([].map (eK .i64))] ?_
   obtain rfl := Option.some.inj hm
   exact en
 ·rw [if_neg h1] at hm
  refine W_rg [3] ?_
  refine W_condf rfl rfl ?_
  refine W_skip ?_
  refine KThen_n (hk1 _ _ ?_)
  obtain ⟨⟨hg2ax, hg2ay⟩, hm⟩ := gd hm
  refine W_rg [0, 4, 5, 6, 7] ?_
  refine W_eqa [.arr 1 1 3 (p1.map (eK .i64))] ?_
  refine W_ret ?_
  refine KBody_ret [.arr 1 1 3 (p1.map (eK .i64))] ?_
  obtain rfl := Option.some.inj hm
  exact en
end Pam

/- the walk of slices_Clone_api_Push_api_Push, printed by a program of ours -/
namespace Pam
open Go Go.Proofs
set_option maxRecDepth 100000 in
set_option maxHeartbeats 1000000 in
theorem slices_Clone_api_Push_api_Push_ok (p1 : List TPush) (r : (List TPush)) (hm : slices_Clone_api_Push_api_Push p1 = some r) : Spec Try.prog 84 [.c (.tree 4 (p1.map TPush.enc))] [] (fun p σ => (p = .c (.osl 0 1 0 r.length) ∧ σ = [.arr 4 1 137 (r.map TPush.enc)])) (fun _ _ => False) := by
 refine Spec_ofD 8 [.tmp 2] Try.func84 rfl rfl rfl (by kernel_rfl) (by simp) ?_
 refine W_eqf ?_
 unfold slices_Clone_api_Push_api_Push at hm
 refine W_rg [2] ?_
 refine W_seq_k fun k1 hk1 => ?_
 by_cases h1 : p1 = []
 ·rw [if_pos h1] at hm
  refine W_nilcase 0 (s := 4) (by rw [h1]; rfl) ?_ ?_
  ·refine W_eqn ?_
   refine W_rg [3] ?_
   refine W_condt rfl rfl ?_
   refine W_rg [0, 4] ?_
   refine W_ghost (Ghost_nil 2 4 137 (by decide) rfl (Nat.le_of_ble_eq_true rfl)) ?_
   refine W_eql ?_
   refine W_ghost (Ghost_new 4 137 (by decide)) ?_
   simp only [bZ, bL, reduceIte, ↓reduceIte, reduceCtorEq, Int.reduceToNat, Nat.reduceDiv, Nat.reduceMod, Nat.reduceLT, Nat.reduceLeDiff, Nat.reduceAdd, Nat.reduceSub, Nat.reduceMul, Nat.reduceEqDiff, Nat.reduceBEq, Nat.reduceBNe, Nat.reduceGT, List.length_cons, List.length_nil, List.length_append, List.cons_append, List.nil_append]
   refine W_gh (Ghost_mv 1 0 (by decide) rfl rfl) ?_
   refine W_gh (Ghost_dn 0 1 (by decide) (Nat.le_of_ble_eq_true rfl) (Nat.le_of_ble_eq_true rfl) rfl rfl) ?_
   refine W_ret ?_
   refine KThen_r ?_
   refine KBody_ret [.arr 4 1 137 ([].map TPush.enc)] ?_
   obtain rfl := Option.some.inj hm
   exact en
  ·refine W_eqn ?_
   refine W_rg [3] ?_
   refine W_condf rfl rfl ?_
   refine W_skip ?_
   refine KThen_n (hk1 _ _ ?_)
   refine W_rg [0, 4, 5, 6, 7] ?_
   refine W_eqa [.arr 4 1 137 ([].map TPush.enc)] ?_
   refine W_ret ?_
   refine KBody_ret [.arr 4 1 137 ([].map TPush.enc)] ?_
   obtain rfl := Option.some.inj hm
   exact en
 ·rw [if_neg h1] at hm
  refine W_rg [3] ?_
  refine W_condf rfl rfl ?_
  refine W_skip ?_
  refine KThen_n (hk1 _ _ ?_)
  obtain ⟨⟨hg2ax, hg2ay⟩, hm⟩ := gd hm
  refine W_rg [0, 4, 5, 6, 7] ?_
  refine W_eqa [.arr 4 1 137 (p1.map TPush.enc)] ?_
  refine W_ret ?_
  refine KBody_ret [.arr 4 1 137 (p1.map TPush.enc)] ?_
  obtain rfl := Option.some.inj hm
  exact en
end Pam

/- the walk of loop_New, printed by a program of ours -/
namespace Pam
open Go Go.Proofs
set_option maxRecDepth 100000 in
set_option maxHeartbeats 1000000 in
theorem loop_New_ok (p1 : TLoops) (r : TFault ⊕ (TFault × Int × (List Int) × (List Int) × (List TLoop) × Int × Int × (List Int))) (hm : loop_New p1 = some r) : Spec Try.prog 37 [.a [.int .i64 p1.cells, .tree 1 (p1.put.map (eK .i64)), .tree 1 (p1.get.map (eK .i64)), .tree 6 (p1.steps.map TLoop.enc)]] [] (fun p σ => (Sum.elim (fun z => (p = .t [.c (.nilp), .a [.int .i64 ((z).code), .int .i64 ((z).at_)]] ∧ σ = [])) (fun z => (p = .t [.c (.optr 0 0), .a [.int .i64 ((z.1).code), .int .i64 ((z.1).at_)]] ∧ σ = [.box [.int .i64 z.2.1, .tree 1 (z.2.2.1.map (eK .i64)), .tree 1 (z.2.2.2.1.map (eK .i64)), .tree 6 (z.2.2.2.2.1.map TLoop.enc), .osl 2 1 0 z.2.2.2.2.2.2.2.length], .box [.int .i64 z.2.2.2.2.2.1, .int .i64 z.2.2.2.2.2.2.1], .arr 1 1 2 (z.2.2.2.2.2.2.2.map (eK .i64))]))) r) (fun _ _ => False) := by
 refine Spec_ofD 52 [.tmp 2, .cell 3 30] Try.func37 rfl rfl rfl (by kernel_rfl) (by simp) ?_
 refine W_eqf ?_
 unfold loop_New at hm
 refine W_rg [0, 2] ?_
 refine W_seq_k fun k1 hk1 => ?_
 refine W_regF [8, 9] fun k kp hk hp => ?_
 refine go ?_
 obtain ⟨y1, hc1, hm⟩ := bd hm
 refine RP (fun _ => loop_Check_ok p1 _ hc1) ?_
 refine RunRest_ops ?_
 refine go ?_
 refine hk _ _ ?_
 clear hk hp k kp
 refine W_rg [10, 11] ?_
 by_cases h2 : ¬ ((y1).code) = 0
 ·rw [if_pos h2] at hm
  refine W_condt rfl (bne_iff_ne.2 h2) ?_
  refine W_ag [1, 4, 12, 13] [0, 0, 3] [false, false, true] ?_
  refine W_ret ?_
  refine KThen_r ?_
  refine KBody_ret [] ?_
  obtain rfl := Option.some.inj hm
  exact en
 ·rw [if_neg h2] at hm
  refine W_condf rfl (bne_eq_false_iff_eq.2 (Decidable.not_not.1 h2)) ?_
  refine W_skip ?_
  refine KThen_n (hk1 _ _ ?_)
  refine W_lateT [4, 12, 14, 15, 16, 17, 18, 19, 20, 21, 22] [5] [0, 1, 0, 4, 12, 0, 32, 124, 255, 0, 1023] [false, false, false, false, false, false, false, false, false, false, true] (by kernel_rfl) (by kernel_rfl) (by decide) fun k kp hk => ?_
  simp only [virt, late, vOne, hush]
  refine ga ?_
  obtain ⟨y2, hc3, hm⟩ := bd hm
  refine AnyCall_at (σ2 := [.box [.int .i64 p1.cells, .tree 1 (p1.put.map (eK .i64)), .tree 1 (p1.get.map (eK .i64)), .tree 6 (p1.steps.map TLoop.enc)], .box [.int .i64 0, .int .i64 0], .box [.int .i64 ((y1).code), .int .i64 ((y1).at_)], .arr 1 1 3 (y2.map (eK .i64))]) (res := .c (.osl 3 1 0 y2.length)) ⟨_, _, _, _, [], slices_Clone_int_int_ok p1.put  _ hc3, by simp, by simp, rfl, rfl, by first | trivial | (simp [bX, eK, eB, eS, eL, s_cap, psUnder, PV.under, CV.under, obsBelow, OB.under, cvsBelow]; done), by first | trivial | (simp [bX, eK, eB, eS, eL, s_cap, psUnder, PV.under, CV.under, obsBelow, OB.under, cvsBelow]; done), fun q τ hq _ => by obtain ⟨rfl, rfl⟩ := hq; exact ⟨rfl, rfl⟩, fun _ _ h => h.elim⟩ (by first | trivial | exact dst_ok rfl) (by first | trivial | (intro _; first | trivial | simp [need]) | simp [need]) (by first | exact .inl rfl | exact .inr (by simp only [extB]; and_intros <;> first | rfl | trivial)) ?_
  refine ga ?_
  obtain ⟨y3, hc4, hm⟩ := bd hm
  refine AnyCall_at (σ2 := [.box [.int .i64 p1.cells, .tree 1 (p1.put.map (eK .i64)), .tree 1 (p1.get.map (eK .i64)), .tree 6 (p1.steps.map TLoop.enc)], .box [.int .i64 0, .int .i64 0], .box [.int .i64 ((y1).code), .int .i64 ((y1).at_)], .arr 1 1 3 (y2.map (eK .i64)), .arr 1 1 3 (y3.map (eK .i64))]) (res := .c (.osl 4 1 0 y3.length)) ⟨_, _, _, _, [], slices_Clone_int_int_ok p1.get  _ hc4, by simp, by simp, rfl, rfl, by first | trivial | (simp [bX, eK, eB, eS, eL, s_cap, psUnder, PV.under, CV.under, obsBelow, OB.under, cvsBelow]; done), by first | trivial | (simp [bX, eK, eB, eS, eL, s_cap, psUnder, PV.under, CV.under, obsBelow, OB.under, cvsBelow]; done), fun q τ hq _ => by obtain ⟨rfl, rfl⟩ := hq; exact ⟨rfl, rfl⟩, fun _ _ h => h.elim⟩ (by first | trivial | exact dst_ok rfl) (by first | trivial | (intro _; first | trivial | simp [need]) | simp [need]) (by first | exact .inl rfl | exact .inr (by simp only [extB]; and_intros <;> first | rfl | trivial)) ?_
  refine ga ?_
  refine go ?_
  refine hk _ _ ?_
  clear hk k kp
  refine W_gh (Ghost_nilB 5 3 6 129 (by decide) rfl rfl) ?_
  refine W_joinM (S := (List TLoop)) (V := Nat) [7, 23, 24, 25, 26, 27, 28, 29, 30, 31, 32, 33, 34, 35, 36, 37, 38, 39, 40, 41, 42, 43, 44] (fun l6 v7 => []) (fun l6 v7 => [.box [.int .i64 p1.cells, .tree 1 (p1.put.map (eK .i64)), .tree 1 (p1.get.map (eK .i64)), .tree 6 (p1.steps.map TLoop.enc)], .box [.int .i64 0, .int .i64 0], .box [.int .i64 ((y1).code), .int .i64 ((y1).at_)], .arr 1 1 3 (y2.map (eK .i64)), .arr 1 1 3 (y3.map (eK .i64)), .box [.int .i64 p1.cells, .osl 3 1 0 y2.length, .osl 4 1 0 y3.length, .osl 6 v7 0 l6.length], .arr 6 v7 129 (l6.map TLoop.enc)]) (fun l6 => loop_New_j1 p1 y2 y3 l6 = some r) ?_ ?_
  ·skip
   refine W_rg [23] ?_
   refine W_block ?_
   obtain ⟨o1, hl1, hm1⟩ := bd hm
   refine W_loopM (S := ((List TLoop) × Int)) (V := Nat) (O := (List TLoop)) [7, 26, 27, 28, 29, 30, 31, 32, 33, 34, 35, 36, 37, 38, 39, 40, 41, 42, 43, 44] (fun (l20, x22) v21 => [(26, .c (.int .i64 x22))]) (fun (l20, x22) v21 => [.box [.int .i64 p1.cells, .tree 1 (p1.put.map (eK .i64)), .tree 1 (p1.get.map (eK .i64)), .tree 6 (p1.steps.map TLoop.enc)], .box [.int .i64 0, .int .i64 0], .box [.int .i64 ((y1).code), .int .i64 ((y1).at_)], .arr 1 1 3 (y2.map (eK .i64)), .arr 1 1 3 (y3.map (eK .i64)), .box [.int .i64 p1.cells, .osl 3 1 0 y2.length, .osl 4 1 0 y3.length, .osl 6 v21 0 l20.length], .arr 6 v21 129 (l20.map TLoop.enc)]) _ _ 0 hl1 ?_ ?_
   ·exact ls
   ·rintro ⟨l20, x22⟩ v21 r1 hm hr1
    replace hm : loop_New_l1 p1 l20 x22 = some r1 := hm
    refine W_eqm ?_
    unfold loop_New_l1 at hm
    refine W_rg [] ?_
    refine W_seq_k fun k2 hk2 => ?_
    by_cases h6 : x22 < (p1.steps.length : Int)
    ·rw [if_pos h6] at hm
     refine W_condt rfl (decide_eq_true h6) ?_
     refine W_skip ?_
     refine KThen_n (hk2 _ _ ?_)
     refine W_seq_k fun k3 hk3 => ?_
     refine W_block ?_
     obtain ⟨hg7a, hm⟩ := gd hm
     refine W_rgx (em TLoop.enc p1.steps x22.toNat) [27, 28, 29] ?_
     refine W_anyF [30, 31, 32, 33, 34, 35, 36, 37] (by kernel_rfl) [0, 1, 3, 0, 8, 31, 31, 127, 255, 511] [false, false, false, false, false, false, false, true, true, true] (by kernel_rfl) fun k hk => ?_
     refine ga ?_
     obtain ⟨y23, hc8, hm⟩ := bd hm
     refine AnyCall_at (σ2 := [.box [.int .i64 p1.cells, .tree 1 (p1.put.map (eK .i64)), .tree 1 (p1.get.map (eK .i64)), .tree 6 (p1.steps.map TLoop.enc)], .box [.int .i64 0, .int .i64 0], .box [.int .i64 ((y1).code), .int .i64 ((y1).at_)], .arr 1 1 3 (y2.map (eK .i64)), .arr 1 1 3 (y3.map (eK .i64)), .box [.int .i64 p1.cells, .osl 3 1 0 y2.length, .osl 4 1 0 y3.length, .osl 6 v21 0 l20.length], .arr 6 v21 129 (l20.map TLoop.enc), .box [.int .i64 ((p1.steps.getD x22.toNat default).op), .int .i64 ((p1.steps.getD x22.toNat default).k), .int .i64 ((p1.steps.getD x22.toNat default).n), .int .i64 ((p1.steps.getD x22.toNat default).to), .tree 4 (((p1.steps.getD x22.toNat default).f).map TPush.enc), .tree 4 (((p1.steps.getD x22.toNat default).e).map TPush.enc)], .arr 4 1 137 (y23.map TPush.enc)]) (res := .c (.osl 8 1 0 y23.length)) ⟨_, _, _, _, [], slices_Clone_api_Push_api_Push_ok ((p1.steps.getD x22.toNat default).e)  _ hc8, by simp, by simp, rfl, rfl, by first | trivial | (simp [bX, eK, eB, eS, eL, s_cap, psUnder, PV.under, CV.under, obsBelow, OB.under, cvsBelow]; done), by first | trivial | (simp [bX, eK, eB, eS, eL, s_cap, psUnder, PV.under, CV.under, obsBelow, OB.under, cvsBelow]; done), fun q τ hq _ => by obtain ⟨rfl, rfl⟩ := hq; exact ⟨rfl, rfl⟩, fun _ _ h => h.elim⟩ (by first | trivial | exact dst_ok rfl) (by first | trivial | (intro _; first | trivial | simp [need]) | simp [need]) (by first | exact .inl rfl | exact .inr (by simp only [extB]; and_intros <;> first | rfl | trivial)) ?_
     refine ga ?_
     obtain ⟨y24, hc9, hm⟩ := bd hm
     refine AnyCall_at (σ2 := [.box [.int .i64 p1.cells, .tree 1 (p1.put.map (eK .i64)), .tree 1 (p1.get.map (eK .i64)), .tree 6 (p1.steps.map TLoop.enc)], .box [.int .i64 0, .int .i64 0], .box [.int .i64 ((y1).code), .int .i64 ((y1).at_)], .arr 1 1 3 (y2.map (eK .i64)), .arr 1 1 3 (y3.map (eK .i64)), .box [.int .i64 p1.cells, .osl 3 1 0 y2.length, .osl 4 1 0 y3.length, .osl 6 v21 0 l20.length], .arr 6 v21 129 (l20.map TLoop.enc), .box [.int .i64 ((p1.steps.getD x22.toNat default).op), .int .i64 ((p1.steps.getD x22.toNat default).k), .int .i64 ((p1.steps.getD x22.toNat default).n), .int .i64 ((p1.steps.getD x22.toNat default).to), .tree 4 (((p1.steps.getD x22.toNat default).f).map TPush.enc), .tree 4 (((p1.steps.getD x22.toNat default).e).map TPush.enc)], .arr 4 1 137 (y23.map TPush.enc), .arr 4 1 137 (y24.map TPush.enc)]) (res := .c (.osl 9 1 0 y24.length)) ⟨_, _, _, _, [], slices_Clone_api_Push_api_Push_ok ((p1.steps.getD x22.toNat default).f)  _ hc9, by simp, by simp, rfl, rfl, by first | trivial | (simp [bX, eK, eB, eS, eL, s_cap, psUnder, PV.under, CV.under, obsBelow, OB.under, cvsBelow]; done), by first | trivial | (simp [bX, eK, eB, eS, eL, s_cap, psUnder, PV.under, CV.under, obsBelow, OB.under, cvsBelow]; done), fun q τ hq _ => by obtain ⟨rfl, rfl⟩ := hq; exact ⟨rfl, rfl⟩, fun _ _ h => h.elim⟩ (by first | trivial | exact dst_ok rfl) (by first | trivial | (intro _; first | trivial | simp [need]) | simp [need]) (by first | exact .inl rfl | exact .inr (by simp only [extB]; and_intros <;> first | rfl | trivial)) ?_
     refine ga ?_
     refine hk _ _ ?_
     clear hk k
     refine W_gh (Ghost_fr 8 rfl) ?_
     refine W_gh (Ghost_fr 9 rfl) ?_
     obtain ⟨⟨hg10ax, hg10ay⟩, hm⟩ := gd hm
     refine W_rn ?_
     refine KBlock_n ?_
     refine KThen_n (hk3 _ _ ?_)
     refine W_rn ?_
     refine KLoopM_n ((l20 ++ (lit ([(TLoop.mk ((p1.steps.getD x22.toNat default).op) ((p1.steps.getD x22.toNat default).k) ((p1.steps.getD x22.toNat default).n) ((p1.steps.getD x22.toNat default).to) y24 y23)] : List TLoop))), (IntKind.wrap .i64 (x22 + 1))) (v21 + 1) hm ?_
     exact ls
    ·rw [if_neg h6] at hm
     refine W_condf rfl (decide_eq_false h6) ?_
     refine W_exit ?_
     have ho11 := out_eq hm hr1
     subst ho11
     replace hm : loop_New_j1 p1 y2 y3 l20 = some r := hm1
     refine KThen_x ?_
     refine KLoopM_x ?_
     refine KBlock_hit ?_
     refine KJoinM_n l20 v21 hm ?_
     exact ls
  ·rintro l6 v7 hm
   replace hm : loop_New_j1 p1 y2 y3 l6 = some r := hm
   refine W_eqm ?_
   unfold loop_New_j1 at hm
   obtain ⟨⟨hg5a, ⟨hg5bx, hg5by⟩⟩, hm⟩ := gd hm
   refine W_ag [1, 5, 45, 46, 47, 48, 49, 50, 51] [0, 0, 2, 6, 15, 31, 0, 63, 255] [false, false, false, false, false, false, false, false, true] ?_
   refine W_eqa [.box [.int .i64 p1.cells, .tree 1 (p1.put.map (eK .i64)), .tree 1 (p1.get.map (eK .i64)), .tree 6 (p1.steps.map TLoop.enc)], .box [.int .i64 0, .int .i64 0], .box [.int .i64 ((y1).code), .int .i64 ((y1).at_)], .arr 1 1 3 (y2.map (eK .i64)), .arr 1 1 3 (y3.map (eK .i64)), .box [.int .i64 p1.cells, .osl 3 1 0 y2.length, .osl 4 1 0 y3.length, .osl 6 v7 0 l6.length], .arr 6 v7 129 (l6.map TLoop.enc), .arr 1 0 2 ((List.replicate p1.cells.toNat 0).map (eK .i64)), .box [.int .i64 p1.cells, .osl 3 1 0 y2.length, .osl 4 1 0 y3.length, .osl 6 v7 0 l6.length, .osl 7 0 0 p1.cells.toNat]] ?_
   refine W_gh (Ghost_fr 3 rfl) ?_
   refine W_gh (Ghost_fr 4 rfl) ?_
   refine W_gh (Ghost_fr 6 rfl) ?_
   refine W_ghost (Ghost_new 1 2 (by decide)) ?_
   simp only [bZ, bL, reduceIte, ↓reduceIte, reduceCtorEq, Int.reduceToNat, Nat.reduceDiv, Nat.reduceMod, Nat.reduceLT, Nat.reduceLeDiff, Nat.reduceAdd, Nat.reduceSub, Nat.reduceMul, Nat.reduceEqDiff, Nat.reduceBEq, Nat.reduceBNe, Nat.reduceGT, List.length_cons, List.length_nil, List.length_append, List.cons_append, List.nil_append]
   refine W_gh (Ghost_mv 9 7 (by decide) rfl rfl) ?_
   refine W_gh (Ghost_dead 0 (by simp)) ?_
   refine W_gh (Ghost_dn 0 8 (by decide) (Nat.le_of_ble_eq_true rfl) (Nat.le_of_ble_eq_true rfl) rfl rfl) ?_
   refine W_gh (Ghost_dead 2 (by simp)) ?_
   refine W_gh (Ghost_dn 2 9 (by decide) (Nat.le_of_ble_eq_true rfl) (Nat.le_of_ble_eq_true rfl) rfl rfl) ?_
   refine W_ret ?_
   refine KBody_ret [.box [.int .i64 p1.cells, .tree 1 (y2.map (eK .i64)), .tree 1 (y3.map (eK .i64)), .tree 6 (l6.map TLoop.enc), .osl 2 1 0 p1.cells.toNat], .box [.int .i64 0, .int .i64 0], .arr 1 1 2 ((List.replicate p1.cells.toNat 0).map (eK .i64))] ?_
   obtain rfl := Option.some.inj hm
   exact en
end Pam

/- the walk of loop_Machine_Row, printed by a program of ours -/
namespace Pam
open Go Go.Proofs
set_option maxRecDepth 100000 in
set_option maxHeartbeats 1000000 in
theorem loop_Machine_Row_ok (p1 : List Int) (r : Unit) (hm : loop_Machine_Row p1 = some r) : SpecF Try.prog 39 [.c (.nilp), .c (.tree 1 (p1.map (eK .i64)))] (.t []) := by
 refine Spec_ofD 82 [.tmp 4, .cell 5 30] Try.func39 rfl rfl rfl (by kernel_rfl) (by simp) ?_
 refine W_eqf ?_
 unfold loop_Machine_Row at hm
 refine W_rg [4] ?_
 refine W_seq_k fun k1 hk1 => ?_
 cases hm
end Pam

/- the walk of sys_divide, printed by a program of ours -/
namespace Pam
open Go Go.Proofs
set_option maxRecDepth 100000 in
set_option maxHeartbeats 1000000 in
theorem sys_divide_ok (p1 : Int) (p2 : Int) (p3 : Int) (r : Int) (hm : sys_divide p1 p2 p3 = some r) : SpecF Try.prog 131 [.c (.int .i64 p1), .c (.int .i64 p2), .c (.int .i64 p3)] (.c (.int .i64 r)) := by
 refine Spec_ofD 17 [.tmp 6] Try.func131 rfl rfl rfl (by kernel_rfl) (by simp) ?_
 refine W_eqf ?_
 unfold sys_divide at hm
 refine W_rg [6] ?_
 refine W_seq_k fun k1 hk1 => ?_
 refine W_rg [7] ?_
 by_cases h1 : p3 = 0
 ·rw [if_pos h1] at hm
  refine W_condt rfl (beq_iff_eq.2 h1) ?_
  refine W_rg [0, 1, 2, 8] ?_
  refine W_ret ?_
  refine KThen_r ?_
  refine KBody_ret [] ?_
  obtain rfl := Option.some.inj hm
  exact en
 ·rw [if_neg h1] at hm
  refine W_condf rfl (beq_eq_false_iff_ne.2 h1) ?_
  refine W_skip ?_
  refine KThen_n (hk1 _ _ ?_)
  refine W_seq_k fun k2 hk2 => ?_
  refine W_rg [0, 8, 9] ?_
  by_cases h2 : p1 = 4
  ·rw [if_pos h2] at hm
   refine W_condt rfl (beq_iff_eq.2 h2) ?_
   obtain ⟨hg3a, hm⟩ := gd hm
   refine W_rg [1, 2, 10, 11, 12, 13] ?_
   refine W_ret ?_
   refine KThen_r ?_
   refine KBody_ret [] ?_
   obtain rfl := Option.some.inj hm
   exact en
  ·rw [if_neg h2] at hm
   refine W_condf rfl (beq_eq_false_iff_ne.2 h2) ?_
   refine W_skip ?_
   refine KThen_n (hk2 _ _ ?_)
   obtain ⟨hg4a, hm⟩ := gd hm
   refine W_rg [1, 2, 10, 14, 15, 16] ?_
   refine W_ret ?_
   refine KBody_ret [] ?_
   obtain rfl := Option.some.inj hm
   exact en
end Pam

/- the walk of sys_truth, printed by a program of ours -/
namespace Pam
open Go Go.Proofs
set_option maxRecDepth 100000 in
set_option maxHeartbeats 1000000 in
theorem sys_truth_ok (p1 : Bool) (r : Int) (hm : sys_truth p1 = some r) : SpecF Try.prog 132 [.c (.bool p1)] (.c (.int .i64 r)) := by
 refine Spec_ofD 4 [.tmp 2] Try.func132 rfl rfl rfl (by kernel_rfl) (by simp) ?_
 refine W_eqf ?_
 unfold sys_truth at hm
 refine W_rg [2] ?_
 refine W_seq_k fun k1 hk1 => ?_
 refine W_rg [0] ?_
 by_cases h1 : p1 = true
 ·rw [if_pos h1] at hm
  refine W_condt rfl (h1) ?_
  refine W_rg [3] ?_
  refine W_ret ?_
  refine KThen_r ?_
  refine KBody_ret [] ?_
  obtain rfl := Option.some.inj hm
  exact en
 ·rw [if_neg h1] at hm
  refine W_condf rfl (Bool.eq_false_iff.2 h1) ?_
  refine W_skip ?_
  refine KThen_n (hk1 _ _ ?_)
  refine W_rg [3] ?_
  refine W_ret ?_
  refine KBody_ret [] ?_
  obtain rfl := Option.some.inj hm
  exact en
end Pam

/- the walk of sys_Apply, printed by a program of ours -/
namespace Pam
open Go Go.Proofs
set_option maxRecDepth 100000 in
set_option maxHeartbeats 1000000 in
theorem sys_Apply_ok (p1 : Int) (p2 : Int) (p3 : Int) (r : Int) (hm : sys_Apply p1 p2 p3 = some r) : SpecF Try.prog 118 [.c (.int .i64 p1), .c (.int .i64 p2), .c (.int .i64 p3)] (.c (.int .i64 r)) := by
 refine Spec_ofD 87 [.tmp 6] Try.func118 rfl rfl rfl (by kernel_rfl) (by simp) ?_
 refine W_eqf ?_
 unfold sys_Apply at hm
 refine W_rg [6] ?_
 refine W_seq_k fun k1 hk1 => ?_
 refine W_rg [] ?_
 refine W_block ?_
 refine W_rg [9] ?_
 by_cases h1 : p1 = 1
 ·rw [if_pos h1] at hm
  refine W_condt rfl (beq_iff_eq.2 h1) ?_
  refine W_rg [0, 1, 2, 7, 8, 10, 11, 12] ?_
  refine W_ret ?_
  refine KBlock_r ?_
  refine KThen_r ?_
  refine KBody_ret [] ?_
  obtain rfl := Option.some.inj hm
  exact en
 ·rw [if_neg h1] at hm
  refine W_condf rfl (beq_eq_false_iff_ne.2 h1) ?_
  refine W_rg [8, 14] ?_
  by_cases h2 : p1 = 2
  ·rw [if_pos h2] at hm
   refine W_condt rfl (beq_iff_eq.2 h2) ?_
   refine W_rg [0, 1, 2, 7, 13, 15, 16, 17] ?_
   refine W_ret ?_
   refine KBlock_r ?_
   refine KThen_r ?_
   refine KBody_ret [] ?_
   obtain rfl := Option.some.inj hm
   exact en
  ·rw [if_neg h2] at hm
   refine W_condf rfl (beq_eq_false_iff_ne.2 h2) ?_
   refine W_rg [13, 19] ?_
   by_cases h3 : p1 = 3
   ·rw [if_pos h3] at hm
    refine W_condt rfl (beq_iff_eq.2 h3) ?_
    refine W_rg [0, 1, 2, 7, 18, 20, 21, 22] ?_
    refine W_ret ?_
    refine KBlock_r ?_
    refine KThen_r ?_
    refine KBody_ret [] ?_
    obtain rfl := Option.some.inj hm
    exact en
   ·rw [if_neg h3] at hm
    refine W_condf rfl (beq_eq_false_iff_ne.2 h3) ?_
    refine W_joinM (S := Bool) (V := Unit) [18, 23, 24, 25] (fun b1 _ => [(23, .c (.bool b1))]) (fun b1 _ => []) (fun b1 => sys_Apply_j1 p1 p2 p3 b1 = some r) ?_ ?_
    ·skip
     refine W_rg [18, 24] ?_
     by_cases h25 : p1 = 4
     ·rw [if_pos h25] at hm
      refine W_condt rfl (beq_iff_eq.2 h25) ?_
      refine W_skip ?_
      refine KJoinM_n (p1 == 4) () hm ?_
      exact ls
     ·rw [if_neg h25] at hm
      refine W_condf rfl (beq_eq_false_iff_ne.2 h25) ?_
      refine W_rn ?_
      refine KJoinM_n (p1 == 5) () hm ?_
      exact ls
    ·rintro b1 _ hm
     replace hm : sys_Apply_j1 p1 p2 p3 b1 = some r := hm
     refine W_eqm ?_
     unfold sys_Apply_j1 at hm
     by_cases h4 : b1 = true
     ·rw [if_pos h4] at hm
      refine W_condt rfl (h4) ?_
      refine W_regF [0, 1, 2, 7, 23, 26, 27, 28, 29] fun k kp hk hp => ?_
      refine go ?_
      obtain ⟨y2, hc5, hm⟩ := bd hm
      refine RP (fun _ => sys_divide_ok p1 p2 p3 _ hc5) ?_
      refine RunRest_ops ?_
      refine go ?_
      refine hk _ _ ?_
      clear hk hp k kp
      refine W_ret ?_
      refine KBlock_r ?_
      refine KThen_r ?_
      refine KBody_ret [] ?_
      obtain rfl := Option.some.inj hm
      exact en
     ·rw [if_neg h4] at hm
      refine W_condf rfl (Bool.eq_false_iff.2 h4) ?_
      refine W_rg [0, 23, 31] ?_
      by_cases h6 : p1 = 6
      ·rw [if_pos h6] at hm
       refine W_condt rfl (beq_iff_eq.2 h6) ?_
       refine W_rg [1, 2, 7, 30, 32, 33, 34] ?_
       refine W_ret ?_
       refine KBlock_r ?_
       refine KThen_r ?_
       refine KBody_ret [] ?_
       obtain rfl := Option.some.inj hm
       exact en
      ·rw [if_neg h6] at hm
       refine W_condf rfl (beq_eq_false_iff_ne.2 h6) ?_
       refine W_rg [30, 36] ?_
       by_cases h7 : p1 = 7
       ·rw [if_pos h7] at hm
        refine W_condt rfl (beq_iff_eq.2 h7) ?_
        refine W_rg [1, 2, 7, 35, 37, 38, 39] ?_
        refine W_ret ?_
        refine KBlock_r ?_
        refine KThen_r ?_
        refine KBody_ret [] ?_
        obtain rfl := Option.some.inj hm
        exact en
       ·rw [if_neg h7] at hm
        refine W_condf rfl (beq_eq_false_iff_ne.2 h7) ?_
        refine W_rg [35, 41] ?_
        by_cases h8 : p1 = 8
        ·rw [if_pos h8] at hm
         refine W_condt rfl (beq_iff_eq.2 h8) ?_
         refine W_regF [1, 2, 7, 40, 42, 43, 44, 45] fun k kp hk hp => ?_
         refine go ?_
         obtain ⟨y3, hc9, hm⟩ := bd hm
         refine RP (fun _ => sys_truth_ok (decide (p2 < p3)) _ hc9) ?_
         refine RunRest_ops ?_
         refine go ?_
         refine hk _ _ ?_
         clear hk hp k kp
         refine W_ret ?_
         refine KBlock_r ?_
         refine KThen_r ?_
         refine KBody_ret [] ?_
         obtain rfl := Option.some.inj hm
         exact en
        ·rw [if_neg h8] at hm
         refine W_condf rfl (beq_eq_false_iff_ne.2 h8) ?_
         refine W_rg [40, 47] ?_
         by_cases h10 : p1 = 9
         ·rw [if_pos h10] at hm
          refine W_condt rfl (beq_iff_eq.2 h10) ?_
          refine W_regF [1, 2, 7, 46, 48, 49, 50, 51] fun k kp hk hp => ?_
          refine go ?_
          obtain ⟨y4, hc11, hm⟩ := bd hm
          refine RP (fun _ => sys_truth_ok (p2 == p3) _ hc11) ?_
          refine RunRest_ops ?_
          refine go ?_
          refine hk _ _ ?_
          clear hk hp k kp
          refine W_ret ?_
          refine KBlock_r ?_
          refine KThen_r ?_
          refine KBody_ret [] ?_
          obtain rfl := Option.some.inj hm
          exact en
         ·rw [if_neg h10] at hm
          refine W_condf rfl (beq_eq_false_iff_ne.2 h10) ?_
          refine W_rg [46, 53] ?_
          by_cases h12 : p1 = 10
          ·rw [if_pos h12] at hm
           refine W_condt rfl (beq_iff_eq.2 h12) ?_
           by_cases h13 : ¬ p2 = 0
           ·rw [if_pos h13] at hm
            have h13b : (p2 != 0) = true := bne_iff_ne.2 h13
            refine W_regF [1, 2, 7, 52, 54, 55, 56, 57, 58, 59, 60] fun k kp hk hp => ?_
            refine gox h13b ?_
            obtain ⟨y5, hc14, hm⟩ := bd hm
            refine RP (fun _ => sys_truth_ok (p3 != 0) _ hc14) ?_
            refine RunRest_ops ?_
            refine gox h13b ?_
            refine hk _ _ ?_
            clear hk hp k kp
            refine W_ret ?_
            refine KBlock_r ?_
            refine KThen_r ?_
            refine KBody_ret [] ?_
            obtain rfl := Option.some.inj hm
            exact en
           ·rw [if_neg h13] at hm
            have h13b : (p2 != 0) = false := bne_eq_false_iff_eq.2 (Decidable.not_not.1 h13)
            refine W_regF [1, 2, 7, 52, 54, 55, 56, 57, 58, 59, 60] fun k kp hk hp => ?_
            refine gox h13b ?_
            obtain ⟨y6, hc15, hm⟩ := bd hm
            refine RP (fun _ => sys_truth_ok false _ hc15) ?_
            refine RunRest_ops ?_
            refine gox h13b ?_
            refine hk _ _ ?_
            clear hk hp k kp
            refine W_ret ?_
            refine KBlock_r ?_
            refine KThen_r ?_
            refine KBody_ret [] ?_
            obtain rfl := Option.some.inj hm
            exact en
          ·rw [if_neg h12] at hm
           refine W_condf rfl (beq_eq_false_iff_ne.2 h12) ?_
           refine W_rg [52, 62] ?_
           by_cases h16 : p1 = 11
           ·rw [if_pos h16] at hm
            refine W_condt rfl (beq_iff_eq.2 h16) ?_
            by_cases h17 : ¬ p2 = 0
            ·rw [if_pos h17] at hm
             have h17b : (p2 != 0) = true := bne_iff_ne.2 h17
             refine W_regF [1, 2, 7, 61, 63, 64, 65, 66, 67, 68, 69] fun k kp hk hp => ?_
             refine gox h17b ?_
             obtain ⟨y7, hc18, hm⟩ := bd hm
             refine RP (fun _ => sys_truth_ok true _ hc18) ?_
             refine RunRest_ops ?_
             refine gox h17b ?_
             refine hk _ _ ?_
             clear hk hp k kp
             refine W_ret ?_
             refine KBlock_r ?_
             refine KThen_r ?_
             refine KBody_ret [] ?_
             obtain rfl := Option.some.inj hm
             exact en
            ·rw [if_neg h17] at hm
             have h17b : (p2 != 0) = false := bne_eq_false_iff_eq.2 (Decidable.not_not.1 h17)
             refine W_regF [1, 2, 7, 61, 63, 64, 65, 66, 67, 68, 69] fun k kp hk hp => ?_
             refine gox h17b ?_
             obtain ⟨y8, hc19, hm⟩ := bd hm
             refine RP (fun _ => sys_truth_ok (p3 != 0) _ hc19) ?_
             refine RunRest_ops ?_
             refine gox h17b ?_
             refine hk _ _ ?_
             clear hk hp k kp
             refine W_ret ?_
             refine KBlock_r ?_
             refine KThen_r ?_
             refine KBody_ret [] ?_
             obtain rfl := Option.some.inj hm
             exact en
           ·rw [if_neg h16] at hm
            refine W_condf rfl (beq_eq_false_iff_ne.2 h16) ?_
            refine W_rg [61, 71] ?_
            by_cases h20 : p1 = 12
            ·rw [if_pos h20] at hm
             refine W_condt rfl (beq_iff_eq.2 h20) ?_
             refine W_regF [1, 2, 7, 70, 72, 73, 74, 75, 76, 77] fun k kp hk hp => ?_
             refine go ?_
             obtain ⟨y9, hc21, hm⟩ := bd hm
             refine RP (fun _ => sys_truth_ok (!((p2 != 0) == (p3 != 0))) _ hc21) ?_
             refine RunRest_ops ?_
             refine go ?_
             refine hk _ _ ?_
             clear hk hp k kp
             refine W_ret ?_
             refine KBlock_r ?_
             refine KThen_r ?_
             refine KBody_ret [] ?_
             obtain rfl := Option.some.inj hm
             exact en
            ·rw [if_neg h20] at hm
             refine W_condf rfl (beq_eq_false_iff_ne.2 h20) ?_
             refine W_rg [2, 70, 79] ?_
             by_cases h22 : p1 = 13
             ·rw [if_pos h22] at hm
              refine W_condt rfl (beq_iff_eq.2 h22) ?_
              refine W_rg [1, 7, 78, 80, 81] ?_
              refine W_ret ?_
              refine KBlock_r ?_
              refine KThen_r ?_
              refine KBody_ret [] ?_
              obtain rfl := Option.some.inj hm
              exact en
             ·rw [if_neg h22] at hm
              refine W_condf rfl (beq_eq_false_iff_ne.2 h22) ?_
              refine W_rg [7, 78, 83] ?_
              by_cases h23 : p1 = 14
              ·rw [if_pos h23] at hm
               refine W_condt rfl (beq_iff_eq.2 h23) ?_
               refine W_regF [1, 82, 84, 85, 86] fun k kp hk hp => ?_
               refine go ?_
               obtain ⟨y10, hc24, hm⟩ := bd hm
               refine RP (fun _ => sys_truth_ok (p2 == 0) _ hc24) ?_
               refine RunRest_ops ?_
               refine go ?_
               refine hk _ _ ?_
               clear hk hp k kp
               refine W_ret ?_
               refine KBlock_r ?_
               refine KThen_r ?_
               refine KBody_ret [] ?_
               obtain rfl := Option.some.inj hm
               exact en
              ·rw [if_neg h23] at hm
               refine W_condf rfl (beq_eq_false_iff_ne.2 h23) ?_
               refine W_skip ?_
               refine KBlock_n ?_
               refine KThen_n (hk1 _ _ ?_)
               refine W_rg [1, 82] ?_
               refine W_ret ?_
               refine KBody_ret [] ?_
               obtain rfl := Option.some.inj hm
               exact en
end Pam

/- the walk of loop_Machine_tree, printed by a program of ours -/
namespace Pam
open Go Go.Proofs
set_option maxRecDepth 100000 in
set_option maxHeartbeats 1000000 in
theorem loop_Machine_tree_ok (p1 : List TPush) (p2 : Int) (p3 : Int) (p4 : List Int) (p5 : List Int) (p6 : List TLoop) (p7 : List Int) (v1_ : Nat) (r : Int) (hm : loop_Machine_tree p1 p2 p3 p4 p5 p6 p7 = some r) : Spec Try.prog 117 [.c (.optr 0 0), .c (.tree 4 (p1.map TPush.enc)), .c (.int .i64 p2)] [.box [.int .i64 p3, .tree 1 (p4.map (eK .i64)), .tree 1 (p5.map (eK .i64)), .tree 6 (p6.map TLoop.enc), .osl 1 v1_ 0 p7.length], .arr 1 v1_ 2 (p7.map (eK .i64))] (fun p σ => (p = .c (.int .i64 r) ∧ σ = [.box [.int .i64 p3, .tree 1 (p4.map (eK .i64)), .tree 1 (p5.map (eK .i64)), .tree 6 (p6.map TLoop.enc), .osl 1 v1_ 0 p7.length], .arr 1 v1_ 2 (p7.map (eK .i64))])) (fun _ _ => False) := by
 refine Spec_ofD 169 [.tmp 6] Try.func117 rfl rfl rfl (by kernel_rfl) (by simp) ?_
 refine W_eqf ?_
 unfold loop_Machine_tree at hm
 refine W_rg [6] ?_
 refine W_rg [] ?_
 refine W_ghost (Ghost_nil 7 1 2 (by decide) rfl (Nat.le_of_ble_eq_true rfl)) ?_
 refine W_eql ?_
 refine W_joinM (S := (List Int)) (V := Nat) [0, 1, 2, 7, 9, 10, 11, 12, 13, 14, 15, 16, 17, 18, 19, 20, 21, 22, 23, 24, 25, 26, 27, 28, 29, 30, 31, 32, 33, 34, 35, 36, 37, 38, 39, 40, 41, 42, 43, 44, 45, 46, 47, 48, 49, 50, 51, 52, 53, 54, 55, 56, 57, 58, 59, 60, 61, 62, 63, 64, 65, 66, 67, 68, 69, 70, 71, 72, 73, 74, 75, 76, 77, 78, 79, 80, 81, 82, 83, 84, 85, 86, 87, 88, 89, 90, 91, 92, 93, 94, 95, 96, 97, 98, 99, 100, 101, 102, 103, 104, 105, 106, 107, 108, 109, 110, 111, 112, 113, 114, 115, 116, 117, 118, 119, 120, 121, 122, 123, 124, 125, 126, 127, 128, 129, 130, 131, 132, 133, 134, 135, 136, 137, 138, 139, 140, 141, 142, 143, 144, 145, 146, 147, 148, 149, 150, 151, 152, 153, 154, 155, 156, 157, 158, 159, 160, 161, 162, 163, 164, 165] (fun l3 v4 => [(7, .c (.osl 2 v4 0 l3.length))]) (fun l3 v4 => [.box [.int .i64 p3, .tree 1 (p4.map (eK .i64)), .tree 1 (p5.map (eK .i64)), .tree 6 (p6.map TLoop.enc), .osl 1 v1_ 0 p7.length], .arr 1 v1_ 2 (p7.map (eK .i64)), .arr 1 v4 2 (l3.map (eK .i64))]) (fun l3 => loop_Machine_tree_j1 l3 = some r) ?_ ?_
 ·skip
  refine W_rg [1] ?_
  refine W_block ?_
  obtain ⟨o1, hl1, hm1⟩ := bd hm
  refine W_loopM (S := ((List Int) × Int)) (V := Nat) (O := (List Int)) [7, 9, 10, 11, 12, 13, 16, 17, 18, 19, 20, 21, 22, 23, 24, 25, 26, 27, 28, 29, 30, 31, 32, 33, 34, 35, 36, 37, 38, 39, 40, 41, 42, 43, 44, 45, 46, 47, 48, 49, 50, 51, 52, 53, 54, 55, 56, 57, 58, 59, 60, 61, 62, 63, 64, 65, 66, 67, 68, 69, 70, 71, 72, 73, 74, 75, 76, 77, 78, 79, 80, 81, 82, 83, 84, 85, 86, 87, 88, 89, 90, 91, 92, 93, 94, 95, 96, 97, 98, 99, 100, 101, 102, 103, 104, 105, 106, 107, 108, 109, 110, 111, 112, 113, 114, 115, 116, 117, 118, 119, 120, 121, 122, 123, 124, 125, 126, 127, 128, 129, 130, 131, 132, 133, 134, 135, 136, 137, 138, 139, 140, 141, 142, 143, 144, 145, 146, 147, 148, 149, 150, 151, 152, 153, 154, 155, 156, 157, 158, 159, 160, 161, 162, 163, 164, 165] (fun (l17, x19) v18 => [(7, .c (.osl 2 v18 0 l17.length)), (16, .c (.int .i64 x19))]) (fun (l17, x19) v18 => [.box [.int .i64 p3, .tree 1 (p4.map (eK .i64)), .tree 1 (p5.map (eK .i64)), .tree 6 (p6.map TLoop.enc), .osl 1 v1_ 0 p7.length], .arr 1 v1_ 2 (p7.map (eK .i64)), .arr 1 v18 2 (l17.map (eK .i64))]) _ _ 0 hl1 ?_ ?_
  ·exact ls
  ·rintro ⟨l17, x19⟩ v18 r1 hm hr1
   replace hm : loop_Machine_tree_l1 p1 p2 p7 l17 x19 = some r1 := hm
   refine W_eqm ?_
   unfold loop_Machine_tree_l1 at hm
   refine W_rg [] ?_
   refine W_seq_k fun k1 hk1 => ?_
   by_cases h2 : x19 < (p1.length : Int)
   ·rw [if_pos h2] at hm
    refine W_condt rfl (decide_eq_true h2) ?_
    refine W_skip ?_
    refine KThen_n (hk1 _ _ ?_)
    refine W_seq_k fun k2 hk2 => ?_
    refine W_block ?_
    obtain ⟨hg3a, hm⟩ := gd hm
    refine W_rgx (em TPush.enc p1 x19.toNat) [17, 18, 19] ?_
    refine W_rg [20, 21] ?_
    refine W_rg [22] ?_
    refine W_block ?_
    refine W_rg [25] ?_
    by_cases h4 : ((p1.getD x19.toNat default).op) = 1
    ·rw [if_pos h4] at hm
     refine W_condt rfl (beq_iff_eq.2 h4) ?_
     obtain ⟨⟨hg5ax, hg5ay⟩, hm⟩ := gd hm
     refine W_rn ?_
     refine KBlock_n ?_
     refine KBlock_n ?_
     refine KThen_n (hk2 _ _ ?_)
     refine W_rn ?_
     refine KLoopM_n ((l17 ++ (lit ([(p1.getD x19.toNat default).n] : List Int))), (IntKind.wrap .i64 (x19 + 1))) (v18 + 1) hm ?_
     exact ls
    ·rw [if_neg h4] at hm
     refine W_condf rfl (beq_eq_false_iff_ne.2 h4) ?_
     refine W_rg [24, 32] ?_
     by_cases h6 : ((p1.getD x19.toNat default).op) = 2
     ·rw [if_pos h6] at hm
      refine W_condt rfl (beq_iff_eq.2 h6) ?_
      obtain ⟨⟨hg7a, ⟨hg7bx, hg7by⟩⟩, hm⟩ := gd hm
      refine W_anx (em (eK .i64) p7 (((p1.getD x19.toNat default).v).toNat)) [0, 0, 2, 6, 14, 0, 32, 126, 254, 510, 1023, 2047] [false, false, false, false, false, false, false, false, false, false, true, true] ?_
      refine KBlock_n ?_
      refine KBlock_n ?_
      refine KThen_n (hk2 _ _ ?_)
      refine W_rn ?_
      refine KLoopM_n ((l17 ++ (lit ([(p7.getD (((p1.getD x19.toNat default).v).toNat) default)] : List Int))), (IntKind.wrap .i64 (x19 + 1))) (v18 + 1) hm ?_
      exact ls
     ·rw [if_neg h6] at hm
      refine W_condf rfl (beq_eq_false_iff_ne.2 h6) ?_
      refine W_rg [31, 45] ?_
      by_cases h8 : ((p1.getD x19.toNat default).op) = 3
      ·rw [if_pos h8] at hm
       refine W_condt rfl (beq_iff_eq.2 h8) ?_
       obtain ⟨⟨hg9a, ⟨hg9bx, hg9by⟩⟩, hm⟩ := gd hm
       refine W_anx (em (eK .i64) p7 ((IntKind.wrap .i64 (((p1.getD x19.toNat default).v) + p2)).toNat)) [0, 0, 2, 6, 14, 0, 32, 0, 224, 510, 1022, 2046, 4095, 8191] [false, false, false, false, false, false, false, false, false, false, false, false, true, true] ?_
       refine KBlock_n ?_
       refine KBlock_n ?_
       refine KThen_n (hk2 _ _ ?_)
       refine W_rn ?_
       refine KLoopM_n ((l17 ++ (lit ([(p7.getD ((IntKind.wrap .i64 (((p1.getD x19.toNat default).v) + p2)).toNat) default)] : List Int))), (IntKind.wrap .i64 (x19 + 1))) (v18 + 1) hm ?_
       exact ls
      ·rw [if_neg h8] at hm
       refine W_condf rfl (beq_eq_false_iff_ne.2 h8) ?_
       refine W_rg [44, 60] ?_
       by_cases h10 : ((p1.getD x19.toNat default).op) = 4
       ·rw [if_pos h10] at hm
        refine W_condt rfl (beq_iff_eq.2 h10) ?_
        obtain ⟨⟨hg11ax, hg11ay⟩, hm⟩ := gd hm
        refine W_rn ?_
        refine KBlock_n ?_
        refine KBlock_n ?_
        refine KThen_n (hk2 _ _ ?_)
        refine W_rn ?_
        refine KLoopM_n ((l17 ++ (lit ([(IntKind.wrap .i64 (p2 + ((p1.getD x19.toNat default).n)))] : List Int))), (IntKind.wrap .i64 (x19 + 1))) (v18 + 1) hm ?_
        exact ls
       ·rw [if_neg h10] at hm
        refine W_condf rfl (beq_eq_false_iff_ne.2 h10) ?_
        refine W_rg [59, 69] ?_
        by_cases h12 : ((p1.getD x19.toNat default).op) = 5
        ·rw [if_pos h12] at hm
         refine W_condt rfl (beq_iff_eq.2 h12) ?_
         obtain ⟨hg13a, hm⟩ := gd hm
         refine W_any (by kernel_rfl) [0, 0, 2, 0, 8, 0, 0, 64, 224, 480, 1016, 2047, 4095] [false, false, false, false, false, false, false, false, false, false, false, true, true] (by kernel_rfl) fun k hk => ?_
         refine gax (em (eK .i64) l17 ((IntKind.wrap .i64 ((l17.length : Int) - 1)).toNat)) ?_
         obtain ⟨y20, hc14, hm⟩ := bd hm
         refine AP (fun _ => sys_Apply_ok ((p1.getD x19.toNat default).k) (l17.getD ((IntKind.wrap .i64 ((l17.length : Int) - 1)).toNat) default) 0 _ hc14) ?_
         refine gax (em (eK .i64) l17 ((IntKind.wrap .i64 ((l17.length : Int) - 1)).toNat)) ?_
         refine hk _ _ ?_
         clear hk k
         refine KBlock_n ?_
         refine KBlock_n ?_
         refine KThen_n (hk2 _ _ ?_)
         refine W_rn ?_
         refine KLoopM_n ((l17.set ((IntKind.wrap .i64 ((l17.length : Int) - 1)).toNat) y20), (IntKind.wrap .i64 (x19 + 1))) v18 hm ?_
         exact ls
        ·rw [if_neg h12] at hm
         refine W_condf rfl (beq_eq_false_iff_ne.2 h12) ?_
         refine W_rg [68, 83] ?_
         by_cases h15 : ((p1.getD x19.toNat default).op) = 6
         ·rw [if_pos h15] at hm
          refine W_condt rfl (beq_iff_eq.2 h15) ?_
          obtain ⟨⟨hg16a, hg16b, hg16c⟩, hm⟩ := gd hm
          refine W_any (by kernel_rfl) [0, 0, 2, 7, 0, 16, 0, 0, 128, 448, 960, 0, 0, 4096, 14336, 30720, 65520, 131056, 262143, 524287] [false, false, false, false, false, false, false, false, false, false, false, false, false, false, false, false, false, false, true, true] (by kernel_rfl) fun k hk => ?_
          refine gax (a2 (em (eK .i64) l17 ((IntKind.wrap .i64 ((l17.length : Int) - 2)).toNat)) (em (eK .i64) l17 ((IntKind.wrap .i64 ((l17.length : Int) - 1)).toNat))) ?_
          obtain ⟨y21, hc17, hm⟩ := bd hm
          refine AP (fun _ => sys_Apply_ok ((p1.getD x19.toNat default).k) (l17.getD ((IntKind.wrap .i64 ((l17.length : Int) - 2)).toNat) default) (l17.getD ((IntKind.wrap .i64 ((l17.length : Int) - 1)).toNat) default) _ hc17) ?_
          obtain ⟨⟨hg18ax, hg18ay⟩, hm⟩ := gd hm
          refine ga ?_
          refine hk _ _ ?_
          clear hk k
          refine KBlock_n ?_
          refine KBlock_n ?_
          refine KThen_n (hk2 _ _ ?_)
          refine W_rn ?_
          refine KLoopM_n (((l17.take ((IntKind.wrap .i64 ((l17.length : Int) - 2)).toNat)) ++ (lit ([y21] : List Int))), (IntKind.wrap .i64 (x19 + 1))) (v18 + 1) hm ?_
          exact ls
         ·rw [if_neg h15] at hm
          refine W_condf rfl (beq_eq_false_iff_ne.2 h15) ?_
          refine W_rg [82, 104] ?_
          by_cases h19 : ((p1.getD x19.toNat default).op) = 7
          ·rw [if_pos h19] at hm
           refine W_condt rfl (beq_iff_eq.2 h19) ?_
           obtain ⟨hg20a, hm⟩ := gd hm
           refine W_rgx (em (eK .i64) l17 ((IntKind.wrap .i64 ((l17.length : Int) - 1)).toNat)) [9, 23, 103, 105, 106, 107, 108, 109] ?_
           refine W_joinM (S := Int) (V := Nat) [7, 11, 110, 111, 112, 113, 114, 115, 116, 117, 118, 119, 120] (fun x24 v23 => [(7, .c (.osl 2 v23 0 l17.length)), (11, .c (.int .i64 x24))]) (fun x24 v23 => [.box [.int .i64 p3, .tree 1 (p4.map (eK .i64)), .tree 1 (p5.map (eK .i64)), .tree 6 (p6.map TLoop.enc), .osl 1 v1_ 0 p7.length], .arr 1 v1_ 2 (p7.map (eK .i64)), .arr 1 v23 2 (l17.map (eK .i64)), .box [.int .i64 ((p1.getD x19.toNat default).op), .int .i64 ((p1.getD x19.toNat default).k), .int .i64 ((p1.getD x19.toNat default).v), .int .i64 ((p1.getD x19.toNat default).n)]]) (fun x24 => loop_Machine_tree_j2 l17 x19 x24 = some r1) ?_ ?_
           ·skip
            obtain ⟨hg22a, hm⟩ := gd hm
            refine W_rgx (em (eK .i64) l17 ((IntKind.wrap .i64 ((l17.length : Int) - 3)).toNat)) [110, 111, 112, 113, 114] ?_
            by_cases h23 : ¬ (l17.getD ((IntKind.wrap .i64 ((l17.length : Int) - 3)).toNat) default) = 0
            ·rw [if_pos h23] at hm
             refine W_condt rfl (bne_iff_ne.2 h23) ?_
             obtain ⟨hg24a, hm⟩ := gd hm
             refine W_rnx (em (eK .i64) l17 ((IntKind.wrap .i64 ((l17.length : Int) - 2)).toNat)) ?_
             refine KJoinM_n (l17.getD ((IntKind.wrap .i64 ((l17.length : Int) - 2)).toNat) default) v18 hm ?_
             exact ls
            ·rw [if_neg h23] at hm
             refine W_condf rfl (bne_eq_false_iff_eq.2 (Decidable.not_not.1 h23)) ?_
             refine W_skip ?_
             refine KJoinM_n (l17.getD ((IntKind.wrap .i64 ((l17.length : Int) - 1)).toNat) default) v18 hm ?_
             exact ls
           ·rintro x24 v23 hm
            replace hm : loop_Machine_tree_j2 l17 x19 x24 = some r1 := hm
            refine W_eqm ?_
            unfold loop_Machine_tree_j2 at hm
            obtain ⟨⟨hg21a, ⟨hg21bx, hg21by⟩⟩, hm⟩ := gd hm
            refine W_rn ?_
            refine KBlock_n ?_
            refine KBlock_n ?_
            refine KThen_n (hk2 _ _ ?_)
            refine W_rn ?_
            refine KLoopM_n (((l17.take ((IntKind.wrap .i64 ((l17.length : Int) - 3)).toNat)) ++ (lit ([x24] : List Int))), (IntKind.wrap .i64 (x19 + 1))) (v23 + 1) hm ?_
            exact ls
          ·rw [if_neg h19] at hm
           refine W_condf rfl (beq_eq_false_iff_ne.2 h19) ?_
           refine W_rg [23, 103, 129] ?_
           by_cases h25 : ((p1.getD x19.toNat default).op) = 8
           ·rw [if_pos h25] at hm
            refine W_condt rfl (beq_iff_eq.2 h25) ?_
            obtain ⟨hg26a, hm⟩ := gd hm
            refine W_rgx (em (eK .i64) l17 ((IntKind.wrap .i64 ((l17.length : Int) - 1)).toNat)) [128, 130, 131, 132, 133, 134] ?_
            refine W_joinM (S := Int) (V := Nat) [7, 9, 12, 13, 135, 136, 137, 138, 139, 140, 141, 142, 143, 144, 145, 146, 147, 148, 149, 150, 151, 152, 153, 154, 155, 156, 157] (fun x27 v26 => [(7, .c (.osl 2 v26 0 l17.length)), (12, .c (.int .i64 x27))]) (fun x27 v26 => [.box [.int .i64 p3, .tree 1 (p4.map (eK .i64)), .tree 1 (p5.map (eK .i64)), .tree 6 (p6.map TLoop.enc), .osl 1 v1_ 0 p7.length], .arr 1 v1_ 2 (p7.map (eK .i64)), .arr 1 v26 2 (l17.map (eK .i64)), .box [.int .i64 ((p1.getD x19.toNat default).op), .int .i64 ((p1.getD x19.toNat default).k), .int .i64 ((p1.getD x19.toNat default).v), .int .i64 ((p1.getD x19.toNat default).n)]]) (fun x27 => loop_Machine_tree_j3 l17 x19 x27 = some r1) ?_ ?_
            ·skip
             obtain ⟨hg28a, hm⟩ := gd hm
             refine W_rgx (em (eK .i64) l17 ((IntKind.wrap .i64 ((l17.length : Int) - 2)).toNat)) [135, 136, 137, 138, 139] ?_
             by_cases h29 : (l17.getD ((IntKind.wrap .i64 ((l17.length : Int) - 2)).toNat) default) ≥ 0
             ·rw [if_pos h29] at hm
              have h29b : decide ((l17.getD ((IntKind.wrap .i64 ((l17.length : Int) - 2)).toNat) default) ≥ 0) = true := decide_eq_true h29
              refine W_rgx h29b [140, 141, 142, 143, 144, 145, 146] ?_
              by_cases h30 : (l17.getD ((IntKind.wrap .i64 ((l17.length : Int) - 2)).toNat) default) < ((p1.getD x19.toNat default).n)
              ·rw [if_pos h30] at hm
               refine W_condt rfl (decide_eq_true h30) ?_
               obtain ⟨hg31a, hm⟩ := gd hm
               refine W_anx (em (eK .i64) p7 ((IntKind.wrap .i64 (((p1.getD x19.toNat default).v) + (l17.getD ((IntKind.wrap .i64 ((l17.length : Int) - 2)).toNat) default))).toNat)) [0, 1, 3, 7, 0, 16, 0, 112, 255, 511, 1023] [false, false, false, false, false, false, false, false, true, true, true] ?_
               refine KJoinM_n (p7.getD ((IntKind.wrap .i64 (((p1.getD x19.toNat default).v) + (l17.getD ((IntKind.wrap .i64 ((l17.length : Int) - 2)).toNat) default))).toNat) default) v18 hm ?_
               exact ls
              ·rw [if_neg h30] at hm
               refine W_condf rfl (decide_eq_false h30) ?_
               refine W_skip ?_
               refine KJoinM_n (l17.getD ((IntKind.wrap .i64 ((l17.length : Int) - 1)).toNat) default) v18 hm ?_
               exact ls
             ·rw [if_neg h29] at hm
              have h29b : decide ((l17.getD ((IntKind.wrap .i64 ((l17.length : Int) - 2)).toNat) default) ≥ 0) = false := decide_eq_false h29
              refine W_rgx h29b [140, 141, 142, 143, 144, 145, 146] ?_
              refine W_condf rfl rfl ?_
              refine W_skip ?_
              refine KJoinM_n (l17.getD ((IntKind.wrap .i64 ((l17.length : Int) - 1)).toNat) default) v18 hm ?_
              exact ls
            ·rintro x27 v26 hm
             replace hm : loop_Machine_tree_j3 l17 x19 x27 = some r1 := hm
             refine W_eqm ?_
             unfold loop_Machine_tree_j3 at hm
             obtain ⟨⟨hg27a, ⟨hg27bx, hg27by⟩⟩, hm⟩ := gd hm
             refine W_rn ?_
             refine KBlock_n ?_
             refine KBlock_n ?_
             refine KThen_n (hk2 _ _ ?_)
             refine W_rn ?_
             refine KLoopM_n (((l17.take ((IntKind.wrap .i64 ((l17.length : Int) - 2)).toNat)) ++ (lit ([x27] : List Int))), (IntKind.wrap .i64 (x19 + 1))) (v26 + 1) hm ?_
             exact ls
           ·rw [if_neg h25] at hm
            refine W_condf rfl (beq_eq_false_iff_ne.2 h25) ?_
            refine W_skip ?_
            refine KBlock_n ?_
            refine KBlock_n ?_
            refine KThen_n (hk2 _ _ ?_)
            refine W_rn ?_
            refine KLoopM_n (l17, (IntKind.wrap .i64 (x19 + 1))) v18 hm ?_
            exact ls
   ·rw [if_neg h2] at hm
    refine W_condf rfl (decide_eq_false h2) ?_
    refine W_exit ?_
    have ho32 := out_eq hm hr1
    subst ho32
    replace hm : loop_Machine_tree_j1 l17 = some r := hm1
    refine KThen_x ?_
    refine KLoopM_x ?_
    refine KBlock_hit ?_
    refine KJoinM_n l17 v18 hm ?_
    exact ls
 ·rintro l3 v4 hm
  replace hm : loop_Machine_tree_j1 l3 = some r := hm
  refine W_eqm ?_
  unfold loop_Machine_tree_j1 at hm
  obtain ⟨hg1a, hm⟩ := gd hm
  refine W_rgx (em (eK .i64) l3 0) [7, 166, 167, 168] ?_
  refine W_ret ?_
  refine KBody_ret [.box [.int .i64 p3, .tree 1 (p4.map (eK .i64)), .tree 1 (p5.map (eK .i64)), .tree 6 (p6.map TLoop.enc), .osl 1 v1_ 0 p7.length], .arr 1 v1_ 2 (p7.map (eK .i64))] ?_
  obtain rfl := Option.some.inj hm
  exact en
end Pam

/- the walk of loop_Machine_step, printed by a program of ours -/
namespace Pam
open Go Go.Proofs
set_option maxRecDepth 100000 in
set_option maxHeartbeats 1000000 in
theorem loop_Machine_step_ok (p1 : TLoop) (p2 : Int) (p3 : List Int) (p4 : List Int) (p5 : List TLoop) (p6 : List Int) (v1_ : Nat) (r : (List Int)) (hm : loop_Machine_step p1 p2 p3 p4 p5 p6 = some r) : Spec Try.prog 85 [.c (.optr 0 0), .a [.int .i64 p1.op, .int .i64 p1.k, .int .i64 p1.n, .int .i64 p1.to, .tree 4 (p1.f.map TPush.enc), .tree 4 (p1.e.map TPush.enc)]] [.box [.int .i64 p2, .tree 1 (p3.map (eK .i64)), .tree 1 (p4.map (eK .i64)), .tree 6 (p5.map TLoop.enc), .osl 1 v1_ 0 p6.length], .arr 1 v1_ 2 (p6.map (eK .i64))] (fun p σ => (p = .t [] ∧ σ = [.box [.int .i64 p2, .tree 1 (p3.map (eK .i64)), .tree 1 (p4.map (eK .i64)), .tree 6 (p5.map TLoop.enc), .osl 1 v1_ 0 r.length], .arr 1 v1_ 2 (r.map (eK .i64))])) (fun _ _ => False) := by
 refine Spec_ofD 72 [] Try.func85 rfl rfl rfl (by kernel_rfl) (by simp) ?_
 refine W_eqf ?_
 unfold loop_Machine_step at hm
 refine W_rg [1] ?_
 refine W_seq_k fun k1 hk1 => ?_
 refine W_rg [7, 8] ?_
 by_cases h1 : p1.op = 1
 ·rw [if_pos h1] at hm
  refine W_condt rfl (beq_iff_eq.2 h1) ?_
  refine W_anyF [0, 3, 9, 10, 11, 12, 13, 14, 15, 16, 17, 18, 19, 20] (by kernel_rfl) [0, 1, 3, 7, 0, 16, 0, 0, 128, 448, 1023, 2047] [false, false, false, false, false, false, false, false, false, false, true, true] (by kernel_rfl) fun k hk => ?_
  refine ga ?_
  obtain ⟨y1, hc2, hm⟩ := bd hm
  refine AnyCall_at (σ2 := [.box [.int .i64 p2, .tree 1 (p3.map (eK .i64)), .tree 1 (p4.map (eK .i64)), .tree 6 (p5.map TLoop.enc), .osl 1 v1_ 0 p6.length], .arr 1 v1_ 2 (p6.map (eK .i64)), .box [.int .i64 p1.op, .int .i64 p1.k, .int .i64 p1.n, .int .i64 p1.to, .tree 4 (p1.f.map TPush.enc), .tree 4 (p1.e.map TPush.enc)]]) (res := .c (.int .i64 y1)) ⟨_, _, _, _, [0, 1], loop_Machine_tree_ok p1.e 0 p2 p3 p4 p5 p6 v1_ _ hc2, by simp, by simp, rfl, rfl, by first | trivial | (simp [bX, eK, eB, eS, eL, s_cap, psUnder, PV.under, CV.under, obsBelow, OB.under, cvsBelow]; done), by first | trivial | (simp [bX, eK, eB, eS, eL, s_cap, psUnder, PV.under, CV.under, obsBelow, OB.under, cvsBelow]; done), fun q τ hq _ => by obtain ⟨rfl, rfl⟩ := hq; exact ⟨rfl, rfl⟩, fun _ _ h => h.elim⟩ (by first | trivial | exact dst_ok rfl) (by first | trivial | (intro _; first | trivial | simp [need]) | simp [need]) (by first | exact .inl rfl | exact .inr (by simp only [extB]; and_intros <;> first | rfl | trivial)) ?_
  obtain ⟨hg3a, hm⟩ := gd hm
  refine gax (em (eK .i64) p6 p1.to.toNat) ?_
  refine hk _ _ ?_
  clear hk k
  refine W_eqa [.box [.int .i64 p2, .tree 1 (p3.map (eK .i64)), .tree 1 (p4.map (eK .i64)), .tree 6 (p5.map TLoop.enc), .osl 1 v1_ 0 p6.length], .arr 1 v1_ 2 ((p6.set p1.to.toNat y1).map (eK .i64)), .box [.int .i64 p1.op, .int .i64 p1.k, .int .i64 p1.n, .int .i64 p1.to, .tree 4 (p1.f.map TPush.enc), .tree 4 (p1.e.map TPush.enc)]] ?_
  refine W_ret ?_
  refine KThen_r ?_
  refine KBody_ret [.box [.int .i64 p2, .tree 1 (p3.map (eK .i64)), .tree 1 (p4.map (eK .i64)), .tree 6 (p5.map TLoop.enc), .osl 1 v1_ 0 p6.length], .arr 1 v1_ 2 ((p6.set p1.to.toNat y1).map (eK .i64))] ?_
  obtain rfl := Option.some.inj hm
  exact en
 ·rw [if_neg h1] at hm
  refine W_condf rfl (beq_eq_false_iff_ne.2 h1) ?_
  refine W_skip ?_
  refine KThen_n (hk1 _ _ ?_)
  refine W_rg [9] ?_
  refine W_joinM (S := Int) (V := Unit) [4, 21, 22, 23, 24, 25, 26, 27] (fun x2 _ => [(4, .c (.int .i64 x2))]) (fun x2 _ => [.box [.int .i64 p2, .tree 1 (p3.map (eK .i64)), .tree 1 (p4.map (eK .i64)), .tree 6 (p5.map TLoop.enc), .osl 1 v1_ 0 p6.length], .arr 1 v1_ 2 (p6.map (eK .i64)), .box [.int .i64 p1.op, .int .i64 p1.k, .int .i64 p1.n, .int .i64 p1.to, .tree 4 (p1.f.map TPush.enc), .tree 4 (p1.e.map TPush.enc)]]) (fun x2 => loop_Machine_step_j1 p1 p2 p3 p4 p5 p6 x2 = some r) ?_ ?_
  ·skip
   refine W_rg [21, 22] ?_
   by_cases h14 : ¬ p1.op = 2
   ·rw [if_pos h14] at hm
    refine W_condt rfl (bne_iff_ne.2 h14) ?_
    refine W_region fun k kp hk hp => ?_
    refine go ?_
    obtain ⟨y24, hc15, hm⟩ := bd hm
    refine RA (loop_Machine_tree_ok p1.f 0 p2 p3 p4 p5 p6 v1_ _ hc15) [0, 1] ?_
    rintro p σ' hq16 _
    obtain ⟨rfl, rfl⟩ := hq16
    refine RunRest_ops ?_
    refine go ?_
    refine hk _ _ ?_
    clear hk hp k kp
    refine KJoinM_n y24 () hm ?_
    exact ls
   ·rw [if_neg h14] at hm
    refine W_condf rfl (bne_eq_false_iff_eq.2 (Decidable.not_not.1 h14)) ?_
    refine W_skip ?_
    refine KJoinM_n 0 () hm ?_
    exact ls
  ·rintro x2 _ hm
   replace hm : loop_Machine_step_j1 p1 p2 p3 p4 p5 p6 x2 = some r := hm
   refine W_eqm ?_
   unfold loop_Machine_step_j1 at hm
   refine W_joinM (S := ((List Int) × Int)) (V := Unit) [4, 5, 6, 28, 29, 30, 31, 32, 33, 34, 35, 36, 37, 38, 39, 40, 41, 42, 43, 44, 45, 46, 47, 48, 49, 50, 51, 52, 53, 54, 55, 56, 57, 58, 59, 60] (fun (l4, x5) _ => [(4, .c (.int .i64 x5))]) (fun (l4, x5) _ => [.box [.int .i64 p2, .tree 1 (p3.map (eK .i64)), .tree 1 (p4.map (eK .i64)), .tree 6 (p5.map TLoop.enc), .osl 1 v1_ 0 l4.length], .arr 1 v1_ 2 (l4.map (eK .i64)), .box [.int .i64 p1.op, .int .i64 p1.k, .int .i64 p1.n, .int .i64 p1.to, .tree 4 (p1.f.map TPush.enc), .tree 4 (p1.e.map TPush.enc)]]) (fun (l4, x5) => loop_Machine_step_j2 p1 l4 x5 = some r) ?_ ?_
   ·skip
    refine W_rg [28] ?_
    refine W_block ?_
    obtain ⟨o1, hl1, hm1⟩ := bd hm
    refine W_loopM (S := ((List Int) × Int × Int)) (V := Unit) (O := ((List Int) × Int)) [4, 5, 6, 30, 31, 32, 33, 34, 35, 36, 37, 38, 39, 40, 41, 42, 43, 44, 45, 46, 47, 48, 49, 50, 51, 52, 53, 54, 55, 56, 57, 58, 59, 60] (fun (l15, x16, x17) _ => [(4, .c (.int .i64 x16)), (30, .c (.int .i64 x17))]) (fun (l15, x16, x17) _ => [.box [.int .i64 p2, .tree 1 (p3.map (eK .i64)), .tree 1 (p4.map (eK .i64)), .tree 6 (p5.map TLoop.enc), .osl 1 v1_ 0 l15.length], .arr 1 v1_ 2 (l15.map (eK .i64)), .box [.int .i64 p1.op, .int .i64 p1.k, .int .i64 p1.n, .int .i64 p1.to, .tree 4 (p1.f.map TPush.enc), .tree 4 (p1.e.map TPush.enc)]]) _ _ () hl1 ?_ ?_
    ·exact ls
    ·rintro ⟨l15, x16, x17⟩ _ r1 hm hr1
     replace hm : loop_Machine_step_l1 p1 p2 p3 p4 p5 l15 x16 x17 = some r1 := hm
     refine W_eqm ?_
     unfold loop_Machine_step_l1 at hm
     refine W_rg [] ?_
     refine W_seq_k fun k2 hk2 => ?_
     by_cases h6 : x17 < p1.n
     ·rw [if_pos h6] at hm
      refine W_condt rfl (decide_eq_true h6) ?_
      refine W_skip ?_
      refine KThen_n (hk2 _ _ ?_)
      refine W_seq_k fun k3 hk3 => ?_
      refine W_block ?_
      refine W_rg [31, 32] ?_
      refine W_regF [33, 34, 35, 36, 37] fun k kp hk hp => ?_
      refine go ?_
      obtain ⟨y18, hc7, hm⟩ := bd hm
      refine RA (loop_Machine_tree_ok p1.e x17 p2 p3 p4 p5 l15 v1_ _ hc7) [0, 1] ?_
      rintro p σ' hq8 _
      obtain ⟨rfl, rfl⟩ := hq8
      refine RunRest_ops ?_
      refine go ?_
      refine hk _ _ ?_
      clear hk hp k kp
      refine W_joinM (S := (Int × Int)) (V := Unit) [4, 6, 38, 39, 40, 41, 42, 43, 44, 45, 46] (fun (x19, x20) _ => [(4, .c (.int .i64 x19)), (6, .c (.int .i64 x20))]) (fun (x19, x20) _ => [.box [.int .i64 p2, .tree 1 (p3.map (eK .i64)), .tree 1 (p4.map (eK .i64)), .tree 6 (p5.map TLoop.enc), .osl 1 v1_ 0 l15.length], .arr 1 v1_ 2 (l15.map (eK .i64)), .box [.int .i64 p1.op, .int .i64 p1.k, .int .i64 p1.n, .int .i64 p1.to, .tree 4 (p1.f.map TPush.enc), .tree 4 (p1.e.map TPush.enc)]]) (fun (x19, x20) => loop_Machine_step_j3 p1 l15 x17 x19 x20 = some r1) ?_ ?_
      ·skip
       refine W_rg [38, 39] ?_
       by_cases h11 : ¬ p1.op = 2
       ·rw [if_pos h11] at hm
        refine W_condt rfl (bne_iff_ne.2 h11) ?_
        refine W_regF [6, 40, 41, 42, 43, 44, 45] fun k kp hk hp => ?_
        refine go ?_
        obtain ⟨y21, hc12, hm⟩ := bd hm
        refine RP (fun _ => sys_Apply_ok p1.k x16 y18 _ hc12) ?_
        refine RunRest_ops ?_
        refine go ?_
        refine hk _ _ ?_
        clear hk hp k kp
        refine W_rn ?_
        refine KJoinM_n (y21, y21) () hm ?_
        exact ls
       ·rw [if_neg h11] at hm
        refine W_condf rfl (bne_eq_false_iff_eq.2 (Decidable.not_not.1 h11)) ?_
        refine W_skip ?_
        refine KJoinM_n (x16, y18) () hm ?_
        exact ls
      ·rintro ⟨x19, x20⟩ _ hm
       replace hm : loop_Machine_step_j3 p1 l15 x17 x19 x20 = some r1 := hm
       refine W_eqm ?_
       unfold loop_Machine_step_j3 at hm
       refine W_rg [47, 48] ?_
       by_cases h9 : ¬ p1.op = 3
       ·rw [if_pos h9] at hm
        refine W_condt rfl (bne_iff_ne.2 h9) ?_
        obtain ⟨hg10a, hm⟩ := gd hm
        refine W_anx (em (eK .i64) l15 ((IntKind.wrap .i64 (p1.to + x17)).toNat)) [0, 1, 3, 7, 0, 16, 0, 112, 0, 511, 1023] [false, false, false, false, false, false, false, false, false, true, true] ?_
        refine KBlock_n ?_
        refine KThen_n (hk3 _ _ ?_)
        refine W_rn ?_
        refine KLoopM_n ((l15.set ((IntKind.wrap .i64 (p1.to + x17)).toNat) x20), x19, (IntKind.wrap .i64 (x17 + 1))) () hm ?_
        exact ls
       ·rw [if_neg h9] at hm
        refine W_condf rfl (bne_eq_false_iff_eq.2 (Decidable.not_not.1 h9)) ?_
        refine W_skip ?_
        refine KBlock_n ?_
        refine KThen_n (hk3 _ _ ?_)
        refine W_rn ?_
        refine KLoopM_n (l15, x19, (IntKind.wrap .i64 (x17 + 1))) () hm ?_
        exact ls
     ·rw [if_neg h6] at hm
      refine W_condf rfl (decide_eq_false h6) ?_
      refine W_exit ?_
      have ho13 := out_eq hm hr1
      subst ho13
      replace hm : loop_Machine_step_j2 p1 l15 x16 = some r := hm1
      refine KThen_x ?_
      refine KLoopM_x ?_
      refine KBlock_hit ?_
      refine KJoinM_n (l15, x16) () hm ?_
      exact ls
   ·rintro ⟨l4, x5⟩ _ hm
    replace hm : loop_Machine_step_j2 p1 l4 x5 = some r := hm
    refine W_eqm ?_
    unfold loop_Machine_step_j2 at hm
    refine W_rg [61, 62] ?_
    by_cases h4 : p1.op = 3
    ·rw [if_pos h4] at hm
     refine W_condt rfl (beq_iff_eq.2 h4) ?_
     obtain ⟨hg5a, hm⟩ := gd hm
     refine W_anx (em (eK .i64) l4 p1.to.toNat) [0, 1, 3, 7, 0, 16, 0, 127, 255] [false, false, false, false, false, false, false, true, true] ?_
     refine KBody_nrm [.box [.int .i64 p2, .tree 1 (p3.map (eK .i64)), .tree 1 (p4.map (eK .i64)), .tree 6 (p5.map TLoop.enc), .osl 1 v1_ 0 l4.length], .arr 1 v1_ 2 ((l4.set p1.to.toNat x5).map (eK .i64))] ?_
     obtain rfl := Option.some.inj hm
     exact en
    ·rw [if_neg h4] at hm
     refine W_condf rfl (beq_eq_false_iff_ne.2 h4) ?_
     refine W_skip ?_
     refine KBody_nrm [.box [.int .i64 p2, .tree 1 (p3.map (eK .i64)), .tree 1 (p4.map (eK .i64)), .tree 6 (p5.map TLoop.enc), .osl 1 v1_ 0 l4.length], .arr 1 v1_ 2 (l4.map (eK .i64))] ?_
     obtain rfl := Option.some.inj hm
     exact en
end Pam

/- the walk of loop_Machine_Row_2, printed by a program of ours -/
namespace Pam
open Go Go.Proofs
set_option maxRecDepth 100000 in
set_option maxHeartbeats 1000000 in
theorem loop_Machine_Row_2_ok (p1 : List Int) (p2 : Int) (p3 : List Int) (p4 : List Int) (p5 : List TLoop) (p6 : List Int) (v1_ : Nat) (r : ((List Int) × TFault × (List Int))) (hm : loop_Machine_Row_2 p1 p2 p3 p4 p5 p6 = some r) : Spec Try.prog 39 [.c (.optr 0 0), .c (.tree 1 (p1.map (eK .i64)))] [.box [.int .i64 p2, .tree 1 (p3.map (eK .i64)), .tree 1 (p4.map (eK .i64)), .tree 6 (p5.map TLoop.enc), .osl 1 v1_ 0 p6.length], .arr 1 v1_ 2 (p6.map (eK .i64))] (fun p σ => (p = .t [.c (.tree 1 (r.1.map (eK .i64))), .a [.int .i64 ((r.2.1).code), .int .i64 ((r.2.1).at_)]] ∧ σ = [.box [.int .i64 p2, .tree 1 (p3.map (eK .i64)), .tree 1 (p4.map (eK .i64)), .tree 6 (p5.map TLoop.enc), .osl 1 v1_ 0 r.2.2.length], .arr 1 v1_ 2 (r.2.2.map (eK .i64))])) (fun _ _ => False) := by
 refine Spec_ofD 82 [.tmp 4, .cell 5 30] Try.func39 rfl rfl rfl (by kernel_rfl) (by simp) ?_
 refine W_eqf ?_
 unfold loop_Machine_Row_2 at hm
 refine W_rg [4] ?_
 refine W_seq_k fun k1 hk1 => ?_
 refine W_rg [13, 14, 15, 16, 17, 18, 19, 20] ?_
 by_cases h1 : ¬ (p1.length : Int) = (p3.length : Int)
 ·rw [if_pos h1] at hm
  refine W_condt rfl (bne_iff_ne.2 h1) ?_
  refine W_rg [0, 1, 21, 22] ?_
  refine W_ghost (Ghost_ntS 4 (.c (.tree 1 (([] : List _).map (eK .i64)))) rfl (by and_intros <;> trivial)) ?_
  refine W_eqn ?_
  refine W_ret ?_
  refine KThen_r ?_
  refine KBody_ret [.box [.int .i64 p2, .tree 1 (p3.map (eK .i64)), .tree 1 (p4.map (eK .i64)), .tree 6 (p5.map TLoop.enc), .osl 1 v1_ 0 p6.length], .arr 1 v1_ 2 (p6.map (eK .i64))] ?_
  obtain rfl := Option.some.inj hm
  exact en
 ·rw [if_neg h1] at hm
  refine W_condf rfl (bne_eq_false_iff_eq.2 (Decidable.not_not.1 h1)) ?_
  refine W_skip ?_
  refine KThen_n (hk1 _ _ ?_)
  refine W_joinM (S := (List Int)) (V := Unit) [1, 6, 7, 21, 23, 24, 25, 26, 27, 28, 29, 30, 31, 32, 33, 34, 35, 36, 37, 38, 39, 40, 41, 42, 43, 44] (fun l2 _ => []) (fun l2 _ => [.box [.int .i64 p2, .tree 1 (p3.map (eK .i64)), .tree 1 (p4.map (eK .i64)), .tree 6 (p5.map TLoop.enc), .osl 1 v1_ 0 l2.length], .arr 1 v1_ 2 (l2.map (eK .i64)), .box [.int .i64 0, .int .i64 0]]) (fun l2 => loop_Machine_Row_2_j1 p2 p3 p4 p5 l2 = some r) ?_ ?_
  ·skip
   refine W_rg [21, 23, 24, 25, 26] ?_
   refine W_block ?_
   obtain ⟨o3, hl3, hm3⟩ := bd hm
   refine W_loopM (S := ((List Int) × Int)) (V := Unit) (O := (List Int)) [6, 7, 29, 30, 31, 32, 33, 34, 35, 36, 37, 38, 39, 40, 41, 42, 43, 44] (fun (l43, x44) _ => [(29, .c (.int .i64 x44))]) (fun (l43, x44) _ => [.box [.int .i64 p2, .tree 1 (p3.map (eK .i64)), .tree 1 (p4.map (eK .i64)), .tree 6 (p5.map TLoop.enc), .osl 1 v1_ 0 l43.length], .arr 1 v1_ 2 (l43.map (eK .i64)), .box [.int .i64 0, .int .i64 0]]) _ _ () hl3 ?_ ?_
   ·exact ls
   ·rintro ⟨l43, x44⟩ _ r3 hm hr3
    replace hm : loop_Machine_Row_2_l3 p1 p3 l43 x44 = some r3 := hm
    refine W_eqm ?_
    unfold loop_Machine_Row_2_l3 at hm
    refine W_rg [] ?_
    refine W_seq_k fun k6 hk6 => ?_
    by_cases h11 : x44 < (p3.length : Int)
    ·rw [if_pos h11] at hm
     refine W_condt rfl (decide_eq_true h11) ?_
     refine W_skip ?_
     refine KThen_n (hk6 _ _ ?_)
     refine W_seq_k fun k7 hk7 => ?_
     refine W_block ?_
     obtain ⟨hg12a, hm⟩ := gd hm
     refine W_rgx (em (eK .i64) p3 x44.toNat) [30, 31, 32, 33] ?_
     obtain ⟨⟨hg13a, hg13b⟩, hm⟩ := gd hm
     refine W_anx (a2 (em (eK .i64) p1 x44.toNat) (em (eK .i64) l43 ((p3.getD x44.toNat default).toNat))) [0, 1, 3, 7, 0, 0, 0, 96, 224, 511, 1023] [false, false, false, false, false, false, false, false, false, true, true] ?_
     refine KBlock_n ?_
     refine KThen_n (hk7 _ _ ?_)
     refine W_rn ?_
     refine KLoopM_n ((l43.set ((p3.getD x44.toNat default).toNat) (p1.getD x44.toNat default)), (IntKind.wrap .i64 (x44 + 1))) () hm ?_
     exact ls
    ·rw [if_neg h11] at hm
     refine W_condf rfl (decide_eq_false h11) ?_
     refine W_exit ?_
     have ho14 := out_eq hm hr3
     subst ho14
     replace hm : loop_Machine_Row_2_j1 p2 p3 p4 p5 l43 = some r := hm3
     refine KThen_x ?_
     refine KLoopM_x ?_
     refine KBlock_hit ?_
     refine KJoinM_n l43 () hm ?_
     exact ls
  ·rintro l2 _ hm
   replace hm : loop_Machine_Row_2_j1 p2 p3 p4 p5 l2 = some r := hm
   refine W_eqm ?_
   unfold loop_Machine_Row_2_j1 at hm
   refine W_joinM (S := (List Int)) (V := Unit) [9, 45, 46, 47, 48, 49, 50, 51, 52, 53, 54, 55, 56, 57, 58] (fun l4 _ => []) (fun l4 _ => [.box [.int .i64 p2, .tree 1 (p3.map (eK .i64)), .tree 1 (p4.map (eK .i64)), .tree 6 (p5.map TLoop.enc), .osl 1 v1_ 0 l4.length], .arr 1 v1_ 2 (l4.map (eK .i64)), .box [.int .i64 0, .int .i64 0]]) (fun l4 => loop_Machine_Row_2_j2 p4 l4 = some r) ?_ ?_
   ·skip
    refine W_rg [45, 46, 47, 48] ?_
    refine W_block ?_
    obtain ⟨o2, hl2, hm2⟩ := bd hm
    refine W_loopM (S := ((List Int) × Int)) (V := Unit) (O := (List Int)) [9, 51, 52, 53, 54, 55, 56, 57, 58] (fun (l32, x33) _ => [(51, .c (.int .i64 x33))]) (fun (l32, x33) _ => [.box [.int .i64 p2, .tree 1 (p3.map (eK .i64)), .tree 1 (p4.map (eK .i64)), .tree 6 (p5.map TLoop.enc), .osl 1 v1_ 0 l32.length], .arr 1 v1_ 2 (l32.map (eK .i64)), .box [.int .i64 0, .int .i64 0]]) _ _ () hl2 ?_ ?_
    ·exact ls
    ·rintro ⟨l32, x33⟩ _ r2 hm hr2
     replace hm : loop_Machine_Row_2_l2 p2 p3 p4 p5 l32 x33 = some r2 := hm
     refine W_eqm ?_
     unfold loop_Machine_Row_2_l2 at hm
     refine W_rg [] ?_
     refine W_seq_k fun k4 hk4 => ?_
     by_cases h6 : x33 < (p5.length : Int)
     ·rw [if_pos h6] at hm
      refine W_condt rfl (decide_eq_true h6) ?_
      refine W_skip ?_
      refine KThen_n (hk4 _ _ ?_)
      refine W_seq_k fun k5 hk5 => ?_
      refine W_block ?_
      obtain ⟨hg7a, hm⟩ := gd hm
      refine W_rgx (em TLoop.enc p5 x33.toNat) [52, 53, 54] ?_
      refine W_region fun k kp hk hp => ?_
      refine go ?_
      obtain ⟨y34, hc8, hm⟩ := bd hm
      refine RA (loop_Machine_step_ok (p5.getD x33.toNat default) p2 p3 p4 p5 l32 v1_ _ hc8) [0, 1] ?_
      rintro p σ' hq9 _
      obtain ⟨rfl, rfl⟩ := hq9
      refine RunRest_ops ?_
      refine go ?_
      refine hk _ _ ?_
      clear hk hp k kp
      refine KBlock_n ?_
      refine KThen_n (hk5 _ _ ?_)
      refine W_rn ?_
      refine KLoopM_n (y34, (IntKind.wrap .i64 (x33 + 1))) () hm ?_
      exact ls
     ·rw [if_neg h6] at hm
      refine W_condf rfl (decide_eq_false h6) ?_
      refine W_exit ?_
      have ho10 := out_eq hm hr2
      subst ho10
      replace hm : loop_Machine_Row_2_j2 p4 l32 = some r := hm2
      refine KThen_x ?_
      refine KLoopM_x ?_
      refine KBlock_hit ?_
      refine KJoinM_n l32 () hm ?_
      exact ls
   ·rintro l4 _ hm
    replace hm : loop_Machine_Row_2_j2 p4 l4 = some r := hm
    refine W_eqm ?_
    unfold loop_Machine_Row_2_j2 at hm
    refine W_rg [] ?_
    refine W_ghost (Ghost_nil 10 1 2 (by decide) rfl (Nat.le_of_ble_eq_true rfl)) ?_
    refine W_eql ?_
    refine W_joinM (S := (List Int)) (V := Nat) [0, 10, 12, 59, 60, 61, 62, 63, 64, 65, 66, 67, 68, 69, 70, 71, 72, 73, 74, 75, 76, 77, 78, 79] (fun l7 v8 => [(10, .c (.osl 3 v8 0 l7.length))]) (fun l7 v8 => [.box [.int .i64 p2, .tree 1 (p3.map (eK .i64)), .tree 1 (p4.map (eK .i64)), .tree 6 (p5.map TLoop.enc), .osl 1 v1_ 0 l4.length], .arr 1 v1_ 2 (l4.map (eK .i64)), .box [.int .i64 0, .int .i64 0], .arr 1 v8 2 (l7.map (eK .i64))]) (fun l7 => loop_Machine_Row_2_j3 l4 l7 = some r) ?_ ?_
    ·skip
     refine W_rg [59, 60, 61, 62] ?_
     refine W_block ?_
     obtain ⟨o1, hl1, hm1⟩ := bd hm
     refine W_loopM (S := ((List Int) × Int)) (V := Nat) (O := (List Int)) [10, 12, 65, 66, 67, 68, 69, 70, 71, 72, 73, 74, 75, 76, 77, 78, 79] (fun (l21, x23) v22 => [(10, .c (.osl 3 v22 0 l21.length)), (65, .c (.int .i64 x23))]) (fun (l21, x23) v22 => [.box [.int .i64 p2, .tree 1 (p3.map (eK .i64)), .tree 1 (p4.map (eK .i64)), .tree 6 (p5.map TLoop.enc), .osl 1 v1_ 0 l4.length], .arr 1 v1_ 2 (l4.map (eK .i64)), .box [.int .i64 0, .int .i64 0], .arr 1 v22 2 (l21.map (eK .i64))]) _ _ 0 hl1 ?_ ?_
     ·exact ls
     ·rintro ⟨l21, x23⟩ v22 r1 hm hr1
      replace hm : loop_Machine_Row_2_l1 p4 l4 l21 x23 = some r1 := hm
      refine W_eqm ?_
      unfold loop_Machine_Row_2_l1 at hm
      refine W_rg [] ?_
      refine W_seq_k fun k2 hk2 => ?_
      by_cases h2 : x23 < (p4.length : Int)
      ·rw [if_pos h2] at hm
       refine W_condt rfl (decide_eq_true h2) ?_
       refine W_skip ?_
       refine KThen_n (hk2 _ _ ?_)
       refine W_seq_k fun k3 hk3 => ?_
       refine W_block ?_
       obtain ⟨hg3a, hm⟩ := gd hm
       refine W_rgx (em (eK .i64) p4 x23.toNat) [66, 67, 68] ?_
       obtain ⟨⟨hg4a, ⟨hg4bx, hg4by⟩⟩, hm⟩ := gd hm
       refine W_rnx (em (eK .i64) l4 ((p4.getD x23.toNat default).toNat)) ?_
       refine KBlock_n ?_
       refine KThen_n (hk3 _ _ ?_)
       refine W_rn ?_
       refine KLoopM_n ((l21 ++ (lit ([(l4.getD ((p4.getD x23.toNat default).toNat) default)] : List Int))), (IntKind.wrap .i64 (x23 + 1))) (v22 + 1) hm ?_
       exact ls
      ·rw [if_neg h2] at hm
       refine W_condf rfl (decide_eq_false h2) ?_
       refine W_exit ?_
       have ho5 := out_eq hm hr1
       subst ho5
       replace hm : loop_Machine_Row_2_j3 l4 l21 = some r := hm1
       refine KThen_x ?_
       refine KLoopM_x ?_
       refine KBlock_hit ?_
       refine KJoinM_n l21 v22 hm ?_
       exact ls
    ·rintro l7 v8 hm
     replace hm : loop_Machine_Row_2_j3 l4 l7 = some r := hm
     refine W_eqm ?_
     unfold loop_Machine_Row_2_j3 at hm
     refine W_rg [10, 80, 81] ?_
     refine W_gh (Ghost_fr 3 rfl) ?_
     refine W_ret ?_
     refine KBody_ret [.box [.int .i64 p2, .tree 1 (p3.map (eK .i64)), .tree 1 (p4.map (eK .i64)), .tree 6 (p5.map TLoop.enc), .osl 1 v1_ 0 l4.length], .arr 1 v1_ 2 (l4.map (eK .i64))] ?_
     obtain rfl := Option.some.inj hm
     exact en
end Pam

/- the walk of ref_SameLongs, printed by a program of ours -/
namespace Pam
open Go Go.Proofs
set_option maxRecDepth 100000 in
set_option maxHeartbeats 1000000 in
theorem ref_SameLongs_ok (p1 : List Int) (p2 : List Int) (r : Bool) (hm : ref_SameLongs p1 p2 = some r) : SpecF Try.prog 41 [.c (.tree 1 (p1.map (eK .i64))), .c (.tree 1 (p2.map (eK .i64)))] (.c (.bool r)) := by
 refine Spec_ofD 26 [.tmp 4] Try.func41 rfl rfl rfl (by kernel_rfl) (by simp) ?_
 refine W_eqf ?_
 unfold ref_SameLongs at hm
 refine W_rg [4] ?_
 refine W_seq_k fun k1 hk1 => ?_
 refine W_rg [6, 7, 8, 9] ?_
 by_cases h1 : ¬ (p1.length : Int) = (p2.length : Int)
 ·rw [if_pos h1] at hm
  refine W_condt rfl (bne_iff_ne.2 h1) ?_
  refine W_rg [0, 1, 10] ?_
  refine W_ret ?_
  refine KThen_r ?_
  refine KBody_ret [] ?_
  obtain rfl := Option.some.inj hm
  exact en
 ·rw [if_neg h1] at hm
  refine W_condf rfl (bne_eq_false_iff_eq.2 (Decidable.not_not.1 h1)) ?_
  refine W_skip ?_
  refine KThen_n (hk1 _ _ ?_)
  refine W_joinM (S := Unit) (V := Unit) [0, 1, 4, 5, 10, 11, 12, 13, 14, 15, 16, 17, 18, 19, 20, 21, 22, 23, 24, 25] (fun _ _ => []) (fun _ _ => []) (fun _ => ref_SameLongs_j1 = some r) ?_ ?_
  ·skip
   refine W_rg [10] ?_
   refine W_block ?_
   obtain ⟨o1, hl1, hm1⟩ := bd hm
   refine W_loopM (S := Int) (V := Unit) (O := Unit ⊕ Bool) [4, 5, 11, 12, 13, 14, 15, 16, 17, 18, 19, 20, 21, 22, 23, 24, 25] (fun x3 _ => [(5, .c (.int .i64 x3))]) (fun x3 _ => []) _ _ () hl1 ?_ ?_
   ·exact ls
   ·rintro x3 _ r1 hm hr1
    replace hm : ref_SameLongs_l1 p1 p2 x3 = some r1 := hm
    refine W_eqm ?_
    unfold ref_SameLongs_l1 at hm
    refine W_seq_k fun k2 hk2 => ?_
    refine W_rg [11, 12, 13] ?_
    by_cases h2 : x3 < (p1.length : Int)
    ·rw [if_pos h2] at hm
     refine W_condt rfl (decide_eq_true h2) ?_
     refine W_skip ?_
     refine KThen_n (hk2 _ _ ?_)
     refine W_seq_k fun k3 hk3 => ?_
     refine W_block ?_
     obtain ⟨⟨hg3a, hg3b⟩, hm⟩ := gd hm
     refine W_agx (a2 (em (eK .i64) p1 x3.toNat) (em (eK .i64) p2 x3.toNat)) [14, 17, 18, 19, 20, 21, 22, 23, 24] [0, 0, 3, 7, 0, 0, 48, 112, 255] [false, false, false, false, false, false, false, false, true] ?_
     by_cases h4 : ¬ (p1.getD x3.toNat default) = (p2.getD x3.toNat default)
     ·rw [if_pos h4] at hm
      refine W_condt rfl (bne_iff_ne.2 h4) ?_
      refine W_rg [0, 1, 5, 25] ?_
      have ho5 := out_eq hm hr1
      subst ho5
      replace hm : some false = some r := hm1
      refine W_ret ?_
      refine KBlock_r ?_
      refine KThen_r ?_
      refine KLoopM_r ?_
      refine KBlock_r ?_
      refine KJoinM_r ?_
      refine KBody_ret [] ?_
      obtain rfl := Option.some.inj hm
      exact en
     ·rw [if_neg h4] at hm
      refine W_condf rfl (bne_eq_false_iff_eq.2 (Decidable.not_not.1 h4)) ?_
      refine W_skip ?_
      refine KBlock_n ?_
      refine KThen_n (hk3 _ _ ?_)
      refine W_rn ?_
      refine KLoopM_n (IntKind.wrap .i64 (x3 + 1)) () hm ?_
      exact ls
    ·rw [if_neg h2] at hm
     refine W_condf rfl (decide_eq_false h2) ?_
     refine W_exit ?_
     have ho6 := out_eq hm hr1
     subst ho6
     replace hm : ref_SameLongs_j1 = some r := hm1
     refine KThen_x ?_
     refine KLoopM_x ?_
     refine KBlock_hit ?_
     refine KJoinM_n () () hm ?_
     exact ls
  ·rintro _ _ hm
   replace hm : ref_SameLongs_j1 = some r := hm
   refine W_eqm ?_
   unfold ref_SameLongs_j1 at hm
   refine W_rg [] ?_
   refine W_ret ?_
   refine KBody_ret [] ?_
   obtain rfl := Option.some.inj hm
   exact en
end Pam

/- the walk of law_loopsOne, printed by a program of ours -/
namespace Pam
open Go Go.Proofs
set_option maxRecDepth 100000 in
set_option maxHeartbeats 1000000 in
theorem law_loopsOne_ok (r : TLoops) (hm : law_loopsOne  = some r) : SpecF Try.prog 77 [] (.a [.int .i64 ((r).cells), .tree 1 (((r).put).map (eK .i64)), .tree 1 (((r).get).map (eK .i64)), .tree 6 (((r).steps).map TLoop.enc)]) := by
 refine Spec_ofD 13 [.cell 0 50] Try.func77 rfl rfl rfl (by kernel_rfl) (by simp) ?_
 refine W_eqf ?_
 unfold law_loopsOne at hm
 refine W_rg [] ?_
 refine W_regG [1, 2, 3, 4, 5, 6, 7, 8, 9, 10, 11, 12] fun k kp hk hp => ?_
 refine RunRest_cut 10 ?_
 refine go ?_
 refine RunRest_ghost (Ghost_ntS 7 (.a [.int .i64 1, .int .i64 0, .int .i64 0, .int .i64 2, .tree 4 ([].map TPush.enc), .osl 3 0 0 3]) (by first | rfl | (simp only [bR, bT, tab, bX, reduceIte, ↓reduceIte, reduceCtorEq, Int.reduceToNat, Nat.reduceDiv, Nat.reduceMod, Nat.reduceLT, Nat.reduceLeDiff, Nat.reduceAdd, Nat.reduceSub, Nat.reduceMul, Nat.reduceEqDiff, Nat.reduceBEq, Nat.reduceBNe, Nat.reduceGT]; done)) (by and_intros <;> trivial)) ?_
 simp only [bE, Nat.reduceDiv, Nat.reduceMod, Nat.reduceLT, Nat.reduceLeDiff, Nat.reduceAdd, Nat.reduceSub, Nat.reduceMul, Nat.reduceEqDiff, Nat.reduceBEq, Nat.reduceBNe, Nat.reduceGT, Int.reduceToNat]
 refine RunRest_ghost (Ghost_ntS 10 (.a [.int .i64 1, .int .i64 0, .int .i64 0, .int .i64 0, .tree 4 ([].map TPush.enc), .osl 4 0 0 1]) (by first | rfl | (simp only [bR, bT, tab, bX, reduceIte, ↓reduceIte, reduceCtorEq, Int.reduceToNat, Nat.reduceDiv, Nat.reduceMod, Nat.reduceLT, Nat.reduceLeDiff, Nat.reduceAdd, Nat.reduceSub, Nat.reduceMul, Nat.reduceEqDiff, Nat.reduceBEq, Nat.reduceBNe, Nat.reduceGT]; done)) (by and_intros <;> trivial)) ?_
 simp only [bE, Nat.reduceDiv, Nat.reduceMod, Nat.reduceLT, Nat.reduceLeDiff, Nat.reduceAdd, Nat.reduceSub, Nat.reduceMul, Nat.reduceEqDiff, Nat.reduceBEq, Nat.reduceBNe, Nat.reduceGT, Int.reduceToNat]
 refine RunRest_cut 0 ?_
 refine go ?_
 refine RunRest_ghost (Ghost_fr 3 rfl) ?_
 refine gz ?_
 refine RunRest_ghost (Ghost_fr 4 rfl) ?_
 refine gz ?_
 refine RunRest_ops ?_
 refine go ?_
 refine hk _ _ ?_
 clear hk hp k kp
 refine W_eqa [.box [.int .i64 3, .osl 1 0 0 1, .osl 2 0 0 1, .osl 5 0 0 2], .arr 1 0 3 ((lit ([1] : List Int)).map (eK .i64)), .arr 1 0 3 ((lit ([2] : List Int)).map (eK .i64)), .dead, .dead, .arr 6 0 129 ((lit ([(TLoop.mk 1 0 0 2 [] (lit ([(TPush.mk 2 0 1 0), (TPush.mk 2 0 0 0), (TPush.mk 6 1 0 0)] : List TPush))), (TLoop.mk 1 0 0 0 [] (lit ([(TPush.mk 1 0 0 7)] : List TPush)))] : List TLoop)).map TLoop.enc)] ?_
 refine W_gh (Ghost_fr 1 rfl) ?_
 refine W_gh (Ghost_fr 2 rfl) ?_
 refine W_gh (Ghost_fr 5 rfl) ?_
 refine W_ret ?_
 refine KBody_ret [] ?_
 obtain rfl := Option.some.inj hm
 exact en
end Pam

/- the walk of law_loopBegun, printed by a program of ours -/
namespace Pam
open Go Go.Proofs
set_option maxRecDepth 100000 in
set_option maxHeartbeats 1000000 in
theorem law_loopBegun_ok (r : Bool) (hm : law_loopBegun  = some r) : SpecF Try.prog 30 [] (.c (.bool r)) := by
 refine Spec_ofD 45 [.tmp 0] Try.func30 rfl rfl rfl (by kernel_rfl) (by simp) ?_
 refine W_eqf ?_
 unfold law_loopBegun at hm
 refine W_rg [0] ?_
 refine W_regF [7, 8, 9, 10, 11] fun k kp hk hp => ?_
 refine go ?_
 obtain ⟨y1, hc1, hm⟩ := bd hm
 refine RP (fun _ => law_loopsOne_ok  _ hc1) ?_
 refine RunRest_ops ?_
 refine go ?_
 obtain ⟨y2, hc2, hm⟩ := bd hm
 refine RA (loop_New_ok (y1)  _ hc2) [] ?_
 rintro p σ' hq3 _
 rcases y2 with y3 | y4
 ·skip
  simp only [Sum.elim_inl, Sum.elim_inr] at hm hq3
  obtain ⟨rfl, rfl⟩ := hq3
  refine RunRest_ops ?_
  refine go ?_
  refine hk _ _ ?_
  clear hk hp k kp
  refine W_seq_k fun k1 hk1 => ?_
  refine W_rg [2, 12, 13] ?_
  by_cases h4 : ¬ ((y3).code) = 0
  ·rw [if_pos h4] at hm
   refine W_condt rfl (bne_iff_ne.2 h4) ?_
   refine W_rg [1, 14] ?_
   refine W_ret ?_
   refine KThen_r ?_
   refine KBody_ret [] ?_
   obtain rfl := Option.some.inj hm
   exact en
  ·rw [if_neg h4] at hm
   refine W_condf rfl (bne_eq_false_iff_eq.2 (Decidable.not_not.1 h4)) ?_
   refine W_skip ?_
   refine KThen_n (hk1 _ _ ?_)
   refine W_regF [14, 15, 16, 17, 18, 19, 20] fun k kp hk hp => ?_
   refine go ?_
   refine RunCall_turn (Ghost_fr 1 rfl) ?_
   simp only [bR, bT, tab, bX, reduceIte, ↓reduceIte, reduceCtorEq, Int.reduceToNat, Nat.reduceDiv, Nat.reduceMod, Nat.reduceLT, Nat.reduceLeDiff, Nat.reduceAdd, Nat.reduceSub, Nat.reduceMul, Nat.reduceEqDiff, Nat.reduceBEq, Nat.reduceBNe, Nat.reduceGT, bZ, List.replicate, List.foldr]
   repeat refine ⟨by first | omega | assumption | decide | exact all_len fun _ => rfl | (intro _; omega) | rfl | exact fun e => absurd (List.map_eq_nil_iff.1 e) (by assumption) | (and_intros <;> first | omega | assumption | decide | exact all_len fun _ => rfl), ?_⟩
   obtain ⟨y5, hc5, hm⟩ := bd hm
   refine RP (fun _ => loop_Machine_Row_ok (lit ([5] : List Int)) _ hc5) ?_
   cases hm
 ·skip
  simp only [Sum.elim_inl, Sum.elim_inr] at hm hq3
  obtain ⟨rfl, rfl⟩ := hq3
  refine RunRest_ops ?_
  refine go ?_
  refine hk _ _ ?_
  clear hk hp k kp
  refine W_seq_k fun k2 hk2 => ?_
  refine W_rg [2, 12, 13] ?_
  by_cases h6 : ¬ ((y4.1).code) = 0
  ·rw [if_pos h6] at hm
   refine W_condt rfl (bne_iff_ne.2 h6) ?_
   refine W_rg [1, 14] ?_
   refine W_ret ?_
   refine KThen_r ?_
   refine KBody_ret [] ?_
   obtain rfl := Option.some.inj hm
   exact en
  ·rw [if_neg h6] at hm
   refine W_condf rfl (bne_eq_false_iff_eq.2 (Decidable.not_not.1 h6)) ?_
   refine W_skip ?_
   refine KThen_n (hk2 _ _ ?_)
   refine W_regF [14, 15, 16, 17, 18, 19, 20] fun k kp hk hp => ?_
   refine go ?_
   refine RunCall_turn (Ghost_fr 4 rfl) ?_
   simp only [bR, bT, tab, bX, reduceIte, ↓reduceIte, reduceCtorEq, Int.reduceToNat, Nat.reduceDiv, Nat.reduceMod, Nat.reduceLT, Nat.reduceLeDiff, Nat.reduceAdd, Nat.reduceSub, Nat.reduceMul, Nat.reduceEqDiff, Nat.reduceBEq, Nat.reduceBNe, Nat.reduceGT, bZ, List.replicate, List.foldr]
   repeat refine ⟨by first | omega | assumption | decide | exact all_len fun _ => rfl | (intro _; omega) | rfl | exact fun e => absurd (List.map_eq_nil_iff.1 e) (by assumption) | (and_intros <;> first | omega | assumption | decide | exact all_len fun _ => rfl), ?_⟩
   obtain ⟨y6, hc7, hm⟩ := bd hm
   refine RA (loop_Machine_Row_2_ok (lit ([5] : List Int)) y4.2.1 y4.2.2.1 y4.2.2.2.1 y4.2.2.2.2.1 y4.2.2.2.2.2.2.2 1 _ hc7) [0, 2] ?_
   rintro p σ' hq8 _
   obtain ⟨rfl, rfl⟩ := hq8
   refine RunRest_ops ?_
   refine go ?_
   refine hk _ _ ?_
   clear hk hp k kp
   refine W_regF [1, 21, 22, 23, 24, 25, 26] fun k kp hk hp => ?_
   refine go ?_
   refine RunCall_turn (Ghost_fr 6 rfl) ?_
   simp only [bR, bT, tab, bX, reduceIte, ↓reduceIte, reduceCtorEq, Int.reduceToNat, Nat.reduceDiv, Nat.reduceMod, Nat.reduceLT, Nat.reduceLeDiff, Nat.reduceAdd, Nat.reduceSub, Nat.reduceMul, Nat.reduceEqDiff, Nat.reduceBEq, Nat.reduceBNe, Nat.reduceGT, bZ, List.replicate, List.foldr]
   repeat refine ⟨by first | omega | assumption | decide | exact all_len fun _ => rfl | (intro _; omega) | rfl | exact fun e => absurd (List.map_eq_nil_iff.1 e) (by assumption) | (and_intros <;> first | omega | assumption | decide | exact all_len fun _ => rfl), ?_⟩
   obtain ⟨y7, hc9, hm⟩ := bd hm
   refine RA (loop_Machine_Row_2_ok (lit ([5] : List Int)) y4.2.1 y4.2.2.1 y4.2.2.2.1 y4.2.2.2.2.1 y6.2.2 1 _ hc9) [0, 2] ?_
   rintro p σ' hq10 _
   obtain ⟨rfl, rfl⟩ := hq10
   refine RunRest_ops ?_
   refine go ?_
   refine hk _ _ ?_
   clear hk hp k kp
   by_cases h11 : ((y6.2.1).code) = 0
   ·rw [if_pos h11] at hm
    have h11b : (((y6.2.1).code) == 0) = true := beq_iff_eq.2 h11
    by_cases h12 : ((y7.2.1).code) = 0
    ·rw [if_pos h12] at hm
     have h12b : (((y7.2.1).code) == 0) = true := beq_iff_eq.2 h12
     refine W_regF [3, 4, 5, 6, 27, 28, 29, 30, 31, 32, 33, 34, 35, 36, 37, 38, 39, 40, 41, 42, 43, 44] fun k kp hk hp => ?_
     refine gox (a2 h11b h12b) ?_
     refine RunCall_turn (Ghost_fr 8 rfl) ?_
     simp only [bR, bT, tab, bX, reduceIte, ↓reduceIte, reduceCtorEq, Int.reduceToNat, Nat.reduceDiv, Nat.reduceMod, Nat.reduceLT, Nat.reduceLeDiff, Nat.reduceAdd, Nat.reduceSub, Nat.reduceMul, Nat.reduceEqDiff, Nat.reduceBEq, Nat.reduceBNe, Nat.reduceGT, bZ, List.replicate, List.foldr, h11b, h12b]
     repeat refine ⟨by first | omega | assumption | decide | exact all_len fun _ => rfl | (intro _; omega) | rfl | exact fun e => absurd (List.map_eq_nil_iff.1 e) (by assumption) | (and_intros <;> first | omega | assumption | decide | exact all_len fun _ => rfl), ?_⟩
     obtain ⟨y8, hc13, hm⟩ := bd hm
     refine RP (fun _ => ref_SameLongs_ok y6.1 (lit ([5] : List Int)) _ hc13) ?_
     by_cases h14 : y8 = true
     ·rw [if_pos h14] at hm
      have h14b : y8 = true := h14
      refine RunRest_ops ?_
      refine gox (a2 h11b (a2 h12b h14b)) ?_
      refine RunCall_turn (Ghost_fr 9 rfl) ?_
      simp only [bR, bT, tab, bX, reduceIte, ↓reduceIte, reduceCtorEq, Int.reduceToNat, Nat.reduceDiv, Nat.reduceMod, Nat.reduceLT, Nat.reduceLeDiff, Nat.reduceAdd, Nat.reduceSub, Nat.reduceMul, Nat.reduceEqDiff, Nat.reduceBEq, Nat.reduceBNe, Nat.reduceGT, bZ, List.replicate, List.foldr, h11b, h12b, h14b]
      repeat refine ⟨by first | omega | assumption | decide | exact all_len fun _ => rfl | (intro _; omega) | rfl | exact fun e => absurd (List.map_eq_nil_iff.1 e) (by assumption) | (and_intros <;> first | omega | assumption | decide | exact all_len fun _ => rfl), ?_⟩
      obtain ⟨y9, hc15, hm⟩ := bd hm
      refine RP (fun _ => ref_SameLongs_ok y7.1 (lit ([12] : List Int)) _ hc15) ?_
      refine RunRest_ops ?_
      refine gox (a2 h11b (a2 h12b h14b)) ?_
      refine hk _ _ ?_
      clear hk hp k kp
      refine W_ret ?_
      refine KBody_ret [] ?_
      obtain rfl := Option.some.inj hm
      exact en
     ·rw [if_neg h14] at hm
      have h14b : y8 = false := Bool.eq_false_iff.2 h14
      refine RunRest_ops ?_
      refine gox (a2 h11b (a2 h12b h14b)) ?_
      refine hk _ _ ?_
      clear hk hp k kp
      refine W_ret ?_
      refine KBody_ret [] ?_
      obtain rfl := Option.some.inj hm
      exact en
    ·rw [if_neg h12] at hm
     have h12b : (((y7.2.1).code) == 0) = false := beq_eq_false_iff_ne.2 h12
     refine W_rgx (a2 h11b h12b) [3, 4, 5, 6, 27, 28, 29, 30, 31, 32, 33, 34, 35, 36, 37, 38, 39, 40, 41, 42, 43, 44] ?_
     refine W_ret ?_
     refine KBody_ret [] ?_
     obtain rfl := Option.some.inj hm
     exact en
   ·rw [if_neg h11] at hm
    have h11b : (((y6.2.1).code) == 0) = false := beq_eq_false_iff_ne.2 h11
    refine W_rgx h11b [3, 4, 5, 6, 27, 28, 29, 30, 31, 32, 33, 34, 35, 36, 37, 38, 39, 40, 41, 42, 43, 44] ?_
    refine W_ret ?_
    refine KBody_ret [] ?_
    obtain rfl := Option.some.inj hm
    exact en
end Pam

/- the walk of ref_GreatLoops, printed by a program of ours -/
namespace Pam
open Go Go.Proofs
set_option maxRecDepth 100000 in
set_option maxHeartbeats 1000000 in
theorem ref_GreatLoops_ok (p1 : TLoops) (r : Bool) (hm : ref_GreatLoops p1 = some r) : SpecF Try.prog 31 [.a [.int .i64 p1.cells, .tree 1 (p1.put.map (eK .i64)), .tree 1 (p1.get.map (eK .i64)), .tree 6 (p1.steps.map TLoop.enc)]] (.c (.bool r)) := by
 refine Spec_ofD 65 [.tmp 2] Try.func31 rfl rfl rfl (by kernel_rfl) (by simp) ?_
 refine W_eqf ?_
 unfold ref_GreatLoops at hm
 refine W_rg [0, 2] ?_
 refine W_seq_k fun k1 hk1 => ?_
 by_cases h1 : (p1.put.length : Int) > 7000
 ·rw [if_pos h1] at hm
  have h1b : decide ((p1.put.length : Int) > 7000) = true := decide_eq_true h1
  refine W_rgx h1b [5, 6, 7, 8, 9, 10, 11, 12, 13, 14, 15, 16, 17, 18, 19] ?_
  refine W_condt rfl rfl ?_
  refine W_rg [1, 20] ?_
  refine W_ret ?_
  refine KThen_r ?_
  refine KBody_ret [] ?_
  obtain rfl := Option.some.inj hm
  exact en
 ·rw [if_neg h1] at hm
  have h1b : decide ((p1.put.length : Int) > 7000) = false := decide_eq_false h1
  by_cases h2 : (p1.get.length : Int) > 130000
  ·rw [if_pos h2] at hm
   have h2b : decide ((p1.get.length : Int) > 130000) = true := decide_eq_true h2
   refine W_rgx (a2 h1b h2b) [5, 6, 7, 8, 9, 10, 11, 12, 13, 14, 15, 16, 17, 18, 19] ?_
   refine W_condt rfl rfl ?_
   refine W_rg [1, 20] ?_
   refine W_ret ?_
   refine KThen_r ?_
   refine KBody_ret [] ?_
   obtain rfl := Option.some.inj hm
   exact en
  ·rw [if_neg h2] at hm
   have h2b : decide ((p1.get.length : Int) > 130000) = false := decide_eq_false h2
   refine W_rgx (a2 h1b h2b) [5, 6, 7, 8, 9, 10, 11, 12, 13, 14, 15, 16, 17, 18, 19] ?_
   by_cases h3 : (p1.steps.length : Int) > 1300
   ·rw [if_pos h3] at hm
    refine W_condt rfl (decide_eq_true h3) ?_
    refine W_rg [1, 20] ?_
    refine W_ret ?_
    refine KThen_r ?_
    refine KBody_ret [] ?_
    obtain rfl := Option.some.inj hm
    exact en
   ·rw [if_neg h3] at hm
    refine W_condf rfl (decide_eq_false h3) ?_
    refine W_skip ?_
    refine KThen_n (hk1 _ _ ?_)
    refine W_rg [20] ?_
    refine W_joinM (S := Int) (V := Unit) [1, 2, 3, 4, 21, 22, 23, 24, 25, 26, 27, 28, 29, 30, 31, 32, 33, 34, 35, 36, 37, 38, 39, 40, 41, 42, 43, 44, 45, 46, 47, 48, 49, 50, 51, 52, 53, 54, 55, 56, 57, 58, 59, 60, 61, 62] (fun x1 _ => [(3, .c (.int .i64 x1))]) (fun x1 _ => [.box [.int .i64 p1.cells, .tree 1 (p1.put.map (eK .i64)), .tree 1 (p1.get.map (eK .i64)), .tree 6 (p1.steps.map TLoop.enc)]]) (fun x1 => ref_GreatLoops_j1 x1 = some r) ?_ ?_
    ·skip
     refine W_rg [] ?_
     refine W_block ?_
     obtain ⟨o1, hl1, hm1⟩ := bd hm
     refine W_loopM (S := (Int × Int)) (V := Unit) (O := Int ⊕ Bool) [2, 3, 4, 21, 22, 23, 24, 25, 26, 27, 28, 29, 30, 31, 32, 33, 34, 35, 36, 37, 38, 39, 40, 41, 42, 43, 44, 45, 46, 47, 48, 49, 50, 51, 52, 53, 54, 55, 56, 57, 58, 59, 60, 61, 62] (fun (x6, x7) _ => [(3, .c (.int .i64 x6)), (4, .c (.int .i64 x7))]) (fun (x6, x7) _ => [.box [.int .i64 p1.cells, .tree 1 (p1.put.map (eK .i64)), .tree 1 (p1.get.map (eK .i64)), .tree 6 (p1.steps.map TLoop.enc)]]) _ _ () hl1 ?_ ?_
     ·exact ls
     ·rintro ⟨x6, x7⟩ _ r1 hm hr1
      replace hm : ref_GreatLoops_l1 p1 x6 x7 = some r1 := hm
      refine W_eqm ?_
      unfold ref_GreatLoops_l1 at hm
      refine W_seq_k fun k2 hk2 => ?_
      refine W_rg [21, 22, 23, 24] ?_
      by_cases h4 : x7 < (p1.steps.length : Int)
      ·rw [if_pos h4] at hm
       refine W_condt rfl (decide_eq_true h4) ?_
       refine W_skip ?_
       refine KThen_n (hk2 _ _ ?_)
       refine W_seq_k fun k3 hk3 => ?_
       refine W_block ?_
       refine W_seq_k fun k4 hk4 => ?_
       by_cases h5 : (((p1.steps.getD x7.toNat default).e).length : Int) > 1000
       ·rw [if_pos h5] at hm
        have h5b : decide ((((p1.steps.getD x7.toNat default).e).length : Int) > 1000) = true := decide_eq_true h5
        obtain ⟨hg6a, hm⟩ := gd hm
        refine W_rgx (a2 (em TLoop.enc p1.steps x7.toNat) h5b) [25, 28, 29, 30, 31, 32, 33, 34, 35, 36, 37, 38, 39, 40, 41, 42, 43, 44] ?_
        refine W_condt rfl rfl ?_
        refine W_rg [1, 3, 4, 45] ?_
        have ho7 := out_eq hm hr1
        subst ho7
        replace hm : some true = some r := hm1
        refine W_ret ?_
        refine KThen_r ?_
        refine KBlock_r ?_
        refine KThen_r ?_
        refine KLoopM_r ?_
        refine KBlock_r ?_
        refine KJoinM_r ?_
        refine KBody_ret [] ?_
        obtain rfl := Option.some.inj hm
        exact en
       ·rw [if_neg h5] at hm
        have h5b : decide ((((p1.steps.getD x7.toNat default).e).length : Int) > 1000) = false := decide_eq_false h5
        obtain ⟨hg8a, hm⟩ := gd hm
        refine W_rgx (a2 (em TLoop.enc p1.steps x7.toNat) h5b) [25, 28, 29, 30, 31, 32, 33, 34, 35, 36, 37, 38, 39, 40, 41, 42, 43, 44] ?_
        by_cases h9 : (((p1.steps.getD x7.toNat default).f).length : Int) > 1000
        ·rw [if_pos h9] at hm
         refine W_condt rfl (decide_eq_true h9) ?_
         refine W_rg [1, 3, 4, 45] ?_
         have ho10 := out_eq hm hr1
         subst ho10
         replace hm : some true = some r := hm1
         refine W_ret ?_
         refine KThen_r ?_
         refine KBlock_r ?_
         refine KThen_r ?_
         refine KLoopM_r ?_
         refine KBlock_r ?_
         refine KJoinM_r ?_
         refine KBody_ret [] ?_
         obtain rfl := Option.some.inj hm
         exact en
        ·rw [if_neg h9] at hm
         refine W_condf rfl (decide_eq_false h9) ?_
         refine W_skip ?_
         refine KThen_n (hk4 _ _ ?_)
         refine W_anx (em TLoop.enc p1.steps x7.toNat) [0, 0, 2, 0, 14, 30, 62, 126, 0, 256, 0, 1792, 3840, 7936, 16128, 32766, 65535, 131071] [false, false, false, false, false, false, false, false, false, false, false, false, false, false, false, false, true, true] ?_
         refine KBlock_n ?_
         refine KThen_n (hk3 _ _ ?_)
         refine W_rn ?_
         refine KLoopM_n ((IntKind.wrap .i64 (x6 + (IntKind.wrap .i64 ((((p1.steps.getD x7.toNat default).e).length : Int) + (((p1.steps.getD x7.toNat default).f).length : Int))))), (IntKind.wrap .i64 (x7 + 1))) () hm ?_
         exact ls
      ·rw [if_neg h4] at hm
       refine W_condf rfl (decide_eq_false h4) ?_
       refine W_exit ?_
       have ho11 := out_eq hm hr1
       subst ho11
       replace hm : ref_GreatLoops_j1 x6 = some r := hm1
       refine KThen_x ?_
       refine KLoopM_x ?_
       refine KBlock_hit ?_
       refine KJoinM_n x6 () hm ?_
       exact ls
    ·rintro x1 _ hm
     replace hm : ref_GreatLoops_j1 x1 = some r := hm
     refine W_eqm ?_
     unfold ref_GreatLoops_j1 at hm
     refine W_rg [3, 63, 64] ?_
     refine W_ret ?_
     refine KBody_ret [] ?_
     obtain rfl := Option.some.inj hm
     exact en
end Pam

/- the walk of law_rowsGreat, printed by a program of ours -/
namespace Pam
open Go Go.Proofs
set_option maxRecDepth 100000 in
set_option maxHeartbeats 1000000 in
theorem law_rowsGreat_ok (p1 : List (List Int)) (r : Bool) (hm : law_rowsGreat p1 = some r) : SpecF Try.prog 35 [.c (.tree 1 (p1.map (eL 1 (eK .i64))))] (.c (.bool r)) := by
 refine Spec_ofD 19 [.tmp 2] Try.func35 rfl rfl rfl (by kernel_rfl) (by simp) ?_
 refine W_eqf ?_
 unfold law_rowsGreat at hm
 refine W_rg [2] ?_
 refine W_seq_k fun k1 hk1 => ?_
 refine W_rg [4, 5] ?_
 by_cases h1 : (p1.length : Int) > 60
 ·rw [if_pos h1] at hm
  refine W_condt rfl (decide_eq_true h1) ?_
  refine W_rg [0, 6] ?_
  refine W_ret ?_
  refine KThen_r ?_
  refine KBody_ret [] ?_
  obtain rfl := Option.some.inj hm
  exact en
 ·rw [if_neg h1] at hm
  refine W_condf rfl (decide_eq_false h1) ?_
  refine W_skip ?_
  refine KThen_n (hk1 _ _ ?_)
  refine W_joinM (S := Unit) (V := Unit) [0, 2, 3, 6, 7, 8, 9, 10, 11, 12, 13, 14, 15, 16, 17, 18] (fun _ _ => []) (fun _ _ => []) (fun _ => law_rowsGreat_j1 = some r) ?_ ?_
  ·skip
   refine W_rg [6] ?_
   refine W_block ?_
   obtain ⟨o1, hl1, hm1⟩ := bd hm
   refine W_loopM (S := Int) (V := Unit) (O := Unit ⊕ Bool) [2, 3, 7, 8, 9, 10, 11, 12, 13, 14, 15, 16, 17, 18] (fun x3 _ => [(3, .c (.int .i64 x3))]) (fun x3 _ => []) _ _ () hl1 ?_ ?_
   ·exact ls
   ·rintro x3 _ r1 hm hr1
    replace hm : law_rowsGreat_l1 p1 x3 = some r1 := hm
    refine W_eqm ?_
    unfold law_rowsGreat_l1 at hm
    refine W_seq_k fun k2 hk2 => ?_
    refine W_rg [7, 8, 9] ?_
    by_cases h2 : x3 < (p1.length : Int)
    ·rw [if_pos h2] at hm
     refine W_condt rfl (decide_eq_true h2) ?_
     refine W_skip ?_
     refine KThen_n (hk2 _ _ ?_)
     refine W_seq_k fun k3 hk3 => ?_
     refine W_block ?_
     obtain ⟨hg3a, hm⟩ := gd hm
     refine W_rgx (em (eL 1 (eK .i64)) p1 x3.toNat) [10, 13, 14, 15, 16, 17] ?_
     by_cases h4 : ((p1.getD x3.toNat default).length : Int) > 10000
     ·rw [if_pos h4] at hm
      refine W_condt rfl (decide_eq_true h4) ?_
      refine W_rg [0, 3, 18] ?_
      have ho5 := out_eq hm hr1
      subst ho5
      replace hm : some true = some r := hm1
      refine W_ret ?_
      refine KBlock_r ?_
      refine KThen_r ?_
      refine KLoopM_r ?_
      refine KBlock_r ?_
      refine KJoinM_r ?_
      refine KBody_ret [] ?_
      obtain rfl := Option.some.inj hm
      exact en
     ·rw [if_neg h4] at hm
      refine W_condf rfl (decide_eq_false h4) ?_
      refine W_skip ?_
      refine KBlock_n ?_
      refine KThen_n (hk3 _ _ ?_)
      refine W_rn ?_
      refine KLoopM_n (IntKind.wrap .i64 (x3 + 1)) () hm ?_
      exact ls
    ·rw [if_neg h2] at hm
     refine W_condf rfl (decide_eq_false h2) ?_
     refine W_exit ?_
     have ho6 := out_eq hm hr1
     subst ho6
     replace hm : law_rowsGreat_j1 = some r := hm1
     refine KThen_x ?_
     refine KLoopM_x ?_
     refine KBlock_hit ?_
     refine KJoinM_n () () hm ?_
     exact ls
  ·rintro _ _ hm
   replace hm : law_rowsGreat_j1 = some r := hm
   refine W_eqm ?_
   unfold law_rowsGreat_j1 at hm
   refine W_rg [] ?_
   refine W_ret ?_
   refine KBody_ret [] ?_
   obtain rfl := Option.some.inj hm
   exact en
end Pam

/- the walk of ref_CopyLoops, printed by a program of ours -/
namespace Pam
open Go Go.Proofs
set_option maxRecDepth 100000 in
set_option maxHeartbeats 1000000 in
theorem ref_CopyLoops_ok (p1 : TLoops) (r : TLoops) (hm : ref_CopyLoops p1 = some r) : SpecF Try.prog 33 [.a [.int .i64 p1.cells, .tree 1 (p1.put.map (eK .i64)), .tree 1 (p1.get.map (eK .i64)), .tree 6 (p1.steps.map TLoop.enc)]] (.a [.int .i64 ((r).cells), .tree 1 (((r).put).map (eK .i64)), .tree 1 (((r).get).map (eK .i64)), .tree 6 (((r).steps).map TLoop.enc)]) := by
 refine Spec_ofD 50 [.cell 2 50] Try.func33 rfl rfl rfl (by kernel_rfl) (by simp) ?_
 refine W_eqf ?_
 unfold ref_CopyLoops at hm
 refine W_rg [0] ?_
 refine W_rg [] ?_
 obtain ⟨⟨⟨hg1ax, hg1ay⟩, ⟨hg1bx, hg1by⟩⟩, hm⟩ := gd hm
 refine W_lateT [3, 4, 10, 11, 12, 13, 14, 15, 16, 17, 18, 19, 20] [5] [0, 1, 0, 0, 8, 28, 0, 0, 128, 508, 1023, 0, 4095] [false, false, false, false, false, false, false, false, false, false, false, false, true] (by kernel_rfl) (by kernel_rfl) (by decide) fun k kp hk => ?_
 simp only [virt, late, vOne, hush]
 refine ga ?_
 refine go ?_
 refine hk _ _ ?_
 clear hk k kp
 refine W_eqa [.box [.int .i64 p1.cells, .tree 1 (p1.put.map (eK .i64)), .tree 1 (p1.get.map (eK .i64)), .tree 6 (p1.steps.map TLoop.enc)], .box [.int .i64 0, .nils, .nils, .nils], .arr 1 0 3 (p1.put.map (eK .i64)), .arr 1 0 3 (p1.get.map (eK .i64)), .box [.int .i64 p1.cells, .osl 2 0 0 p1.put.length, .osl 3 0 0 p1.get.length, .nils]] ?_
 refine W_gh (Ghost_nilB 4 3 6 129 (by decide) rfl rfl) ?_
 refine W_joinM (S := (List TLoop)) (V := Nat) [1, 6, 7, 8, 9, 21, 22, 23, 24, 25, 26, 27, 28, 29, 30, 31, 32, 33, 34, 35, 36, 37, 38, 39, 40, 41, 42, 43, 44, 45, 46, 47, 48] (fun l3 v4 => []) (fun l3 v4 => [.box [.int .i64 p1.cells, .tree 1 (p1.put.map (eK .i64)), .tree 1 (p1.get.map (eK .i64)), .tree 6 (p1.steps.map TLoop.enc)], .box [.int .i64 0, .nils, .nils, .nils], .arr 1 0 3 (p1.put.map (eK .i64)), .arr 1 0 3 (p1.get.map (eK .i64)), .box [.int .i64 p1.cells, .osl 2 0 0 p1.put.length, .osl 3 0 0 p1.get.length, .osl 5 v4 0 l3.length], .arr 6 v4 129 (l3.map TLoop.enc)]) (fun l3 => ref_CopyLoops_j1 p1 l3 = some r) ?_ ?_
 ·skip
  refine W_rg [] ?_
  refine W_block ?_
  obtain ⟨o1, hl1, hm1⟩ := bd hm
  refine W_loopM (S := ((List TLoop) × Int)) (V := Nat) (O := (List TLoop)) [6, 7, 8, 9, 21, 22, 23, 24, 25, 26, 27, 28, 29, 30, 31, 32, 33, 34, 35, 36, 37, 38, 39, 40, 41, 42, 43, 44, 45, 46, 47, 48] (fun (l17, x19) v18 => [(6, .c (.int .i64 x19))]) (fun (l17, x19) v18 => [.box [.int .i64 p1.cells, .tree 1 (p1.put.map (eK .i64)), .tree 1 (p1.get.map (eK .i64)), .tree 6 (p1.steps.map TLoop.enc)], .box [.int .i64 0, .nils, .nils, .nils], .arr 1 0 3 (p1.put.map (eK .i64)), .arr 1 0 3 (p1.get.map (eK .i64)), .box [.int .i64 p1.cells, .osl 2 0 0 p1.put.length, .osl 3 0 0 p1.get.length, .osl 5 v18 0 l17.length], .arr 6 v18 129 (l17.map TLoop.enc)]) _ _ 0 hl1 ?_ ?_
  ·exact ls
  ·rintro ⟨l17, x19⟩ v18 r1 hm hr1
   replace hm : ref_CopyLoops_l1 p1 l17 x19 = some r1 := hm
   refine W_eqm ?_
   unfold ref_CopyLoops_l1 at hm
   refine W_seq_k fun k1 hk1 => ?_
   refine W_rg [21, 22, 23, 24] ?_
   by_cases h2 : x19 < (p1.steps.length : Int)
   ·rw [if_pos h2] at hm
    refine W_condt rfl (decide_eq_true h2) ?_
    refine W_skip ?_
    refine KThen_n (hk1 _ _ ?_)
    refine W_seq_k fun k2 hk2 => ?_
    refine W_block ?_
    obtain ⟨hg3a, hm⟩ := gd hm
    refine W_rgx (em TLoop.enc p1.steps x19.toNat) [25, 28, 29, 30, 31, 32] ?_
    refine W_rg [] ?_
    obtain ⟨⟨⟨hg4ax, hg4ay⟩, ⟨hg4bx, hg4by⟩⟩, hm⟩ := gd hm
    refine W_ag [8, 9, 33, 34, 35, 36, 37, 38, 39, 40, 41, 42] [0, 0, 2, 7, 0, 0, 32, 127, 111, 511, 1023, 2047] [false, false, false, false, false, false, false, false, false, true, true, true] ?_
    refine W_eqa [.box [.int .i64 p1.cells, .tree 1 (p1.put.map (eK .i64)), .tree 1 (p1.get.map (eK .i64)), .tree 6 (p1.steps.map TLoop.enc)], .box [.int .i64 0, .nils, .nils, .nils], .arr 1 0 3 (p1.put.map (eK .i64)), .arr 1 0 3 (p1.get.map (eK .i64)), .box [.int .i64 p1.cells, .osl 2 0 0 p1.put.length, .osl 3 0 0 p1.get.length, .osl 5 v18 0 l17.length], .arr 6 v18 129 (l17.map TLoop.enc), .box [.int .i64 ((p1.steps.getD x19.toNat default).op), .int .i64 ((p1.steps.getD x19.toNat default).k), .int .i64 ((p1.steps.getD x19.toNat default).n), .int .i64 ((p1.steps.getD x19.toNat default).to), .osl 8 0 0 (((p1.steps.getD x19.toNat default).f).length), .osl 7 0 0 (((p1.steps.getD x19.toNat default).e).length)], .arr 4 0 137 (((p1.steps.getD x19.toNat default).e).map TPush.enc), .arr 4 0 137 (((p1.steps.getD x19.toNat default).f).map TPush.enc)] ?_
    refine W_gh (Ghost_fr 7 rfl) ?_
    refine W_gh (Ghost_fr 8 rfl) ?_
    obtain ⟨⟨hg5ax, hg5ay⟩, hm⟩ := gd hm
    refine W_rn ?_
    refine KBlock_n ?_
    refine KThen_n (hk2 _ _ ?_)
    refine W_rn ?_
    refine KLoopM_n ((l17 ++ (lit ([(p1.steps.getD x19.toNat default)] : List TLoop))), (IntKind.wrap .i64 (x19 + 1))) (v18 + 1) hm ?_
    exact ls
   ·rw [if_neg h2] at hm
    refine W_condf rfl (decide_eq_false h2) ?_
    refine W_exit ?_
    have ho6 := out_eq hm hr1
    subst ho6
    replace hm : ref_CopyLoops_j1 p1 l17 = some r := hm1
    refine KThen_x ?_
    refine KLoopM_x ?_
    refine KBlock_hit ?_
    refine KJoinM_n l17 v18 hm ?_
    exact ls
 ·rintro l3 v4 hm
  replace hm : ref_CopyLoops_j1 p1 l3 = some r := hm
  refine W_eqm ?_
  unfold ref_CopyLoops_j1 at hm
  refine W_rg [5, 49] ?_
  refine W_gh (Ghost_fr 2 rfl) ?_
  refine W_gh (Ghost_fr 3 rfl) ?_
  refine W_gh (Ghost_fr 5 rfl) ?_
  refine W_ret ?_
  refine KBody_ret [] ?_
  obtain rfl := Option.some.inj hm
  exact en
end Pam

/- the walk of law_copyRows, printed by a program of ours -/
namespace Pam
open Go Go.Proofs
set_option maxRecDepth 100000 in
set_option maxHeartbeats 1000000 in
theorem law_copyRows_ok (p1 : List (List Int)) (r : (List (List Int))) (hm : law_copyRows p1 = some r) : SpecF Try.prog 36 [.c (.tree 1 (p1.map (eL 1 (eK .i64))))] (.c (.tree 1 (r.map (eL 1 (eK .i64))))) := by
 refine Spec_ofD 22 [.tmp 2] Try.func36 rfl rfl rfl (by kernel_rfl) (by simp) ?_
 refine W_eqf ?_
 unfold law_copyRows at hm
 refine W_rg [2] ?_
 refine W_rg [] ?_
 refine W_ghost (Ghost_nil 3 1 62 (by decide) rfl (Nat.le_of_ble_eq_true rfl)) ?_
 refine W_eql ?_
 refine W_joinM (S := (List (List Int))) (V := Nat) [0, 3, 4, 5, 6, 7, 8, 9, 10, 11, 12, 13, 14, 15, 16, 17, 18, 19, 20] (fun l3 v4 => [(3, .c (.osl 0 v4 0 l3.length))]) (fun l3 v4 => [.arr 1 v4 62 (l3.map (eL 1 (eK .i64)))]) (fun l3 => law_copyRows_j1 l3 = some r) ?_ ?_
 ·skip
  refine W_rg [] ?_
  refine W_block ?_
  obtain ⟨o1, hl1, hm1⟩ := bd hm
  refine W_loopM (S := ((List (List Int)) × Int)) (V := Nat) (O := (List (List Int))) [3, 4, 5, 6, 7, 8, 9, 10, 11, 12, 13, 14, 15, 16, 17, 18, 19, 20] (fun (l17, x19) v18 => [(3, .c (.osl 0 v18 0 l17.length)), (4, .c (.int .i64 x19))]) (fun (l17, x19) v18 => [.arr 1 v18 62 (l17.map (eL 1 (eK .i64)))]) _ _ 0 hl1 ?_ ?_
  ·exact ls
  ·rintro ⟨l17, x19⟩ v18 r1 hm hr1
   replace hm : law_copyRows_l1 p1 l17 x19 = some r1 := hm
   refine W_eqm ?_
   unfold law_copyRows_l1 at hm
   refine W_seq_k fun k1 hk1 => ?_
   refine W_rg [6, 7, 8] ?_
   by_cases h1 : x19 < (p1.length : Int)
   ·rw [if_pos h1] at hm
    refine W_condt rfl (decide_eq_true h1) ?_
    refine W_skip ?_
    refine KThen_n (hk1 _ _ ?_)
    refine W_seq_k fun k2 hk2 => ?_
    refine W_block ?_
    refine W_rg [9] ?_
    obtain ⟨⟨hg2a, ⟨hg2bx, hg2by⟩⟩, hm⟩ := gd hm
    refine W_regionG fun k kp hk hp => ?_
    refine RunRest_cut 7 ?_
    refine gox (em (eL 1 (eK .i64)) p1 x19.toNat) ?_
    refine RunRest_ghost (Ghost_fr 1 rfl) ?_
    refine gz ?_
    obtain ⟨⟨hg3ax, hg3ay⟩, hm⟩ := gd hm
    refine RunRest_ops ?_
    refine go ?_
    refine hk _ _ ?_
    clear hk hp k kp
    refine KBlock_n ?_
    refine KThen_n (hk2 _ _ ?_)
    refine W_rn ?_
    refine KLoopM_n ((l17 ++ (lit ([(p1.getD x19.toNat default)] : List (List Int)))), (IntKind.wrap .i64 (x19 + 1))) (v18 + 1) hm ?_
    exact ls
   ·rw [if_neg h1] at hm
    refine W_condf rfl (decide_eq_false h1) ?_
    refine W_exit ?_
    have ho4 := out_eq hm hr1
    subst ho4
    replace hm : law_copyRows_j1 l17 = some r := hm1
    refine KThen_x ?_
    refine KLoopM_x ?_
    refine KBlock_hit ?_
    refine KJoinM_n l17 v18 hm ?_
    exact ls
 ·rintro l3 v4 hm
  replace hm : law_copyRows_j1 l3 = some r := hm
  refine W_eqm ?_
  unfold law_copyRows_j1 at hm
  refine W_rg [3, 21] ?_
  refine W_gh (Ghost_fr 0 rfl) ?_
  refine W_ret ?_
  refine KBody_ret [] ?_
  obtain rfl := Option.some.inj hm
  exact en
end Pam

/- the walk of ref_F, printed by a program of ours -/
namespace Pam
open Go Go.Proofs
set_option maxRecDepth 100000 in
set_option maxHeartbeats 1000000 in
theorem ref_F_ok (p1 : Int) (p2 : Int) (r : TFault) (hm : ref_F p1 p2 = some r) : SpecF Try.prog 65 [.c (.int .i64 p1), .c (.int .i64 p2)] (.a [.int .i64 ((r).code), .int .i64 ((r).at_)]) := by
 refine Spec_ofD 8 [.cell 4 30] Try.func65 rfl rfl rfl (by kernel_rfl) (by simp) ?_
 refine W_eqf ?_
 unfold ref_F at hm
 refine W_rg [] ?_
 refine W_rg [0, 1, 5, 6, 7] ?_
 refine W_ret ?_
 refine KBody_ret [] ?_
 obtain rfl := Option.some.inj hm
 exact en
end Pam

/- the walk of ref_there, printed by a program of ours -/
namespace Pam
open Go Go.Proofs
set_option maxRecDepth 100000 in
set_option maxHeartbeats 1000000 in
theorem ref_there_ok (p1 : TLoops) (p2 : Int) (p3 : Int) (r : Bool) (hm : ref_there p1 p2 p3 = some r) : SpecF Try.prog 81 [.a [.int .i64 p1.cells, .tree 1 (p1.put.map (eK .i64)), .tree 1 (p1.get.map (eK .i64)), .tree 6 (p1.steps.map TLoop.enc)], .c (.int .i64 p2), .c (.int .i64 p3)] (.c (.bool r)) := by
 refine Spec_ofD 27 [.tmp 6] Try.func81 rfl rfl rfl (by kernel_rfl) (by simp) ?_
 refine W_eqf ?_
 unfold ref_there at hm
 refine W_rg [0, 6] ?_
 by_cases h1 : p2 ≥ 0
 ·rw [if_pos h1] at hm
  have h1b : decide (p2 ≥ 0) = true := decide_eq_true h1
  by_cases h2 : p2 < p1.cells
  ·rw [if_pos h2] at hm
   have h2b : decide (p2 < p1.cells) = true := decide_eq_true h2
   by_cases h3 : p3 ≥ 1
   ·rw [if_pos h3] at hm
    have h3b : decide (p3 ≥ 1) = true := decide_eq_true h3
    refine W_rgx (a2 h1b (a2 h2b h3b)) [1, 2, 3, 7, 8, 9, 10, 11, 12, 13, 14, 15, 16, 17, 18, 19, 20, 21, 22, 23, 24, 25, 26] ?_
    refine W_ret ?_
    refine KBody_ret [] ?_
    obtain rfl := Option.some.inj hm
    exact en
   ·rw [if_neg h3] at hm
    have h3b : decide (p3 ≥ 1) = false := decide_eq_false h3
    refine W_rgx (a2 h1b (a2 h2b h3b)) [1, 2, 3, 7, 8, 9, 10, 11, 12, 13, 14, 15, 16, 17, 18, 19, 20, 21, 22, 23, 24, 25, 26] ?_
    refine W_ret ?_
    refine KBody_ret [] ?_
    obtain rfl := Option.some.inj hm
    exact en
  ·rw [if_neg h2] at hm
   have h2b : decide (p2 < p1.cells) = false := decide_eq_false h2
   refine W_rgx (a2 h1b h2b) [1, 2, 3, 7, 8, 9, 10, 11, 12, 13, 14, 15, 16, 17, 18, 19, 20, 21, 22, 23, 24, 25, 26] ?_
   refine W_ret ?_
   refine KBody_ret [] ?_
   obtain rfl := Option.some.inj hm
   exact en
 ·rw [if_neg h1] at hm
  have h1b : decide (p2 ≥ 0) = false := decide_eq_false h1
  refine W_rgx h1b [1, 2, 3, 7, 8, 9, 10, 11, 12, 13, 14, 15, 16, 17, 18, 19, 20, 21, 22, 23, 24, 25, 26] ?_
  refine W_ret ?_
  refine KBody_ret [] ?_
  obtain rfl := Option.some.inj hm
  exact en
end Pam

/- the walk of ref_OpOf, printed by a program of ours -/
namespace Pam
open Go Go.Proofs
set_option maxRecDepth 100000 in
set_option maxHeartbeats 1000000 in
theorem ref_OpOf_ok (p1 : Int) (r : (Int × Int × Int)) (hm : ref_OpOf p1 = some r) : SpecF Try.prog 108 [.c (.int .i64 p1)] (.t [.c (.int .u8 r.1), .c (.int .u8 r.2.1), .c (.int .i64 r.2.2)]) := by
 refine Spec_ofD 23 [.tmp 2, .tmp 3, .tmp 4] Try.func108 rfl rfl rfl (by kernel_rfl) (by simp) ?_
 refine W_eqf ?_
 unfold ref_OpOf at hm
 refine W_rg [2, 3, 4] ?_
 refine W_rg [] ?_
 refine W_rg [] ?_
 refine W_seq_k fun k1 hk1 => ?_
 by_cases h1 : p1 < 1
 ·rw [if_pos h1] at hm
  have h1b : decide (p1 < 1) = true := decide_eq_true h1
  refine W_rgx h1b [8, 9, 10, 11, 12] ?_
  refine W_condt rfl rfl ?_
  refine W_rg [0, 5, 6, 13] ?_
  refine W_ret ?_
  refine KThen_r ?_
  refine KBody_ret [] ?_
  obtain rfl := Option.some.inj hm
  exact en
 ·rw [if_neg h1] at hm
  have h1b : decide (p1 < 1) = false := decide_eq_false h1
  refine W_rgx h1b [8, 9, 10, 11, 12] ?_
  by_cases h2 : p1 > 14
  ·rw [if_pos h2] at hm
   refine W_condt rfl (decide_eq_true h2) ?_
   refine W_rg [0, 5, 6, 13] ?_
   refine W_ret ?_
   refine KThen_r ?_
   refine KBody_ret [] ?_
   obtain rfl := Option.some.inj hm
   exact en
  ·rw [if_neg h2] at hm
   refine W_condf rfl (decide_eq_false h2) ?_
   refine W_skip ?_
   refine KThen_n (hk1 _ _ ?_)
   refine W_rg [13] ?_
   refine W_joinM (S := Int) (V := Unit) [7, 14, 15] (fun x1 _ => [(7, .c (.int .i64 x1))]) (fun x1 _ => []) (fun x1 => ref_OpOf_j1 p1 x1 = some r) ?_ ?_
   ·skip
    refine W_rg [14] ?_
    by_cases h4 : p1 ≥ 13
    ·rw [if_pos h4] at hm
     refine W_condt rfl (decide_eq_true h4) ?_
     refine W_rn ?_
     refine KJoinM_n 1 () hm ?_
     exact ls
    ·rw [if_neg h4] at hm
     refine W_condf rfl (decide_eq_false h4) ?_
     refine W_skip ?_
     refine KJoinM_n 2 () hm ?_
     exact ls
   ·rintro x1 _ hm
    replace hm : ref_OpOf_j1 p1 x1 = some r := hm
    refine W_eqm ?_
    unfold ref_OpOf_j1 at hm
    obtain ⟨⟨hg3a, hg3b⟩, hm⟩ := gd hm
    refine W_ag [0, 5, 6, 7, 16, 17, 18, 19, 20, 21, 22] [0, 0, 3, 0, 0, 24, 0, 7, 191, 511] [false, false, false, false, false, false, false, false, false, true] ?_
    refine W_ret ?_
    refine KBody_ret [] ?_
    obtain rfl := Option.some.inj hm
    exact en
end Pam

/- the walk of ref_plainTree, printed by a program of ours -/
namespace Pam
open Go Go.Proofs
set_option maxRecDepth 100000 in
set_option maxHeartbeats 1000000 in
theorem ref_plainTree_ok (p1 : TLoops) (p2 : List TPush) (p3 : Int) (r : Bool) (hm : ref_plainTree p1 p2 p3 = some r) : SpecF Try.prog 116 [.a [.int .i64 p1.cells, .tree 1 (p1.put.map (eK .i64)), .tree 1 (p1.get.map (eK .i64)), .tree 6 (p1.steps.map TLoop.enc)], .c (.tree 4 (p2.map TPush.enc)), .c (.int .i64 p3)] (.c (.bool r)) := by
 refine Spec_ofD 113 [.tmp 6] Try.func116 rfl rfl rfl (by kernel_rfl) (by simp) ?_
 refine W_eqf ?_
 unfold ref_plainTree at hm
 refine W_rg [0, 6] ?_
 refine W_rg [] ?_
 refine W_joinM (S := Int) (V := Unit) [2, 3, 6, 7, 8, 9, 10, 11, 12, 13, 14, 15, 16, 17, 18, 19, 20, 21, 22, 23, 24, 25, 26, 27, 28, 29, 30, 31, 32, 33, 34, 35, 36, 37, 38, 39, 40, 41, 42, 43, 44, 45, 46, 47, 48, 49, 50, 51, 52, 53, 54, 55, 56, 57, 58, 59, 60, 61, 62, 63, 64, 65, 66, 67, 68, 69, 70, 71, 72, 73, 74, 75, 76, 77, 78, 79, 80, 81, 82, 83, 84, 85, 86, 87, 88, 89, 90, 91, 92, 93, 94, 95, 96, 97, 98, 99, 100, 101, 102, 103, 104, 105] (fun x1 _ => [(7, .c (.int .i64 x1))]) (fun x1 _ => [.box [.int .i64 p1.cells, .tree 1 (p1.put.map (eK .i64)), .tree 1 (p1.get.map (eK .i64)), .tree 6 (p1.steps.map TLoop.enc)]]) (fun x1 => ref_plainTree_j1 p2 x1 = some r) ?_ ?_
 ·skip
  refine W_rg [] ?_
  refine W_block ?_
  obtain ⟨o1, hl1, hm1⟩ := bd hm
  refine W_loopM (S := (Int × Int)) (V := Unit) (O := Int ⊕ Bool) [6, 7, 8, 9, 10, 11, 12, 13, 14, 15, 16, 17, 18, 19, 20, 21, 22, 23, 24, 25, 26, 27, 28, 29, 30, 31, 32, 33, 34, 35, 36, 37, 38, 39, 40, 41, 42, 43, 44, 45, 46, 47, 48, 49, 50, 51, 52, 53, 54, 55, 56, 57, 58, 59, 60, 61, 62, 63, 64, 65, 66, 67, 68, 69, 70, 71, 72, 73, 74, 75, 76, 77, 78, 79, 80, 81, 82, 83, 84, 85, 86, 87, 88, 89, 90, 91, 92, 93, 94, 95, 96, 97, 98, 99, 100, 101, 102, 103, 104, 105] (fun (x6, x7) _ => [(7, .c (.int .i64 x6)), (8, .c (.int .i64 x7))]) (fun (x6, x7) _ => [.box [.int .i64 p1.cells, .tree 1 (p1.put.map (eK .i64)), .tree 1 (p1.get.map (eK .i64)), .tree 6 (p1.steps.map TLoop.enc)]]) _ _ () hl1 ?_ ?_
  ·exact ls
  ·rintro ⟨x6, x7⟩ _ r1 hm hr1
   replace hm : ref_plainTree_l1 p1 p2 p3 x6 x7 = some r1 := hm
   refine W_eqm ?_
   unfold ref_plainTree_l1 at hm
   refine W_seq_k fun k1 hk1 => ?_
   refine W_rg [13, 14, 15] ?_
   by_cases h2 : x7 < (p2.length : Int)
   ·rw [if_pos h2] at hm
    refine W_condt rfl (decide_eq_true h2) ?_
    refine W_skip ?_
    refine KThen_n (hk1 _ _ ?_)
    refine W_seq_k fun k2 hk2 => ?_
    refine W_block ?_
    obtain ⟨hg3a, hm⟩ := gd hm
    refine W_rgx (em TPush.enc p2 x7.toNat) [16, 19, 20, 21, 22] ?_
    refine W_regF [10, 11, 23, 24, 25, 26, 27, 28, 29] fun k kp hk hp => ?_
    refine go ?_
    obtain ⟨y8, hc4, hm⟩ := bd hm
    refine RP (fun _ => ref_OpOf_ok ((p2.getD x7.toNat default).k) _ hc4) ?_
    refine RunRest_ops ?_
    refine go ?_
    refine hk _ _ ?_
    clear hk hp k kp
    refine W_rg [30] ?_
    refine W_block ?_
    refine W_rg [33] ?_
    by_cases h5 : ((p2.getD x7.toNat default).op) = 1
    ·rw [if_pos h5] at hm
     refine W_condt rfl (beq_iff_eq.2 h5) ?_
     refine W_rn ?_
     refine KBlock_n ?_
     refine KBlock_n ?_
     refine KThen_n (hk2 _ _ ?_)
     refine W_rn ?_
     refine KLoopM_n ((IntKind.wrap .i64 (x6 + 1)), (IntKind.wrap .i64 (x7 + 1))) () hm ?_
     exact ls
    ·rw [if_neg h5] at hm
     refine W_condf rfl (beq_eq_false_iff_ne.2 h5) ?_
     refine W_rg [32, 37] ?_
     by_cases h6 : ((p2.getD x7.toNat default).op) = 2
     ·rw [if_pos h6] at hm
      refine W_condt rfl (beq_iff_eq.2 h6) ?_
      refine W_seq_k fun k3 hk3 => ?_
      refine W_regF [9, 12, 31, 36, 38, 39, 40, 41] fun k kp hk hp => ?_
      refine go ?_
      obtain ⟨y9, hc7, hm⟩ := bd hm
      refine RP (fun _ => ref_there_ok p1 ((p2.getD x7.toNat default).v) 1 _ hc7) ?_
      refine RunRest_ops ?_
      refine go ?_
      refine hk _ _ ?_
      clear hk hp k kp
      by_cases h8 : y9 = true
      ·rw [if_pos h8] at hm
       refine W_condf rfl (by rw [show y9 = true from (h8)]; rfl) ?_
       refine W_skip ?_
       refine KThen_n (hk3 _ _ ?_)
       refine W_rn ?_
       refine KBlock_n ?_
       refine KBlock_n ?_
       refine KThen_n (hk2 _ _ ?_)
       refine W_rn ?_
       refine KLoopM_n ((IntKind.wrap .i64 (x6 + 1)), (IntKind.wrap .i64 (x7 + 1))) () hm ?_
       exact ls
      ·rw [if_neg h8] at hm
       refine W_condt rfl (by rw [show y9 = false from (Bool.eq_false_iff.2 h8)]; rfl) ?_
       refine W_rg [1, 2, 3, 7, 8, 42] ?_
       have ho9 := out_eq hm hr1
       subst ho9
       replace hm : some false = some r := hm1
       refine W_ret ?_
       refine KThen_r ?_
       refine KBlock_r ?_
       refine KBlock_r ?_
       refine KThen_r ?_
       refine KLoopM_r ?_
       refine KBlock_r ?_
       refine KJoinM_r ?_
       refine KBody_ret [] ?_
       obtain rfl := Option.some.inj hm
       exact en
     ·rw [if_neg h6] at hm
      refine W_condf rfl (beq_eq_false_iff_ne.2 h6) ?_
      refine W_rg [36, 46] ?_
      by_cases h10 : ((p2.getD x7.toNat default).op) = 3
      ·rw [if_pos h10] at hm
       refine W_condt rfl (beq_iff_eq.2 h10) ?_
       refine W_seq_k fun k4 hk4 => ?_
       refine W_regF [9, 12, 31, 45, 47, 48, 49, 50, 51] fun k kp hk hp => ?_
       refine go ?_
       obtain ⟨y10, hc11, hm⟩ := bd hm
       refine RP (fun _ => ref_there_ok p1 ((p2.getD x7.toNat default).v) p3 _ hc11) ?_
       refine RunRest_ops ?_
       refine go ?_
       refine hk _ _ ?_
       clear hk hp k kp
       by_cases h12 : y10 = true
       ·rw [if_pos h12] at hm
        refine W_condf rfl (by rw [show y10 = true from (h12)]; rfl) ?_
        refine W_skip ?_
        refine KThen_n (hk4 _ _ ?_)
        refine W_rn ?_
        refine KBlock_n ?_
        refine KBlock_n ?_
        refine KThen_n (hk2 _ _ ?_)
        refine W_rn ?_
        refine KLoopM_n ((IntKind.wrap .i64 (x6 + 1)), (IntKind.wrap .i64 (x7 + 1))) () hm ?_
        exact ls
       ·rw [if_neg h12] at hm
        refine W_condt rfl (by rw [show y10 = false from (Bool.eq_false_iff.2 h12)]; rfl) ?_
        refine W_rg [1, 2, 3, 7, 8, 52] ?_
        have ho13 := out_eq hm hr1
        subst ho13
        replace hm : some false = some r := hm1
        refine W_ret ?_
        refine KThen_r ?_
        refine KBlock_r ?_
        refine KBlock_r ?_
        refine KThen_r ?_
        refine KLoopM_r ?_
        refine KBlock_r ?_
        refine KJoinM_r ?_
        refine KBody_ret [] ?_
        obtain rfl := Option.some.inj hm
        exact en
      ·rw [if_neg h10] at hm
       refine W_condf rfl (beq_eq_false_iff_ne.2 h10) ?_
       refine W_rg [45, 56] ?_
       by_cases h14 : ((p2.getD x7.toNat default).op) = 4
       ·rw [if_pos h14] at hm
        refine W_condt rfl (beq_iff_eq.2 h14) ?_
        refine W_seq_k fun k5 hk5 => ?_
        by_cases h15 : ((p2.getD x7.toNat default).n) < (-1000000000000000000)
        ·rw [if_pos h15] at hm
         have h15b : decide (((p2.getD x7.toNat default).n) < (-1000000000000000000)) = true := decide_eq_true h15
         refine W_rgx h15b [9, 12, 31, 55, 57, 58, 59, 60, 61, 62, 63] ?_
         refine W_condt rfl rfl ?_
         refine W_rg [1, 2, 3, 7, 8, 64] ?_
         have ho16 := out_eq hm hr1
         subst ho16
         replace hm : some false = some r := hm1
         refine W_ret ?_
         refine KThen_r ?_
         refine KBlock_r ?_
         refine KBlock_r ?_
         refine KThen_r ?_
         refine KLoopM_r ?_
         refine KBlock_r ?_
         refine KJoinM_r ?_
         refine KBody_ret [] ?_
         obtain rfl := Option.some.inj hm
         exact en
        ·rw [if_neg h15] at hm
         have h15b : decide (((p2.getD x7.toNat default).n) < (-1000000000000000000)) = false := decide_eq_false h15
         refine W_rgx h15b [9, 12, 31, 55, 57, 58, 59, 60, 61, 62, 63] ?_
         by_cases h17 : ((p2.getD x7.toNat default).n) > 1000000000000000000
         ·rw [if_pos h17] at hm
          refine W_condt rfl (decide_eq_true h17) ?_
          refine W_rg [1, 2, 3, 7, 8, 64] ?_
          have ho18 := out_eq hm hr1
          subst ho18
          replace hm : some false = some r := hm1
          refine W_ret ?_
          refine KThen_r ?_
          refine KBlock_r ?_
          refine KBlock_r ?_
          refine KThen_r ?_
          refine KLoopM_r ?_
          refine KBlock_r ?_
          refine KJoinM_r ?_
          refine KBody_ret [] ?_
          obtain rfl := Option.some.inj hm
          exact en
         ·rw [if_neg h17] at hm
          refine W_condf rfl (decide_eq_false h17) ?_
          refine W_skip ?_
          refine KThen_n (hk5 _ _ ?_)
          refine W_rn ?_
          refine KBlock_n ?_
          refine KBlock_n ?_
          refine KThen_n (hk2 _ _ ?_)
          refine W_rn ?_
          refine KLoopM_n ((IntKind.wrap .i64 (x6 + 1)), (IntKind.wrap .i64 (x7 + 1))) () hm ?_
          exact ls
       ·rw [if_neg h14] at hm
        refine W_condf rfl (beq_eq_false_iff_ne.2 h14) ?_
        refine W_rg [55, 68] ?_
        by_cases h19 : ((p2.getD x7.toNat default).op) = 5
        ·rw [if_pos h19] at hm
         refine W_condt rfl (beq_iff_eq.2 h19) ?_
         by_cases h20 : ¬ y8.2.2 = 1
         ·rw [if_pos h20] at hm
          have h20b : (y8.2.2 != 1) = true := bne_iff_ne.2 h20
          refine W_rgx h20b [9, 12, 31, 67, 69, 70, 71, 72, 73] ?_
          refine W_condt rfl rfl ?_
          refine W_rg [1, 2, 3, 7, 8, 74] ?_
          have ho21 := out_eq hm hr1
          subst ho21
          replace hm : some false = some r := hm1
          refine W_ret ?_
          refine KBlock_r ?_
          refine KBlock_r ?_
          refine KThen_r ?_
          refine KLoopM_r ?_
          refine KBlock_r ?_
          refine KJoinM_r ?_
          refine KBody_ret [] ?_
          obtain rfl := Option.some.inj hm
          exact en
         ·rw [if_neg h20] at hm
          have h20b : (y8.2.2 != 1) = false := bne_eq_false_iff_eq.2 (Decidable.not_not.1 h20)
          refine W_rgx h20b [9, 12, 31, 67, 69, 70, 71, 72, 73] ?_
          by_cases h22 : x6 < 1
          ·rw [if_pos h22] at hm
           refine W_condt rfl (decide_eq_true h22) ?_
           refine W_rg [1, 2, 3, 7, 8, 74] ?_
           have ho23 := out_eq hm hr1
           subst ho23
           replace hm : some false = some r := hm1
           refine W_ret ?_
           refine KBlock_r ?_
           refine KBlock_r ?_
           refine KThen_r ?_
           refine KLoopM_r ?_
           refine KBlock_r ?_
           refine KJoinM_r ?_
           refine KBody_ret [] ?_
           obtain rfl := Option.some.inj hm
           exact en
          ·rw [if_neg h22] at hm
           refine W_condf rfl (decide_eq_false h22) ?_
           refine W_skip ?_
           refine KBlock_n ?_
           refine KBlock_n ?_
           refine KThen_n (hk2 _ _ ?_)
           refine W_rn ?_
           refine KLoopM_n (x6, (IntKind.wrap .i64 (x7 + 1))) () hm ?_
           exact ls
        ·rw [if_neg h19] at hm
         refine W_condf rfl (beq_eq_false_iff_ne.2 h19) ?_
         refine W_rg [67, 76] ?_
         by_cases h24 : ((p2.getD x7.toNat default).op) = 6
         ·rw [if_pos h24] at hm
          refine W_condt rfl (beq_iff_eq.2 h24) ?_
          refine W_seq_k fun k6 hk6 => ?_
          by_cases h25 : ¬ y8.2.2 = 2
          ·rw [if_pos h25] at hm
           have h25b : (y8.2.2 != 2) = true := bne_iff_ne.2 h25
           refine W_rgx h25b [9, 12, 31, 75, 77, 78, 79, 80, 81] ?_
           refine W_condt rfl rfl ?_
           refine W_rg [1, 2, 3, 7, 8, 82] ?_
           have ho26 := out_eq hm hr1
           subst ho26
           replace hm : some false = some r := hm1
           refine W_ret ?_
           refine KThen_r ?_
           refine KBlock_r ?_
           refine KBlock_r ?_
           refine KThen_r ?_
           refine KLoopM_r ?_
           refine KBlock_r ?_
           refine KJoinM_r ?_
           refine KBody_ret [] ?_
           obtain rfl := Option.some.inj hm
           exact en
          ·rw [if_neg h25] at hm
           have h25b : (y8.2.2 != 2) = false := bne_eq_false_iff_eq.2 (Decidable.not_not.1 h25)
           refine W_rgx h25b [9, 12, 31, 75, 77, 78, 79, 80, 81] ?_
           by_cases h27 : x6 < 2
           ·rw [if_pos h27] at hm
            refine W_condt rfl (decide_eq_true h27) ?_
            refine W_rg [1, 2, 3, 7, 8, 82] ?_
            have ho28 := out_eq hm hr1
            subst ho28
            replace hm : some false = some r := hm1
            refine W_ret ?_
            refine KThen_r ?_
            refine KBlock_r ?_
            refine KBlock_r ?_
            refine KThen_r ?_
            refine KLoopM_r ?_
            refine KBlock_r ?_
            refine KJoinM_r ?_
            refine KBody_ret [] ?_
            obtain rfl := Option.some.inj hm
            exact en
           ·rw [if_neg h27] at hm
            refine W_condf rfl (decide_eq_false h27) ?_
            refine W_skip ?_
            refine KThen_n (hk6 _ _ ?_)
            refine W_rn ?_
            refine KBlock_n ?_
            refine KBlock_n ?_
            refine KThen_n (hk2 _ _ ?_)
            refine W_rn ?_
            refine KLoopM_n ((IntKind.wrap .i64 (x6 - 1)), (IntKind.wrap .i64 (x7 + 1))) () hm ?_
            exact ls
         ·rw [if_neg h24] at hm
          refine W_condf rfl (beq_eq_false_iff_ne.2 h24) ?_
          refine W_rg [12, 75, 86] ?_
          by_cases h29 : ((p2.getD x7.toNat default).op) = 7
          ·rw [if_pos h29] at hm
           refine W_condt rfl (beq_iff_eq.2 h29) ?_
           refine W_seq_k fun k7 hk7 => ?_
           refine W_rg [9, 31, 85, 87] ?_
           by_cases h30 : x6 < 3
           ·rw [if_pos h30] at hm
            refine W_condt rfl (decide_eq_true h30) ?_
            refine W_rg [1, 2, 3, 7, 8, 88] ?_
            have ho31 := out_eq hm hr1
            subst ho31
            replace hm : some false = some r := hm1
            refine W_ret ?_
            refine KThen_r ?_
            refine KBlock_r ?_
            refine KBlock_r ?_
            refine KThen_r ?_
            refine KLoopM_r ?_
            refine KBlock_r ?_
            refine KJoinM_r ?_
            refine KBody_ret [] ?_
            obtain rfl := Option.some.inj hm
            exact en
           ·rw [if_neg h30] at hm
            refine W_condf rfl (decide_eq_false h30) ?_
            refine W_skip ?_
            refine KThen_n (hk7 _ _ ?_)
            refine W_rn ?_
            refine KBlock_n ?_
            refine KBlock_n ?_
            refine KThen_n (hk2 _ _ ?_)
            refine W_rn ?_
            refine KLoopM_n ((IntKind.wrap .i64 (x6 - 2)), (IntKind.wrap .i64 (x7 + 1))) () hm ?_
            exact ls
          ·rw [if_neg h29] at hm
           refine W_condf rfl (beq_eq_false_iff_ne.2 h29) ?_
           refine W_rg [31, 85, 92] ?_
           by_cases h32 : ((p2.getD x7.toNat default).op) = 8
           ·rw [if_pos h32] at hm
            refine W_condt rfl (beq_iff_eq.2 h32) ?_
            refine W_seq_k fun k8 hk8 => ?_
            refine W_regF [9, 91, 93, 94, 95, 96, 97, 98, 99, 100, 101, 102] fun k kp hk hp => ?_
            refine go ?_
            obtain ⟨y11, hc33, hm⟩ := bd hm
            refine RP (fun _ => ref_there_ok p1 ((p2.getD x7.toNat default).v) ((p2.getD x7.toNat default).n) _ hc33) ?_
            by_cases h34 : y11 = true
            ·rw [if_pos h34] at hm
             have h34b : y11 = true := h34
             have h34c : (!y11) = false := by rw [h34b]; rfl
             refine RunRest_ops ?_
             refine gox (a2 h34b h34c) ?_
             refine hk _ _ ?_
             clear hk hp k kp
             by_cases h35 : x6 < 2
             ·rw [if_pos h35] at hm
              refine W_condt rfl (decide_eq_true h35) ?_
              refine W_rg [1, 2, 3, 7, 8, 103] ?_
              have ho36 := out_eq hm hr1
              subst ho36
              replace hm : some false = some r := hm1
              refine W_ret ?_
              refine KThen_r ?_
              refine KBlock_r ?_
              refine KBlock_r ?_
              refine KThen_r ?_
              refine KLoopM_r ?_
              refine KBlock_r ?_
              refine KJoinM_r ?_
              refine KBody_ret [] ?_
              obtain rfl := Option.some.inj hm
              exact en
             ·rw [if_neg h35] at hm
              refine W_condf rfl (decide_eq_false h35) ?_
              refine W_skip ?_
              refine KThen_n (hk8 _ _ ?_)
              refine W_rn ?_
              refine KBlock_n ?_
              refine KBlock_n ?_
              refine KThen_n (hk2 _ _ ?_)
              refine W_rn ?_
              refine KLoopM_n ((IntKind.wrap .i64 (x6 - 1)), (IntKind.wrap .i64 (x7 + 1))) () hm ?_
              exact ls
            ·rw [if_neg h34] at hm
             have h34b : y11 = false := Bool.eq_false_iff.2 h34
             have h34c : (!y11) = true := by rw [h34b]; rfl
             refine RunRest_ops ?_
             refine gox (a2 h34b h34c) ?_
             refine hk _ _ ?_
             clear hk hp k kp
             refine W_condt rfl rfl ?_
             refine W_rg [1, 2, 3, 7, 8, 103] ?_
             have ho37 := out_eq hm hr1
             subst ho37
             replace hm : some false = some r := hm1
             refine W_ret ?_
             refine KThen_r ?_
             refine KBlock_r ?_
             refine KBlock_r ?_
             refine KThen_r ?_
             refine KLoopM_r ?_
             refine KBlock_r ?_
             refine KJoinM_r ?_
             refine KBody_ret [] ?_
             obtain rfl := Option.some.inj hm
             exact en
           ·rw [if_neg h32] at hm
            refine W_condf rfl (beq_eq_false_iff_ne.2 h32) ?_
            refine W_rg [1, 2, 3, 7, 8, 9, 91] ?_
            have ho38 := out_eq hm hr1
            subst ho38
            replace hm : some false = some r := hm1
            refine W_ret ?_
            refine KBlock_r ?_
            refine KBlock_r ?_
            refine KThen_r ?_
            refine KLoopM_r ?_
            refine KBlock_r ?_
            refine KJoinM_r ?_
            refine KBody_ret [] ?_
            obtain rfl := Option.some.inj hm
            exact en
   ·rw [if_neg h2] at hm
    refine W_condf rfl (decide_eq_false h2) ?_
    refine W_exit ?_
    have ho39 := out_eq hm hr1
    subst ho39
    replace hm : ref_plainTree_j1 p2 x6 = some r := hm1
    refine KThen_x ?_
    refine KLoopM_x ?_
    refine KBlock_hit ?_
    refine KJoinM_n x6 () hm ?_
    exact ls
 ·rintro x1 _ hm
  replace hm : ref_plainTree_j1 p2 x1 = some r := hm
  refine W_eqm ?_
  unfold ref_plainTree_j1 at hm
  by_cases h1 : x1 = 1
  ·rw [if_pos h1] at hm
   have h1b : (x1 == 1) = true := beq_iff_eq.2 h1
   refine W_rgx h1b [1, 7, 106, 107, 108, 109, 110, 111, 112] ?_
   refine W_ret ?_
   refine KBody_ret [] ?_
   obtain rfl := Option.some.inj hm
   exact en
  ·rw [if_neg h1] at hm
   have h1b : (x1 == 1) = false := beq_eq_false_iff_ne.2 h1
   refine W_rgx h1b [1, 7, 106, 107, 108, 109, 110, 111, 112] ?_
   refine W_ret ?_
   refine KBody_ret [] ?_
   obtain rfl := Option.some.inj hm
   exact en
end Pam

/- the walk of ref_loopOK, printed by a program of ours -/
namespace Pam
open Go Go.Proofs
set_option maxRecDepth 100000 in
set_option maxHeartbeats 1000000 in
theorem ref_loopOK_ok (p1 : TLoops) (p2 : TLoop) (r : Bool) (hm : ref_loopOK p1 p2 = some r) : SpecF Try.prog 82 [.a [.int .i64 p1.cells, .tree 1 (p1.put.map (eK .i64)), .tree 1 (p1.get.map (eK .i64)), .tree 6 (p1.steps.map TLoop.enc)], .a [.int .i64 p2.op, .int .i64 p2.k, .int .i64 p2.n, .int .i64 p2.to, .tree 4 (p2.f.map TPush.enc), .tree 4 (p2.e.map TPush.enc)]] (.c (.bool r)) := by
 refine Spec_ofD 81 [.tmp 4] Try.func82 rfl rfl rfl (by kernel_rfl) (by simp) ?_
 refine W_eqf ?_
 unfold ref_loopOK at hm
 refine W_rg [0, 1, 4] ?_
 refine W_seq_k fun k1 hk1 => ?_
 refine W_rg [9, 10] ?_
 by_cases h1 : p2.op = 1
 ·rw [if_pos h1] at hm
  refine W_condt rfl (beq_iff_eq.2 h1) ?_
  refine W_regF [2, 3, 11, 12, 13, 14, 15, 16, 17, 18, 19, 20, 21] fun k kp hk hp => ?_
  refine go ?_
  obtain ⟨y1, hc2, hm⟩ := bd hm
  refine RP (fun _ => ref_there_ok p1 p2.to 1 _ hc2) ?_
  by_cases h3 : y1 = true
  ·rw [if_pos h3] at hm
   have h3b : y1 = true := h3
   refine RunRest_ops ?_
   refine gox h3b ?_
   obtain ⟨y2, hc4, hm⟩ := bd hm
   refine RP (fun _ => ref_plainTree_ok p1 p2.e 1 _ hc4) ?_
   refine RunRest_ops ?_
   refine gox h3b ?_
   refine hk _ _ ?_
   clear hk hp k kp
   refine W_ret ?_
   refine KThen_r ?_
   refine KBody_ret [] ?_
   obtain rfl := Option.some.inj hm
   exact en
  ·rw [if_neg h3] at hm
   have h3b : y1 = false := Bool.eq_false_iff.2 h3
   refine RunRest_ops ?_
   refine gox h3b ?_
   refine hk _ _ ?_
   clear hk hp k kp
   refine W_ret ?_
   refine KThen_r ?_
   refine KBody_ret [] ?_
   obtain rfl := Option.some.inj hm
   exact en
 ·rw [if_neg h1] at hm
  refine W_condf rfl (beq_eq_false_iff_ne.2 h1) ?_
  refine W_skip ?_
  refine KThen_n (hk1 _ _ ?_)
  refine W_seq_k fun k2 hk2 => ?_
  by_cases h5 : p2.op < 1
  ·rw [if_pos h5] at hm
   have h5b : decide (p2.op < 1) = true := decide_eq_true h5
   refine W_rgx h5b [11, 22, 23, 24, 25, 26, 27, 28, 29, 30, 31, 32, 33, 34, 35, 36, 37, 38, 39, 40, 41, 42, 43, 44, 45, 46, 47] ?_
   refine W_condt rfl rfl ?_
   refine W_rg [2, 3, 48] ?_
   refine W_ret ?_
   refine KThen_r ?_
   refine KBody_ret [] ?_
   obtain rfl := Option.some.inj hm
   exact en
  ·rw [if_neg h5] at hm
   have h5b : decide (p2.op < 1) = false := decide_eq_false h5
   by_cases h6 : p2.op > 4
   ·rw [if_pos h6] at hm
    have h6b : decide (p2.op > 4) = true := decide_eq_true h6
    refine W_rgx (a2 h5b h6b) [11, 22, 23, 24, 25, 26, 27, 28, 29, 30, 31, 32, 33, 34, 35, 36, 37, 38, 39, 40, 41, 42, 43, 44, 45, 46, 47] ?_
    refine W_condt rfl rfl ?_
    refine W_rg [2, 3, 48] ?_
    refine W_ret ?_
    refine KThen_r ?_
    refine KBody_ret [] ?_
    obtain rfl := Option.some.inj hm
    exact en
   ·rw [if_neg h6] at hm
    have h6b : decide (p2.op > 4) = false := decide_eq_false h6
    by_cases h7 : p2.n < 1
    ·rw [if_pos h7] at hm
     have h7b : decide (p2.n < 1) = true := decide_eq_true h7
     refine W_rgx (a2 h5b (a2 h6b h7b)) [11, 22, 23, 24, 25, 26, 27, 28, 29, 30, 31, 32, 33, 34, 35, 36, 37, 38, 39, 40, 41, 42, 43, 44, 45, 46, 47] ?_
     refine W_condt rfl rfl ?_
     refine W_rg [2, 3, 48] ?_
     refine W_ret ?_
     refine KThen_r ?_
     refine KBody_ret [] ?_
     obtain rfl := Option.some.inj hm
     exact en
    ·rw [if_neg h7] at hm
     have h7b : decide (p2.n < 1) = false := decide_eq_false h7
     by_cases h8 : p2.n > 300
     ·rw [if_pos h8] at hm
      have h8b : decide (p2.n > 300) = true := decide_eq_true h8
      refine W_rgx (a2 h5b (a2 h6b (a2 h7b h8b))) [11, 22, 23, 24, 25, 26, 27, 28, 29, 30, 31, 32, 33, 34, 35, 36, 37, 38, 39, 40, 41, 42, 43, 44, 45, 46, 47] ?_
      refine W_condt rfl rfl ?_
      refine W_rg [2, 3, 48] ?_
      refine W_ret ?_
      refine KThen_r ?_
      refine KBody_ret [] ?_
      obtain rfl := Option.some.inj hm
      exact en
     ·rw [if_neg h8] at hm
      have h8b : decide (p2.n > 300) = false := decide_eq_false h8
      refine W_regF [11, 22, 23, 24, 25, 26, 27, 28, 29, 30, 31, 32, 33, 34, 35, 36, 37, 38, 39, 40, 41, 42, 43, 44, 45, 46, 47] fun k kp hk hp => ?_
      refine gox (a2 h5b (a2 h6b (a2 h7b h8b))) ?_
      obtain ⟨y3, hc9, hm⟩ := bd hm
      refine RP (fun _ => ref_plainTree_ok p1 p2.e p2.n _ hc9) ?_
      refine RunRest_ops ?_
      refine gox (a2 h5b (a2 h6b (a2 h7b h8b))) ?_
      refine hk _ _ ?_
      clear hk hp k kp
      by_cases h10 : y3 = true
      ·rw [if_pos h10] at hm
       refine W_condf rfl (by rw [show y3 = true from (h10)]; rfl) ?_
       refine W_skip ?_
       refine KThen_n (hk2 _ _ ?_)
       refine W_rg [48, 49, 50] ?_
       refine W_joinM (S := Int) (V := Unit) [5, 51, 52, 53] (fun x4 _ => [(5, .c (.int .i64 x4))]) (fun x4 _ => [.box [.int .i64 p1.cells, .tree 1 (p1.put.map (eK .i64)), .tree 1 (p1.get.map (eK .i64)), .tree 6 (p1.steps.map TLoop.enc)], .box [.int .i64 p2.op, .int .i64 p2.k, .int .i64 p2.n, .int .i64 p2.to, .tree 4 (p2.f.map TPush.enc), .tree 4 (p2.e.map TPush.enc)]]) (fun x4 => ref_loopOK_j1 p1 p2 x4 = some r) ?_ ?_
       ·skip
        refine W_rg [51, 52] ?_
        by_cases h17 : p2.op = 3
        ·rw [if_pos h17] at hm
         refine W_condt rfl (beq_iff_eq.2 h17) ?_
         refine W_rn ?_
         refine KJoinM_n 1 () hm ?_
         exact ls
        ·rw [if_neg h17] at hm
         refine W_condf rfl (beq_eq_false_iff_ne.2 h17) ?_
         refine W_skip ?_
         refine KJoinM_n p2.n () hm ?_
         exact ls
       ·rintro x4 _ hm
        replace hm : ref_loopOK_j1 p1 p2 x4 = some r := hm
        refine W_eqm ?_
        unfold ref_loopOK_j1 at hm
        refine W_regF [6, 7, 54, 55, 56, 57, 58, 59, 60] fun k kp hk hp => ?_
        refine go ?_
        obtain ⟨y5, hc11, hm⟩ := bd hm
        refine RP (fun _ => ref_OpOf_ok p2.k _ hc11) ?_
        refine RunRest_ops ?_
        refine go ?_
        refine hk _ _ ?_
        clear hk hp k kp
        refine W_regF [2, 3, 5, 8, 61, 62, 63, 64, 65, 66, 67, 68, 69, 70, 71, 72, 73, 74, 75, 76, 77, 78, 79, 80] fun k kp hk hp => ?_
        refine go ?_
        obtain ⟨y6, hc12, hm⟩ := bd hm
        refine RP (fun _ => ref_there_ok p1 p2.to x4 _ hc12) ?_
        by_cases h13 : y6 = true
        ·rw [if_pos h13] at hm
         have h13b : y6 = true := h13
         by_cases h14 : p2.op = 2
         ·rw [if_pos h14] at hm
          have h14b : (p2.op == 2) = true := beq_iff_eq.2 h14
          refine RunRest_ops ?_
          refine gox (a2 h13b h14b) ?_
          refine hk _ _ ?_
          clear hk hp k kp
          refine W_ret ?_
          refine KBody_ret [] ?_
          obtain rfl := Option.some.inj hm
          exact en
         ·rw [if_neg h14] at hm
          have h14b : (p2.op == 2) = false := beq_eq_false_iff_ne.2 h14
          by_cases h15 : y5.2.2 = 2
          ·rw [if_pos h15] at hm
           have h15b : (y5.2.2 == 2) = true := beq_iff_eq.2 h15
           refine RunRest_ops ?_
           refine gox (a2 h13b (a2 h14b h15b)) ?_
           obtain ⟨y7, hc16, hm⟩ := bd hm
           refine RP (fun _ => ref_plainTree_ok p1 p2.f 1 _ hc16) ?_
           refine RunRest_ops ?_
           refine gox (a2 h13b (a2 h14b h15b)) ?_
           refine hk _ _ ?_
           clear hk hp k kp
           refine W_ret ?_
           refine KBody_ret [] ?_
           obtain rfl := Option.some.inj hm
           exact en
          ·rw [if_neg h15] at hm
           have h15b : (y5.2.2 == 2) = false := beq_eq_false_iff_ne.2 h15
           refine RunRest_ops ?_
           refine gox (a2 h13b (a2 h14b h15b)) ?_
           refine hk _ _ ?_
           clear hk hp k kp
           refine W_ret ?_
           refine KBody_ret [] ?_
           obtain rfl := Option.some.inj hm
           exact en
        ·rw [if_neg h13] at hm
         have h13b : y6 = false := Bool.eq_false_iff.2 h13
         refine RunRest_ops ?_
         refine gox h13b ?_
         refine hk _ _ ?_
         clear hk hp k kp
         refine W_ret ?_
         refine KBody_ret [] ?_
         obtain rfl := Option.some.inj hm
         exact en
      ·rw [if_neg h10] at hm
       refine W_condt rfl (by rw [show y3 = false from (Bool.eq_false_iff.2 h10)]; rfl) ?_
       refine W_rg [2, 3, 48] ?_
       refine W_ret ?_
       refine KThen_r ?_
       refine KBody_ret [] ?_
       obtain rfl := Option.some.inj hm
       exact en
end Pam

/- the walk of ref_LoopsFault, printed by a program of ours -/
namespace Pam
open Go Go.Proofs
set_option maxRecDepth 100000 in
set_option maxHeartbeats 1000000 in
theorem ref_LoopsFault_ok (p1 : TLoops) (r : TFault) (hm : ref_LoopsFault p1 = some r) : SpecF Try.prog 34 [.a [.int .i64 p1.cells, .tree 1 (p1.put.map (eK .i64)), .tree 1 (p1.get.map (eK .i64)), .tree 6 (p1.steps.map TLoop.enc)]] (.a [.int .i64 ((r).code), .int .i64 ((r).at_)]) := by
 refine Spec_ofD 82 [.cell 2 30] Try.func34 rfl rfl rfl (by kernel_rfl) (by simp) ?_
 refine W_eqf ?_
 unfold ref_LoopsFault at hm
 refine W_rg [0] ?_
 refine W_seq_k fun k1 hk1 => ?_
 by_cases h1 : p1.cells < 1
 ·rw [if_pos h1] at hm
  have h1b : decide (p1.cells < 1) = true := decide_eq_true h1
  refine W_rgx h1b [6, 7, 8, 9, 10, 11, 12] ?_
  refine W_condt rfl rfl ?_
  refine W_regF [1, 13, 14] fun k kp hk hp => ?_
  refine go ?_
  obtain ⟨y1, hc2, hm⟩ := bd hm
  refine RP (fun _ => ref_F_ok 13 (-1) _ hc2) ?_
  refine RunRest_ops ?_
  refine go ?_
  refine hk _ _ ?_
  clear hk hp k kp
  refine W_ret ?_
  refine KThen_r ?_
  refine KBody_ret [] ?_
  obtain rfl := Option.some.inj hm
  exact en
 ·rw [if_neg h1] at hm
  have h1b : decide (p1.cells < 1) = false := decide_eq_false h1
  refine W_rgx h1b [6, 7, 8, 9, 10, 11, 12] ?_
  by_cases h3 : p1.cells > 6000
  ·rw [if_pos h3] at hm
   refine W_condt rfl (decide_eq_true h3) ?_
   refine W_regF [1, 13, 14] fun k kp hk hp => ?_
   refine go ?_
   obtain ⟨y2, hc4, hm⟩ := bd hm
   refine RP (fun _ => ref_F_ok 13 (-1) _ hc4) ?_
   refine RunRest_ops ?_
   refine go ?_
   refine hk _ _ ?_
   clear hk hp k kp
   refine W_ret ?_
   refine KThen_r ?_
   refine KBody_ret [] ?_
   obtain rfl := Option.some.inj hm
   exact en
  ·rw [if_neg h3] at hm
   refine W_condf rfl (decide_eq_false h3) ?_
   refine W_skip ?_
   refine KThen_n (hk1 _ _ ?_)
   refine W_seq_k fun k2 hk2 => ?_
   by_cases h5 : (p1.put.length : Int) > 6000
   ·rw [if_pos h5] at hm
    have h5b : decide ((p1.put.length : Int) > 6000) = true := decide_eq_true h5
    refine W_rgx h5b [13, 15, 16, 17, 18, 19, 20, 21, 22, 23, 24, 25, 26, 27, 28, 29] ?_
    refine W_condt rfl rfl ?_
    refine W_regF [1, 30, 31] fun k kp hk hp => ?_
    refine go ?_
    obtain ⟨y3, hc6, hm⟩ := bd hm
    refine RP (fun _ => ref_F_ok 7 (-1) _ hc6) ?_
    refine RunRest_ops ?_
    refine go ?_
    refine hk _ _ ?_
    clear hk hp k kp
    refine W_ret ?_
    refine KThen_r ?_
    refine KBody_ret [] ?_
    obtain rfl := Option.some.inj hm
    exact en
   ·rw [if_neg h5] at hm
    have h5b : decide ((p1.put.length : Int) > 6000) = false := decide_eq_false h5
    by_cases h7 : (p1.get.length : Int) > 120000
    ·rw [if_pos h7] at hm
     have h7b : decide ((p1.get.length : Int) > 120000) = true := decide_eq_true h7
     refine W_rgx (a2 h5b h7b) [13, 15, 16, 17, 18, 19, 20, 21, 22, 23, 24, 25, 26, 27, 28, 29] ?_
     refine W_condt rfl rfl ?_
     refine W_regF [1, 30, 31] fun k kp hk hp => ?_
     refine go ?_
     obtain ⟨y4, hc8, hm⟩ := bd hm
     refine RP (fun _ => ref_F_ok 7 (-1) _ hc8) ?_
     refine RunRest_ops ?_
     refine go ?_
     refine hk _ _ ?_
     clear hk hp k kp
     refine W_ret ?_
     refine KThen_r ?_
     refine KBody_ret [] ?_
     obtain rfl := Option.some.inj hm
     exact en
    ·rw [if_neg h7] at hm
     have h7b : decide ((p1.get.length : Int) > 120000) = false := decide_eq_false h7
     refine W_rgx (a2 h5b h7b) [13, 15, 16, 17, 18, 19, 20, 21, 22, 23, 24, 25, 26, 27, 28, 29] ?_
     by_cases h9 : (p1.steps.length : Int) > 1200
     ·rw [if_pos h9] at hm
      refine W_condt rfl (decide_eq_true h9) ?_
      refine W_regF [1, 30, 31] fun k kp hk hp => ?_
      refine go ?_
      obtain ⟨y5, hc10, hm⟩ := bd hm
      refine RP (fun _ => ref_F_ok 7 (-1) _ hc10) ?_
      refine RunRest_ops ?_
      refine go ?_
      refine hk _ _ ?_
      clear hk hp k kp
      refine W_ret ?_
      refine KThen_r ?_
      refine KBody_ret [] ?_
      obtain rfl := Option.some.inj hm
      exact en
     ·rw [if_neg h9] at hm
      refine W_condf rfl (decide_eq_false h9) ?_
      refine W_skip ?_
      refine KThen_n (hk2 _ _ ?_)
      refine W_joinM (S := Unit) (V := Unit) [3, 30, 32, 33, 34, 35, 36, 37, 38, 39, 40, 41, 42, 43, 44, 45, 46, 47] (fun _ _ => []) (fun _ _ => [.box [.int .i64 p1.cells, .tree 1 (p1.put.map (eK .i64)), .tree 1 (p1.get.map (eK .i64)), .tree 6 (p1.steps.map TLoop.enc)], .box [.int .i64 0, .int .i64 0]]) (fun _ => ref_LoopsFault_j1 p1 = some r) ?_ ?_
      ·skip
       refine W_rg [30] ?_
       refine W_block ?_
       obtain ⟨o3, hl3, hm3⟩ := bd hm
       refine W_loopM (S := Int) (V := Unit) (O := Unit ⊕ TFault) [3, 32, 33, 34, 35, 36, 37, 38, 39, 40, 41, 42, 43, 44, 45, 46, 47] (fun x20 _ => [(3, .c (.int .i64 x20))]) (fun x20 _ => [.box [.int .i64 p1.cells, .tree 1 (p1.put.map (eK .i64)), .tree 1 (p1.get.map (eK .i64)), .tree 6 (p1.steps.map TLoop.enc)], .box [.int .i64 0, .int .i64 0]]) _ _ () hl3 ?_ ?_
       ·exact ls
       ·rintro x20 _ r3 hm hr3
        replace hm : ref_LoopsFault_l3 p1 x20 = some r3 := hm
        refine W_eqm ?_
        unfold ref_LoopsFault_l3 at hm
        refine W_seq_k fun k7 hk7 => ?_
        refine W_rg [32, 33, 34, 35] ?_
        by_cases h25 : x20 < (p1.put.length : Int)
        ·rw [if_pos h25] at hm
         refine W_condt rfl (decide_eq_true h25) ?_
         refine W_skip ?_
         refine KThen_n (hk7 _ _ ?_)
         refine W_seq_k fun k8 hk8 => ?_
         refine W_block ?_
         obtain ⟨hg26a, hm⟩ := gd hm
         refine W_anyF [36, 39, 40, 41, 42, 43, 44, 45] (by kernel_rfl) [0, 0, 2, 0, 14, 30, 63, 127] [false, false, false, false, false, false, true, true] (by kernel_rfl) fun k hk => ?_
         refine gax (em (eK .i64) p1.put x20.toNat) ?_
         obtain ⟨y21, hc27, hm⟩ := bd hm
         refine AP (fun _ => ref_there_ok p1 (p1.put.getD x20.toNat default) 1 _ hc27) ?_
         refine ga ?_
         refine hk _ _ ?_
         clear hk k
         by_cases h28 : y21 = true
         ·rw [if_pos h28] at hm
          refine W_condf rfl (by rw [show y21 = true from (h28)]; rfl) ?_
          refine W_skip ?_
          refine KBlock_n ?_
          refine KThen_n (hk8 _ _ ?_)
          refine W_rn ?_
          refine KLoopM_n (IntKind.wrap .i64 (x20 + 1)) () hm ?_
          exact ls
         ·rw [if_neg h28] at hm
          refine W_condt rfl (by rw [show y21 = false from (Bool.eq_false_iff.2 h28)]; rfl) ?_
          refine W_regF [1, 3, 46, 47] fun k kp hk hp => ?_
          refine go ?_
          obtain ⟨y22, hc29, hm⟩ := bd hm
          refine RP (fun _ => ref_F_ok 16 (-1) _ hc29) ?_
          refine RunRest_ops ?_
          refine go ?_
          refine hk _ _ ?_
          clear hk hp k kp
          have ho30 := out_eq hm hr3
          subst ho30
          replace hm : some (y22) = some r := hm3
          refine W_ret ?_
          refine KBlock_r ?_
          refine KThen_r ?_
          refine KLoopM_r ?_
          refine KBlock_r ?_
          refine KJoinM_r ?_
          refine KBody_ret [] ?_
          obtain rfl := Option.some.inj hm
          exact en
        ·rw [if_neg h25] at hm
         refine W_condf rfl (decide_eq_false h25) ?_
         refine W_exit ?_
         have ho31 := out_eq hm hr3
         subst ho31
         replace hm : ref_LoopsFault_j1 p1 = some r := hm3
         refine KThen_x ?_
         refine KLoopM_x ?_
         refine KBlock_hit ?_
         refine KJoinM_n () () hm ?_
         exact ls
      ·rintro _ _ hm
       replace hm : ref_LoopsFault_j1 p1 = some r := hm
       refine W_eqm ?_
       unfold ref_LoopsFault_j1 at hm
       refine W_joinM (S := Unit) (V := Unit) [4, 48, 49, 50, 51, 52, 53, 54, 55, 56, 57, 58, 59, 60, 61, 62, 63] (fun _ _ => []) (fun _ _ => [.box [.int .i64 p1.cells, .tree 1 (p1.put.map (eK .i64)), .tree 1 (p1.get.map (eK .i64)), .tree 6 (p1.steps.map TLoop.enc)], .box [.int .i64 0, .int .i64 0]]) (fun _ => ref_LoopsFault_j2 p1 = some r) ?_ ?_
       ·skip
        refine W_rg [] ?_
        refine W_block ?_
        obtain ⟨o2, hl2, hm2⟩ := bd hm
        refine W_loopM (S := Int) (V := Unit) (O := Unit ⊕ TFault) [4, 48, 49, 50, 51, 52, 53, 54, 55, 56, 57, 58, 59, 60, 61, 62, 63] (fun x14 _ => [(4, .c (.int .i64 x14))]) (fun x14 _ => [.box [.int .i64 p1.cells, .tree 1 (p1.put.map (eK .i64)), .tree 1 (p1.get.map (eK .i64)), .tree 6 (p1.steps.map TLoop.enc)], .box [.int .i64 0, .int .i64 0]]) _ _ () hl2 ?_ ?_
        ·exact ls
        ·rintro x14 _ r2 hm hr2
         replace hm : ref_LoopsFault_l2 p1 x14 = some r2 := hm
         refine W_eqm ?_
         unfold ref_LoopsFault_l2 at hm
         refine W_seq_k fun k5 hk5 => ?_
         refine W_rg [48, 49, 50, 51] ?_
         by_cases h18 : x14 < (p1.get.length : Int)
         ·rw [if_pos h18] at hm
          refine W_condt rfl (decide_eq_true h18) ?_
          refine W_skip ?_
          refine KThen_n (hk5 _ _ ?_)
          refine W_seq_k fun k6 hk6 => ?_
          refine W_block ?_
          obtain ⟨hg19a, hm⟩ := gd hm
          refine W_anyF [52, 55, 56, 57, 58, 59, 60, 61] (by kernel_rfl) [0, 0, 2, 0, 14, 30, 63, 127] [false, false, false, false, false, false, true, true] (by kernel_rfl) fun k hk => ?_
          refine gax (em (eK .i64) p1.get x14.toNat) ?_
          obtain ⟨y15, hc20, hm⟩ := bd hm
          refine AP (fun _ => ref_there_ok p1 (p1.get.getD x14.toNat default) 1 _ hc20) ?_
          refine ga ?_
          refine hk _ _ ?_
          clear hk k
          by_cases h21 : y15 = true
          ·rw [if_pos h21] at hm
           refine W_condf rfl (by rw [show y15 = true from (h21)]; rfl) ?_
           refine W_skip ?_
           refine KBlock_n ?_
           refine KThen_n (hk6 _ _ ?_)
           refine W_rn ?_
           refine KLoopM_n (IntKind.wrap .i64 (x14 + 1)) () hm ?_
           exact ls
          ·rw [if_neg h21] at hm
           refine W_condt rfl (by rw [show y15 = false from (Bool.eq_false_iff.2 h21)]; rfl) ?_
           refine W_regF [1, 4, 62, 63] fun k kp hk hp => ?_
           refine go ?_
           obtain ⟨y16, hc22, hm⟩ := bd hm
           refine RP (fun _ => ref_F_ok 16 (-1) _ hc22) ?_
           refine RunRest_ops ?_
           refine go ?_
           refine hk _ _ ?_
           clear hk hp k kp
           have ho23 := out_eq hm hr2
           subst ho23
           replace hm : some (y16) = some r := hm2
           refine W_ret ?_
           refine KBlock_r ?_
           refine KThen_r ?_
           refine KLoopM_r ?_
           refine KBlock_r ?_
           refine KJoinM_r ?_
           refine KBody_ret [] ?_
           obtain rfl := Option.some.inj hm
           exact en
         ·rw [if_neg h18] at hm
          refine W_condf rfl (decide_eq_false h18) ?_
          refine W_exit ?_
          have ho24 := out_eq hm hr2
          subst ho24
          replace hm : ref_LoopsFault_j2 p1 = some r := hm2
          refine KThen_x ?_
          refine KLoopM_x ?_
          refine KBlock_hit ?_
          refine KJoinM_n () () hm ?_
          exact ls
       ·rintro _ _ hm
        replace hm : ref_LoopsFault_j2 p1 = some r := hm
        refine W_eqm ?_
        unfold ref_LoopsFault_j2 at hm
        refine W_joinM (S := Unit) (V := Unit) [1, 5, 64, 65, 66, 67, 68, 69, 70, 71, 72, 73, 74, 75, 76, 77, 78, 79, 80] (fun _ _ => []) (fun _ _ => [.box [.int .i64 p1.cells, .tree 1 (p1.put.map (eK .i64)), .tree 1 (p1.get.map (eK .i64)), .tree 6 (p1.steps.map TLoop.enc)], .box [.int .i64 0, .int .i64 0]]) (fun _ => ref_LoopsFault_j3 = some r) ?_ ?_
        ·skip
         refine W_rg [] ?_
         refine W_block ?_
         obtain ⟨o1, hl1, hm1⟩ := bd hm
         refine W_loopM (S := Int) (V := Unit) (O := Unit ⊕ TFault) [5, 64, 65, 66, 67, 68, 69, 70, 71, 72, 73, 74, 75, 76, 77, 78, 79, 80] (fun x8 _ => [(5, .c (.int .i64 x8))]) (fun x8 _ => [.box [.int .i64 p1.cells, .tree 1 (p1.put.map (eK .i64)), .tree 1 (p1.get.map (eK .i64)), .tree 6 (p1.steps.map TLoop.enc)], .box [.int .i64 0, .int .i64 0]]) _ _ () hl1 ?_ ?_
         ·exact ls
         ·rintro x8 _ r1 hm hr1
          replace hm : ref_LoopsFault_l1 p1 x8 = some r1 := hm
          refine W_eqm ?_
          unfold ref_LoopsFault_l1 at hm
          refine W_seq_k fun k3 hk3 => ?_
          refine W_rg [64, 65, 66, 67] ?_
          by_cases h11 : x8 < (p1.steps.length : Int)
          ·rw [if_pos h11] at hm
           refine W_condt rfl (decide_eq_true h11) ?_
           refine W_skip ?_
           refine KThen_n (hk3 _ _ ?_)
           refine W_seq_k fun k4 hk4 => ?_
           refine W_block ?_
           obtain ⟨hg12a, hm⟩ := gd hm
           refine W_anyF [68, 71, 72, 73, 74, 75, 76, 77] (by kernel_rfl) [0, 0, 2, 0, 14, 30, 63, 127] [false, false, false, false, false, false, true, true] (by kernel_rfl) fun k hk => ?_
           refine gax (em TLoop.enc p1.steps x8.toNat) ?_
           obtain ⟨y9, hc13, hm⟩ := bd hm
           refine AP (fun _ => ref_loopOK_ok p1 (p1.steps.getD x8.toNat default) _ hc13) ?_
           refine ga ?_
           refine hk _ _ ?_
           clear hk k
           by_cases h14 : y9 = true
           ·rw [if_pos h14] at hm
            refine W_condf rfl (by rw [show y9 = true from (h14)]; rfl) ?_
            refine W_skip ?_
            refine KBlock_n ?_
            refine KThen_n (hk4 _ _ ?_)
            refine W_rn ?_
            refine KLoopM_n (IntKind.wrap .i64 (x8 + 1)) () hm ?_
            exact ls
           ·rw [if_neg h14] at hm
            refine W_condt rfl (by rw [show y9 = false from (Bool.eq_false_iff.2 h14)]; rfl) ?_
            refine W_regF [1, 5, 78, 79, 80] fun k kp hk hp => ?_
            refine go ?_
            obtain ⟨y10, hc15, hm⟩ := bd hm
            refine RP (fun _ => ref_F_ok 4 x8 _ hc15) ?_
            refine RunRest_ops ?_
            refine go ?_
            refine hk _ _ ?_
            clear hk hp k kp
            have ho16 := out_eq hm hr1
            subst ho16
            replace hm : some (y10) = some r := hm1
            refine W_ret ?_
            refine KBlock_r ?_
            refine KThen_r ?_
            refine KLoopM_r ?_
            refine KBlock_r ?_
            refine KJoinM_r ?_
            refine KBody_ret [] ?_
            obtain rfl := Option.some.inj hm
            exact en
          ·rw [if_neg h11] at hm
           refine W_condf rfl (decide_eq_false h11) ?_
           refine W_exit ?_
           have ho17 := out_eq hm hr1
           subst ho17
           replace hm : ref_LoopsFault_j3 = some r := hm1
           refine KThen_x ?_
           refine KLoopM_x ?_
           refine KBlock_hit ?_
           refine KJoinM_n () () hm ?_
           exact ls
        ·rintro _ _ hm
         replace hm : ref_LoopsFault_j3 = some r := hm
         refine W_eqm ?_
         unfold ref_LoopsFault_j3 at hm
         refine W_rg [81] ?_
         refine W_ret ?_
         refine KBody_ret [] ?_
         obtain rfl := Option.some.inj hm
         exact en
end Pam

/- the walk of ref_BeginLoops, printed by a program of ours -/
namespace Pam
open Go Go.Proofs
set_option maxRecDepth 100000 in
set_option maxHeartbeats 1000000 in
theorem ref_BeginLoops_ok (p1 : TLoops) (r : (Int × (List Int) × (List Int) × (List TLoop) × (List Int))) (hm : ref_BeginLoops p1 = some r) : Spec Try.prog 38 [.a [.int .i64 p1.cells, .tree 1 (p1.put.map (eK .i64)), .tree 1 (p1.get.map (eK .i64)), .tree 6 (p1.steps.map TLoop.enc)]] [] (fun p σ => (p = .c (.optr 0 0) ∧ σ = [.box [.int .i64 r.1, .tree 1 (r.2.1.map (eK .i64)), .tree 1 (r.2.2.1.map (eK .i64)), .tree 6 (r.2.2.2.1.map TLoop.enc), .osl 1 1 0 r.2.2.2.2.length], .arr 1 1 2 (r.2.2.2.2.map (eK .i64))])) (fun _ _ => False) := by
 refine Spec_ofD 9 [.tmp 2] Try.func38 rfl rfl rfl (by kernel_rfl) (by simp) ?_
 refine W_eqf ?_
 unfold ref_BeginLoops at hm
 refine W_rg [0, 2] ?_
 obtain ⟨⟨hg1a, ⟨hg1bx, hg1by⟩⟩, hm⟩ := gd hm
 refine W_ag [1, 3, 4, 5, 6, 7, 8] [0, 0, 2, 6, 15, 31, 63] [false, false, false, false, true, true, true] ?_
 refine W_eqa [.box [.int .i64 p1.cells, .tree 1 (p1.put.map (eK .i64)), .tree 1 (p1.get.map (eK .i64)), .tree 6 (p1.steps.map TLoop.enc)], .arr 1 0 2 ((List.replicate p1.cells.toNat 0).map (eK .i64)), .box [.int .i64 p1.cells, .tree 1 (p1.put.map (eK .i64)), .tree 1 (p1.get.map (eK .i64)), .tree 6 (p1.steps.map TLoop.enc), .osl 1 0 0 p1.cells.toNat]] ?_
 refine W_ghost (Ghost_new 1 2 (by decide)) ?_
 simp only [bZ, bL, reduceIte, ↓reduceIte, reduceCtorEq, Int.reduceToNat, Nat.reduceDiv, Nat.reduceMod, Nat.reduceLT, Nat.reduceLeDiff, Nat.reduceAdd, Nat.reduceSub, Nat.reduceMul, Nat.reduceEqDiff, Nat.reduceBEq, Nat.reduceBNe, Nat.reduceGT, List.length_cons, List.length_nil, List.length_append, List.cons_append, List.nil_append]
 refine W_gh (Ghost_mv 3 1 (by decide) rfl rfl) ?_
 refine W_gh (Ghost_dead 0 (by simp)) ?_
 refine W_gh (Ghost_dn 0 2 (by decide) (Nat.le_of_ble_eq_true rfl) (Nat.le_of_ble_eq_true rfl) rfl rfl) ?_
 refine W_gh (Ghost_dn 1 3 (by decide) (Nat.le_of_ble_eq_true rfl) (Nat.le_of_ble_eq_true rfl) rfl rfl) ?_
 refine W_ret ?_
 refine KBody_ret [.box [.int .i64 p1.cells, .tree 1 (p1.put.map (eK .i64)), .tree 1 (p1.get.map (eK .i64)), .tree 6 (p1.steps.map TLoop.enc), .osl 1 1 0 p1.cells.toNat], .arr 1 1 2 ((List.replicate p1.cells.toNat 0).map (eK .i64))] ?_
 obtain rfl := Option.some.inj hm
 exact en
end Pam

/- the walk of ref_SameInts, printed by a program of ours -/
namespace Pam
open Go Go.Proofs
set_option maxRecDepth 100000 in
set_option maxHeartbeats 1000000 in
theorem ref_SameInts_ok (p1 : List Int) (p2 : List Int) (r : Bool) (hm : ref_SameInts p1 p2 = some r) : SpecF Try.prog 67 [.c (.tree 1 (p1.map (eK .i64))), .c (.tree 1 (p2.map (eK .i64)))] (.c (.bool r)) := by
 refine Spec_ofD 26 [.tmp 4] Try.func67 rfl rfl rfl (by kernel_rfl) (by simp) ?_
 refine W_eqf ?_
 unfold ref_SameInts at hm
 refine W_rg [4] ?_
 refine W_seq_k fun k1 hk1 => ?_
 refine W_rg [6, 7, 8, 9] ?_
 by_cases h1 : ¬ (p1.length : Int) = (p2.length : Int)
 ·rw [if_pos h1] at hm
  refine W_condt rfl (bne_iff_ne.2 h1) ?_
  refine W_rg [0, 1, 10] ?_
  refine W_ret ?_
  refine KThen_r ?_
  refine KBody_ret [] ?_
  obtain rfl := Option.some.inj hm
  exact en
 ·rw [if_neg h1] at hm
  refine W_condf rfl (bne_eq_false_iff_eq.2 (Decidable.not_not.1 h1)) ?_
  refine W_skip ?_
  refine KThen_n (hk1 _ _ ?_)
  refine W_joinM (S := Unit) (V := Unit) [0, 1, 4, 5, 10, 11, 12, 13, 14, 15, 16, 17, 18, 19, 20, 21, 22, 23, 24, 25] (fun _ _ => []) (fun _ _ => []) (fun _ => ref_SameInts_j1 = some r) ?_ ?_
  ·skip
   refine W_rg [10] ?_
   refine W_block ?_
   obtain ⟨o1, hl1, hm1⟩ := bd hm
   refine W_loopM (S := Int) (V := Unit) (O := Unit ⊕ Bool) [4, 5, 11, 12, 13, 14, 15, 16, 17, 18, 19, 20, 21, 22, 23, 24, 25] (fun x3 _ => [(5, .c (.int .i64 x3))]) (fun x3 _ => []) _ _ () hl1 ?_ ?_
   ·exact ls
   ·rintro x3 _ r1 hm hr1
    replace hm : ref_SameInts_l1 p1 p2 x3 = some r1 := hm
    refine W_eqm ?_
    unfold ref_SameInts_l1 at hm
    refine W_seq_k fun k2 hk2 => ?_
    refine W_rg [11, 12, 13] ?_
    by_cases h2 : x3 < (p1.length : Int)
    ·rw [if_pos h2] at hm
     refine W_condt rfl (decide_eq_true h2) ?_
     refine W_skip ?_
     refine KThen_n (hk2 _ _ ?_)
     refine W_seq_k fun k3 hk3 => ?_
     refine W_block ?_
     obtain ⟨⟨hg3a, hg3b⟩, hm⟩ := gd hm
     refine W_agx (a2 (em (eK .i64) p1 x3.toNat) (em (eK .i64) p2 x3.toNat)) [14, 17, 18, 19, 20, 21, 22, 23, 24] [0, 0, 3, 7, 0, 0, 48, 112, 255] [false, false, false, false, false, false, false, false, true] ?_
     by_cases h4 : ¬ (p1.getD x3.toNat default) = (p2.getD x3.toNat default)
     ·rw [if_pos h4] at hm
      refine W_condt rfl (bne_iff_ne.2 h4) ?_
      refine W_rg [0, 1, 5, 25] ?_
      have ho5 := out_eq hm hr1
      subst ho5
      replace hm : some false = some r := hm1
      refine W_ret ?_
      refine KBlock_r ?_
      refine KThen_r ?_
      refine KLoopM_r ?_
      refine KBlock_r ?_
      refine KJoinM_r ?_
      refine KBody_ret [] ?_
      obtain rfl := Option.some.inj hm
      exact en
     ·rw [if_neg h4] at hm
      refine W_condf rfl (bne_eq_false_iff_eq.2 (Decidable.not_not.1 h4)) ?_
      refine W_skip ?_
      refine KBlock_n ?_
      refine KThen_n (hk3 _ _ ?_)
      refine W_rn ?_
      refine KLoopM_n (IntKind.wrap .i64 (x3 + 1)) () hm ?_
      exact ls
    ·rw [if_neg h2] at hm
     refine W_condf rfl (decide_eq_false h2) ?_
     refine W_exit ?_
     have ho6 := out_eq hm hr1
     subst ho6
     replace hm : ref_SameInts_j1 = some r := hm1
     refine KThen_x ?_
     refine KLoopM_x ?_
     refine KBlock_hit ?_
     refine KJoinM_n () () hm ?_
     exact ls
  ·rintro _ _ hm
   replace hm : ref_SameInts_j1 = some r := hm
   refine W_eqm ?_
   unfold ref_SameInts_j1 at hm
   refine W_rg [] ?_
   refine W_ret ?_
   refine KBody_ret [] ?_
   obtain rfl := Option.some.inj hm
   exact en
end Pam

/- the walk of ref_samePush, printed by a program of ours -/
namespace Pam
open Go Go.Proofs
set_option maxRecDepth 100000 in
set_option maxHeartbeats 1000000 in
theorem ref_samePush_ok (p1 : List TPush) (p2 : List TPush) (r : Bool) (hm : ref_samePush p1 p2 = some r) : SpecF Try.prog 89 [.c (.tree 4 (p1.map TPush.enc)), .c (.tree 4 (p2.map TPush.enc))] (.c (.bool r)) := by
 refine Spec_ofD 26 [.tmp 4] Try.func89 rfl rfl rfl (by kernel_rfl) (by simp) ?_
 refine W_eqf ?_
 unfold ref_samePush at hm
 refine W_rg [4] ?_
 refine W_seq_k fun k1 hk1 => ?_
 refine W_rg [6, 7, 8, 9] ?_
 by_cases h1 : ¬ (p1.length : Int) = (p2.length : Int)
 ·rw [if_pos h1] at hm
  refine W_condt rfl (bne_iff_ne.2 h1) ?_
  refine W_rg [0, 1, 10] ?_
  refine W_ret ?_
  refine KThen_r ?_
  refine KBody_ret [] ?_
  obtain rfl := Option.some.inj hm
  exact en
 ·rw [if_neg h1] at hm
  refine W_condf rfl (bne_eq_false_iff_eq.2 (Decidable.not_not.1 h1)) ?_
  refine W_skip ?_
  refine KThen_n (hk1 _ _ ?_)
  refine W_joinM (S := Unit) (V := Unit) [0, 1, 4, 5, 10, 11, 12, 13, 14, 15, 16, 17, 18, 19, 20, 21, 22, 23, 24, 25] (fun _ _ => []) (fun _ _ => []) (fun _ => ref_samePush_j1 = some r) ?_ ?_
  ·skip
   refine W_rg [10] ?_
   refine W_block ?_
   obtain ⟨o1, hl1, hm1⟩ := bd hm
   refine W_loopM (S := Int) (V := Unit) (O := Unit ⊕ Bool) [4, 5, 11, 12, 13, 14, 15, 16, 17, 18, 19, 20, 21, 22, 23, 24, 25] (fun x3 _ => [(5, .c (.int .i64 x3))]) (fun x3 _ => []) _ _ () hl1 ?_ ?_
   ·exact ls
   ·rintro x3 _ r1 hm hr1
    replace hm : ref_samePush_l1 p1 p2 x3 = some r1 := hm
    refine W_eqm ?_
    unfold ref_samePush_l1 at hm
    refine W_seq_k fun k2 hk2 => ?_
    refine W_rg [11, 12, 13] ?_
    by_cases h2 : x3 < (p1.length : Int)
    ·rw [if_pos h2] at hm
     refine W_condt rfl (decide_eq_true h2) ?_
     refine W_skip ?_
     refine KThen_n (hk2 _ _ ?_)
     refine W_seq_k fun k3 hk3 => ?_
     refine W_block ?_
     obtain ⟨⟨hg3a, hg3b⟩, hm⟩ := gd hm
     refine W_agx (a2 (em TPush.enc p1 x3.toNat) (em TPush.enc p2 x3.toNat)) [14, 17, 18, 19, 20, 21, 22, 23, 24] [0, 0, 3, 7, 0, 0, 48, 112, 255] [false, false, false, false, false, false, false, false, true] ?_
     by_cases h4 : ((p1.getD x3.toNat default).op) = ((p2.getD x3.toNat default).op) ∧ ((p1.getD x3.toNat default).k) = ((p2.getD x3.toNat default).k) ∧ ((p1.getD x3.toNat default).v) = ((p2.getD x3.toNat default).v) ∧ ((p1.getD x3.toNat default).n) = ((p2.getD x3.toNat default).n)
     ·rw [if_pos h4] at hm
      refine W_condf rfl (by rw [show ((((p1.getD x3.toNat default).op) == ((p2.getD x3.toNat default).op)) && ((((p1.getD x3.toNat default).k) == ((p2.getD x3.toNat default).k)) && ((((p1.getD x3.toNat default).v) == ((p2.getD x3.toNat default).v)) && (((p1.getD x3.toNat default).n) == ((p2.getD x3.toNat default).n))))) = true from (by simpa [Bool.and_eq_true] using h4)]; rfl) ?_
      refine W_skip ?_
      refine KBlock_n ?_
      refine KThen_n (hk3 _ _ ?_)
      refine W_rn ?_
      refine KLoopM_n (IntKind.wrap .i64 (x3 + 1)) () hm ?_
      exact ls
     ·rw [if_neg h4] at hm
      refine W_condt rfl (by rw [show ((((p1.getD x3.toNat default).op) == ((p2.getD x3.toNat default).op)) && ((((p1.getD x3.toNat default).k) == ((p2.getD x3.toNat default).k)) && ((((p1.getD x3.toNat default).v) == ((p2.getD x3.toNat default).v)) && (((p1.getD x3.toNat default).n) == ((p2.getD x3.toNat default).n))))) = false from (Bool.eq_false_iff.2 (fun hh => h4 (by simpa [Bool.and_eq_true] using hh)))]; rfl) ?_
      refine W_rg [0, 1, 5, 25] ?_
      have ho5 := out_eq hm hr1
      subst ho5
      replace hm : some false = some r := hm1
      refine W_ret ?_
      refine KBlock_r ?_
      refine KThen_r ?_
      refine KLoopM_r ?_
      refine KBlock_r ?_
      refine KJoinM_r ?_
      refine KBody_ret [] ?_
      obtain rfl := Option.some.inj hm
      exact en
    ·rw [if_neg h2] at hm
     refine W_condf rfl (decide_eq_false h2) ?_
     refine W_exit ?_
     have ho6 := out_eq hm hr1
     subst ho6
     replace hm : ref_samePush_j1 = some r := hm1
     refine KThen_x ?_
     refine KLoopM_x ?_
     refine KBlock_hit ?_
     refine KJoinM_n () () hm ?_
     exact ls
  ·rintro _ _ hm
   replace hm : ref_samePush_j1 = some r := hm
   refine W_eqm ?_
   unfold ref_samePush_j1 at hm
   refine W_rg [] ?_
   refine W_ret ?_
   refine KBody_ret [] ?_
   obtain rfl := Option.some.inj hm
   exact en
end Pam

/- the walk of ref_SameLoops, printed by a program of ours -/
namespace Pam
open Go Go.Proofs
set_option maxRecDepth 100000 in
set_option maxHeartbeats 1000000 in
theorem ref_SameLoops_ok (p1 : TLoops) (p2 : TLoops) (r : Bool) (hm : ref_SameLoops p1 p2 = some r) : SpecF Try.prog 43 [.a [.int .i64 p1.cells, .tree 1 (p1.put.map (eK .i64)), .tree 1 (p1.get.map (eK .i64)), .tree 6 (p1.steps.map TLoop.enc)], .a [.int .i64 p2.cells, .tree 1 (p2.put.map (eK .i64)), .tree 1 (p2.get.map (eK .i64)), .tree 6 (p2.steps.map TLoop.enc)]] (.c (.bool r)) := by
 refine Spec_ofD 97 [.tmp 4] Try.func43 rfl rfl rfl (by kernel_rfl) (by simp) ?_
 refine W_eqf ?_
 unfold ref_SameLoops at hm
 refine W_rg [0, 1, 4] ?_
 refine W_seq_k fun k1 hk1 => ?_
 by_cases h1 : ¬ p1.cells = p2.cells
 ·rw [if_pos h1] at hm
  have h1b : (p1.cells != p2.cells) = true := bne_iff_ne.2 h1
  refine W_rgx h1b [8, 9, 10, 11, 12, 13, 14, 15, 16, 17, 18, 19, 20, 21, 22, 23, 24, 25, 26, 27, 28, 29, 30, 31, 32, 33, 34, 35, 36] ?_
  refine W_condt rfl rfl ?_
  refine W_rg [2, 3, 37] ?_
  refine W_ret ?_
  refine KThen_r ?_
  refine KBody_ret [] ?_
  obtain rfl := Option.some.inj hm
  exact en
 ·rw [if_neg h1] at hm
  have h1b : (p1.cells != p2.cells) = false := bne_eq_false_iff_eq.2 (Decidable.not_not.1 h1)
  refine W_regF [8, 9, 10, 11, 12, 13, 14, 15, 16, 17, 18, 19, 20, 21, 22, 23, 24, 25, 26, 27, 28, 29, 30, 31, 32, 33, 34, 35, 36] fun k kp hk hp => ?_
  refine gox h1b ?_
  obtain ⟨y1, hc2, hm⟩ := bd hm
  refine RP (fun _ => ref_SameInts_ok p1.put p2.put _ hc2) ?_
  by_cases h3 : y1 = true
  ·rw [if_pos h3] at hm
   have h3b : y1 = true := h3
   have h3c : (!y1) = false := by rw [h3b]; rfl
   refine RunRest_ops ?_
   refine gox (a2 h1b (a2 h3b h3c)) ?_
   obtain ⟨y2, hc4, hm⟩ := bd hm
   refine RP (fun _ => ref_SameInts_ok p1.get p2.get _ hc4) ?_
   by_cases h5 : y2 = true
   ·rw [if_pos h5] at hm
    have h5b : y2 = true := h5
    have h5c : (!y2) = false := by rw [h5b]; rfl
    refine RunRest_ops ?_
    refine gox (a2 h1b (a2 h3b (a2 h3c (a2 h5b h5c)))) ?_
    refine hk _ _ ?_
    clear hk hp k kp
    by_cases h6 : ¬ (p1.steps.length : Int) = (p2.steps.length : Int)
    ·rw [if_pos h6] at hm
     refine W_condt rfl (bne_iff_ne.2 h6) ?_
     refine W_rg [2, 3, 37] ?_
     refine W_ret ?_
     refine KThen_r ?_
     refine KBody_ret [] ?_
     obtain rfl := Option.some.inj hm
     exact en
    ·rw [if_neg h6] at hm
     refine W_condf rfl (bne_eq_false_iff_eq.2 (Decidable.not_not.1 h6)) ?_
     refine W_skip ?_
     refine KThen_n (hk1 _ _ ?_)
     refine W_joinM (S := Unit) (V := Unit) [2, 3, 4, 5, 6, 7, 37, 38, 39, 40, 41, 42, 43, 44, 45, 46, 47, 48, 49, 50, 51, 52, 53, 54, 55, 56, 57, 58, 59, 60, 61, 62, 63, 64, 65, 66, 67, 68, 69, 70, 71, 72, 73, 74, 75, 76, 77, 78, 79, 80, 81, 82, 83, 84, 85, 86, 87, 88, 89, 90, 91, 92, 93, 94, 95, 96] (fun _ _ => []) (fun _ _ => [.box [.int .i64 p1.cells, .tree 1 (p1.put.map (eK .i64)), .tree 1 (p1.get.map (eK .i64)), .tree 6 (p1.steps.map TLoop.enc)], .box [.int .i64 p2.cells, .tree 1 (p2.put.map (eK .i64)), .tree 1 (p2.get.map (eK .i64)), .tree 6 (p2.steps.map TLoop.enc)]]) (fun _ => ref_SameLoops_j1 = some r) ?_ ?_
     ·skip
      refine W_rg [37] ?_
      refine W_block ?_
      obtain ⟨o1, hl1, hm1⟩ := bd hm
      refine W_loopM (S := Int) (V := Unit) (O := Unit ⊕ Bool) [4, 5, 6, 7, 38, 39, 40, 41, 42, 43, 44, 45, 46, 47, 48, 49, 50, 51, 52, 53, 54, 55, 56, 57, 58, 59, 60, 61, 62, 63, 64, 65, 66, 67, 68, 69, 70, 71, 72, 73, 74, 75, 76, 77, 78, 79, 80, 81, 82, 83, 84, 85, 86, 87, 88, 89, 90, 91, 92, 93, 94, 95, 96] (fun x5 _ => [(5, .c (.int .i64 x5))]) (fun x5 _ => [.box [.int .i64 p1.cells, .tree 1 (p1.put.map (eK .i64)), .tree 1 (p1.get.map (eK .i64)), .tree 6 (p1.steps.map TLoop.enc)], .box [.int .i64 p2.cells, .tree 1 (p2.put.map (eK .i64)), .tree 1 (p2.get.map (eK .i64)), .tree 6 (p2.steps.map TLoop.enc)]]) _ _ () hl1 ?_ ?_
      ·exact ls
      ·rintro x5 _ r1 hm hr1
       replace hm : ref_SameLoops_l1 p1 p2 x5 = some r1 := hm
       refine W_eqm ?_
       unfold ref_SameLoops_l1 at hm
       refine W_seq_k fun k2 hk2 => ?_
       refine W_rg [38, 39, 40, 41] ?_
       by_cases h7 : x5 < (p1.steps.length : Int)
       ·rw [if_pos h7] at hm
        refine W_condt rfl (decide_eq_true h7) ?_
        refine W_skip ?_
        refine KThen_n (hk2 _ _ ?_)
        refine W_seq_k fun k3 hk3 => ?_
        refine W_block ?_
        obtain ⟨⟨hg8a, hg8b⟩, hm⟩ := gd hm
        refine W_lateS [42, 45, 46, 47, 48, 49, 50, 51, 52, 53, 54] [6, 7] [0, 1, 0, 7, 15, 0, 32, 0, 224, 480, 0, 0, 3103, 8191] [false, false, false, false, false, false, false, false, false, false, false, false, false, true] (by kernel_rfl) (by kernel_rfl) fun k kp hk => ?_
        simp only [wirt, tail2, fills, wOne, hush, hushS, inL, List.cons_append, List.nil_append, reduceIte, ↓reduceIte, Nat.reduceEqDiff, reduceCtorEq]
        refine gax (a2 (em TLoop.enc p1.steps x5.toNat) (em TLoop.enc p2.steps x5.toNat)) ?_
        refine go ?_
        refine hk _ _ ?_
        clear hk k kp
        by_cases h9 : ¬ ((p1.steps.getD x5.toNat default).op) = ((p2.steps.getD x5.toNat default).op)
        ·rw [if_pos h9] at hm
         have h9b : (((p1.steps.getD x5.toNat default).op) != ((p2.steps.getD x5.toNat default).op)) = true := bne_iff_ne.2 h9
         refine W_rgx h9b [6, 7, 55, 56, 57, 58, 59, 60, 61, 62, 63, 64, 65, 66, 67, 68, 69, 70, 71, 72, 73, 74, 75, 76, 77, 78, 79, 80, 81, 82, 83, 84, 85, 86, 87, 88, 89, 90, 91, 92, 93, 94, 95] ?_
         refine W_condt rfl rfl ?_
         refine W_rg [2, 3, 5, 96] ?_
         have ho10 := out_eq hm hr1
         subst ho10
         replace hm : some false = some r := hm1
         refine W_ret ?_
         refine KBlock_r ?_
         refine KThen_r ?_
         refine KLoopM_r ?_
         refine KBlock_r ?_
         refine KJoinM_r ?_
         refine KBody_ret [] ?_
         obtain rfl := Option.some.inj hm
         exact en
        ·rw [if_neg h9] at hm
         have h9b : (((p1.steps.getD x5.toNat default).op) != ((p2.steps.getD x5.toNat default).op)) = false := bne_eq_false_iff_eq.2 (Decidable.not_not.1 h9)
         by_cases h11 : ¬ ((p1.steps.getD x5.toNat default).k) = ((p2.steps.getD x5.toNat default).k)
         ·rw [if_pos h11] at hm
          have h11b : (((p1.steps.getD x5.toNat default).k) != ((p2.steps.getD x5.toNat default).k)) = true := bne_iff_ne.2 h11
          refine W_rgx (a2 h9b h11b) [6, 7, 55, 56, 57, 58, 59, 60, 61, 62, 63, 64, 65, 66, 67, 68, 69, 70, 71, 72, 73, 74, 75, 76, 77, 78, 79, 80, 81, 82, 83, 84, 85, 86, 87, 88, 89, 90, 91, 92, 93, 94, 95] ?_
          refine W_condt rfl rfl ?_
          refine W_rg [2, 3, 5, 96] ?_
          have ho12 := out_eq hm hr1
          subst ho12
          replace hm : some false = some r := hm1
          refine W_ret ?_
          refine KBlock_r ?_
          refine KThen_r ?_
          refine KLoopM_r ?_
          refine KBlock_r ?_
          refine KJoinM_r ?_
          refine KBody_ret [] ?_
          obtain rfl := Option.some.inj hm
          exact en
         ·rw [if_neg h11] at hm
          have h11b : (((p1.steps.getD x5.toNat default).k) != ((p2.steps.getD x5.toNat default).k)) = false := bne_eq_false_iff_eq.2 (Decidable.not_not.1 h11)
          by_cases h13 : ¬ ((p1.steps.getD x5.toNat default).n) = ((p2.steps.getD x5.toNat default).n)
          ·rw [if_pos h13] at hm
           have h13b : (((p1.steps.getD x5.toNat default).n) != ((p2.steps.getD x5.toNat default).n)) = true := bne_iff_ne.2 h13
           refine W_rgx (a2 h9b (a2 h11b h13b)) [6, 7, 55, 56, 57, 58, 59, 60, 61, 62, 63, 64, 65, 66, 67, 68, 69, 70, 71, 72, 73, 74, 75, 76, 77, 78, 79, 80, 81, 82, 83, 84, 85, 86, 87, 88, 89, 90, 91, 92, 93, 94, 95] ?_
           refine W_condt rfl rfl ?_
           refine W_rg [2, 3, 5, 96] ?_
           have ho14 := out_eq hm hr1
           subst ho14
           replace hm : some false = some r := hm1
           refine W_ret ?_
           refine KBlock_r ?_
           refine KThen_r ?_
           refine KLoopM_r ?_
           refine KBlock_r ?_
           refine KJoinM_r ?_
           refine KBody_ret [] ?_
           obtain rfl := Option.some.inj hm
           exact en
          ·rw [if_neg h13] at hm
           have h13b : (((p1.steps.getD x5.toNat default).n) != ((p2.steps.getD x5.toNat default).n)) = false := bne_eq_false_iff_eq.2 (Decidable.not_not.1 h13)
           by_cases h15 : ¬ ((p1.steps.getD x5.toNat default).to) = ((p2.steps.getD x5.toNat default).to)
           ·rw [if_pos h15] at hm
            have h15b : (((p1.steps.getD x5.toNat default).to) != ((p2.steps.getD x5.toNat default).to)) = true := bne_iff_ne.2 h15
            refine W_rgx (a2 h9b (a2 h11b (a2 h13b h15b))) [6, 7, 55, 56, 57, 58, 59, 60, 61, 62, 63, 64, 65, 66, 67, 68, 69, 70, 71, 72, 73, 74, 75, 76, 77, 78, 79, 80, 81, 82, 83, 84, 85, 86, 87, 88, 89, 90, 91, 92, 93, 94, 95] ?_
            refine W_condt rfl rfl ?_
            refine W_rg [2, 3, 5, 96] ?_
            have ho16 := out_eq hm hr1
            subst ho16
            replace hm : some false = some r := hm1
            refine W_ret ?_
            refine KBlock_r ?_
            refine KThen_r ?_
            refine KLoopM_r ?_
            refine KBlock_r ?_
            refine KJoinM_r ?_
            refine KBody_ret [] ?_
            obtain rfl := Option.some.inj hm
            exact en
           ·rw [if_neg h15] at hm
            have h15b : (((p1.steps.getD x5.toNat default).to) != ((p2.steps.getD x5.toNat default).to)) = false := bne_eq_false_iff_eq.2 (Decidable.not_not.1 h15)
            refine W_regF [6, 7, 55, 56, 57, 58, 59, 60, 61, 62, 63, 64, 65, 66, 67, 68, 69, 70, 71, 72, 73, 74, 75, 76, 77, 78, 79, 80, 81, 82, 83, 84, 85, 86, 87, 88, 89, 90, 91, 92, 93, 94, 95] fun k kp hk hp => ?_
            refine gox (a2 h9b (a2 h11b (a2 h13b h15b))) ?_
            obtain ⟨y6, hc17, hm⟩ := bd hm
            refine RP (fun _ => ref_samePush_ok ((p1.steps.getD x5.toNat default).e) ((p2.steps.getD x5.toNat default).e) _ hc17) ?_
            by_cases h18 : y6 = true
            ·rw [if_pos h18] at hm
             have h18b : y6 = true := h18
             have h18c : (!y6) = false := by rw [h18b]; rfl
             refine RunRest_ops ?_
             refine gox (a2 h9b (a2 h11b (a2 h13b (a2 h15b (a2 h18b h18c))))) ?_
             obtain ⟨y7, hc19, hm⟩ := bd hm
             refine RP (fun _ => ref_samePush_ok ((p1.steps.getD x5.toNat default).f) ((p2.steps.getD x5.toNat default).f) _ hc19) ?_
             refine RunRest_ops ?_
             refine gox (a2 h9b (a2 h11b (a2 h13b (a2 h15b (a2 h18b h18c))))) ?_
             refine hk _ _ ?_
             clear hk hp k kp
             by_cases h20 : y7 = true
             ·rw [if_pos h20] at hm
              refine W_condf rfl (by rw [show y7 = true from (h20)]; rfl) ?_
              refine W_skip ?_
              refine KBlock_n ?_
              refine KThen_n (hk3 _ _ ?_)
              refine W_rn ?_
              refine KLoopM_n (IntKind.wrap .i64 (x5 + 1)) () hm ?_
              exact ls
             ·rw [if_neg h20] at hm
              refine W_condt rfl (by rw [show y7 = false from (Bool.eq_false_iff.2 h20)]; rfl) ?_
              refine W_rg [2, 3, 5, 96] ?_
              have ho21 := out_eq hm hr1
              subst ho21
              replace hm : some false = some r := hm1
              refine W_ret ?_
              refine KBlock_r ?_
              refine KThen_r ?_
              refine KLoopM_r ?_
              refine KBlock_r ?_
              refine KJoinM_r ?_
              refine KBody_ret [] ?_
              obtain rfl := Option.some.inj hm
              exact en
            ·rw [if_neg h18] at hm
             have h18b : y6 = false := Bool.eq_false_iff.2 h18
             have h18c : (!y6) = true := by rw [h18b]; rfl
             refine RunRest_ops ?_
             refine gox (a2 h9b (a2 h11b (a2 h13b (a2 h15b (a2 h18b h18c))))) ?_
             refine hk _ _ ?_
             clear hk hp k kp
             refine W_condt rfl rfl ?_
             refine W_rg [2, 3, 5, 96] ?_
             have ho22 := out_eq hm hr1
             subst ho22
             replace hm : some false = some r := hm1
             refine W_ret ?_
             refine KBlock_r ?_
             refine KThen_r ?_
             refine KLoopM_r ?_
             refine KBlock_r ?_
             refine KJoinM_r ?_
             refine KBody_ret [] ?_
             obtain rfl := Option.some.inj hm
             exact en
       ·rw [if_neg h7] at hm
        refine W_condf rfl (decide_eq_false h7) ?_
        refine W_exit ?_
        have ho23 := out_eq hm hr1
        subst ho23
        replace hm : ref_SameLoops_j1 = some r := hm1
        refine KThen_x ?_
        refine KLoopM_x ?_
        refine KBlock_hit ?_
        refine KJoinM_n () () hm ?_
        exact ls
     ·rintro _ _ hm
      replace hm : ref_SameLoops_j1 = some r := hm
      refine W_eqm ?_
      unfold ref_SameLoops_j1 at hm
      refine W_rg [] ?_
      refine W_ret ?_
      refine KBody_ret [] ?_
      obtain rfl := Option.some.inj hm
      exact en
   ·rw [if_neg h5] at hm
    have h5b : y2 = false := Bool.eq_false_iff.2 h5
    have h5c : (!y2) = true := by rw [h5b]; rfl
    refine RunRest_ops ?_
    refine gox (a2 h1b (a2 h3b (a2 h3c (a2 h5b h5c)))) ?_
    refine hk _ _ ?_
    clear hk hp k kp
    refine W_condt rfl rfl ?_
    refine W_rg [2, 3, 37] ?_
    refine W_ret ?_
    refine KThen_r ?_
    refine KBody_ret [] ?_
    obtain rfl := Option.some.inj hm
    exact en
  ·rw [if_neg h3] at hm
   have h3b : y1 = false := Bool.eq_false_iff.2 h3
   have h3c : (!y1) = true := by rw [h3b]; rfl
   refine RunRest_ops ?_
   refine gox (a2 h1b (a2 h3b h3c)) ?_
   refine hk _ _ ?_
   clear hk hp k kp
   refine W_condt rfl rfl ?_
   refine W_rg [2, 3, 37] ?_
   refine W_ret ?_
   refine KThen_r ?_
   refine KBody_ret [] ?_
   obtain rfl := Option.some.inj hm
   exact en
end Pam

/- the walk of law_sameRows, printed by a program of ours -/
namespace Pam
open Go Go.Proofs
set_option maxRecDepth 100000 in
set_option maxHeartbeats 1000000 in
theorem law_sameRows_ok (p1 : List (List Int)) (p2 : List (List Int)) (r : Bool) (hm : law_sameRows p1 p2 = some r) : SpecF Try.prog 44 [.c (.tree 1 (p1.map (eL 1 (eK .i64)))), .c (.tree 1 (p2.map (eL 1 (eK .i64))))] (.c (.bool r)) := by
 refine Spec_ofD 27 [.tmp 4] Try.func44 rfl rfl rfl (by kernel_rfl) (by simp) ?_
 refine W_eqf ?_
 unfold law_sameRows at hm
 refine W_rg [4] ?_
 refine W_seq_k fun k1 hk1 => ?_
 refine W_rg [6, 7, 8, 9] ?_
 by_cases h1 : ¬ (p1.length : Int) = (p2.length : Int)
 ·rw [if_pos h1] at hm
  refine W_condt rfl (bne_iff_ne.2 h1) ?_
  refine W_rg [0, 1, 10] ?_
  refine W_ret ?_
  refine KThen_r ?_
  refine KBody_ret [] ?_
  obtain rfl := Option.some.inj hm
  exact en
 ·rw [if_neg h1] at hm
  refine W_condf rfl (bne_eq_false_iff_eq.2 (Decidable.not_not.1 h1)) ?_
  refine W_skip ?_
  refine KThen_n (hk1 _ _ ?_)
  refine W_joinM (S := Unit) (V := Unit) [0, 1, 4, 5, 10, 11, 12, 13, 14, 15, 16, 17, 18, 19, 20, 21, 22, 23, 24, 25, 26] (fun _ _ => []) (fun _ _ => []) (fun _ => law_sameRows_j1 = some r) ?_ ?_
  ·skip
   refine W_rg [10] ?_
   refine W_block ?_
   obtain ⟨o1, hl1, hm1⟩ := bd hm
   refine W_loopM (S := Int) (V := Unit) (O := Unit ⊕ Bool) [4, 5, 11, 12, 13, 14, 15, 16, 17, 18, 19, 20, 21, 22, 23, 24, 25, 26] (fun x3 _ => [(5, .c (.int .i64 x3))]) (fun x3 _ => []) _ _ () hl1 ?_ ?_
   ·exact ls
   ·rintro x3 _ r1 hm hr1
    replace hm : law_sameRows_l1 p1 p2 x3 = some r1 := hm
    refine W_eqm ?_
    unfold law_sameRows_l1 at hm
    refine W_seq_k fun k2 hk2 => ?_
    refine W_rg [11, 12, 13] ?_
    by_cases h2 : x3 < (p1.length : Int)
    ·rw [if_pos h2] at hm
     refine W_condt rfl (decide_eq_true h2) ?_
     refine W_skip ?_
     refine KThen_n (hk2 _ _ ?_)
     refine W_seq_k fun k3 hk3 => ?_
     refine W_block ?_
     obtain ⟨⟨hg3a, hg3b⟩, hm⟩ := gd hm
     refine W_anyF [14, 17, 18, 19, 20, 21, 22, 23, 24, 25] (by kernel_rfl) [0, 0, 3, 7, 0, 0, 48, 112, 255, 511] [false, false, false, false, false, false, false, false, true, true] (by kernel_rfl) fun k hk => ?_
     refine gax (a2 (em (eL 1 (eK .i64)) p1 x3.toNat) (em (eL 1 (eK .i64)) p2 x3.toNat)) ?_
     obtain ⟨y4, hc4, hm⟩ := bd hm
     refine AP (fun _ => ref_SameLongs_ok (p1.getD x3.toNat default) (p2.getD x3.toNat default) _ hc4) ?_
     refine ga ?_
     refine hk _ _ ?_
     clear hk k
     by_cases h5 : y4 = true
     ·rw [if_pos h5] at hm
      refine W_condf rfl (by rw [show y4 = true from (h5)]; rfl) ?_
      refine W_skip ?_
      refine KBlock_n ?_
      refine KThen_n (hk3 _ _ ?_)
      refine W_rn ?_
      refine KLoopM_n (IntKind.wrap .i64 (x3 + 1)) () hm ?_
      exact ls
     ·rw [if_neg h5] at hm
      refine W_condt rfl (by rw [show y4 = false from (Bool.eq_false_iff.2 h5)]; rfl) ?_
      refine W_rg [0, 1, 5, 26] ?_
      have ho6 := out_eq hm hr1
      subst ho6
      replace hm : some false = some r := hm1
      refine W_ret ?_
      refine KBlock_r ?_
      refine KThen_r ?_
      refine KLoopM_r ?_
      refine KBlock_r ?_
      refine KJoinM_r ?_
      refine KBody_ret [] ?_
      obtain rfl := Option.some.inj hm
      exact en
    ·rw [if_neg h2] at hm
     refine W_condf rfl (decide_eq_false h2) ?_
     refine W_exit ?_
     have ho7 := out_eq hm hr1
     subst ho7
     replace hm : law_sameRows_j1 = some r := hm1
     refine KThen_x ?_
     refine KLoopM_x ?_
     refine KBlock_hit ?_
     refine KJoinM_n () () hm ?_
     exact ls
  ·rintro _ _ hm
   replace hm : law_sameRows_j1 = some r := hm
   refine W_eqm ?_
   unfold law_sameRows_j1 at hm
   refine W_rg [] ?_
   refine W_ret ?_
   refine KBody_ret [] ?_
   obtain rfl := Option.some.inj hm
   exact en
end Pam
