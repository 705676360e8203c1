/- the walk of sys_divide, printed by a program of ours -/
import Derived.Test.YtpfekllhlfodiaaBase3
import Derived.Test.YtpfekllhlfodiaaSysNumbersFun1
import Derived.Test.YtpfekllhlfodiaaTypes1
set_option linter.all false
namespace Pam
open Go Go.Proofs
set_option maxRecDepth 100000 in
set_option maxHeartbeats 1000000 in
theorem sys_divide_ok (p1 : Int) (p2 : Int) (p3 : Int) (r : Int) (hm : sys_divide p1 p2 p3 = some r) : SpecF Try.prog 94 [.c (.int .i64 p1), .c (.int .i64 p2), .c (.int .i64 p3)] (.c (.int .i64 r)) := by
 refine Spec_ofD 17 [.tmp 6] Try.func94 rfl rfl rfl (by kernel_rfl) (by simp) ?_
 refine W_eqf ?_
 unfold sys_divide at hm
 refine W_rg [6] ?_
 refine W_seq_k fun k1 hk1 => ?_
 refine W_rg [7] ?_
 by_cases h1 : p3 = 0
 ·rw [if_pos h1] at hm
  refine W_condt rfl (beq_iff_eq.2 h1) ?_
  refine W_rg [0, 1, 2, 8] ?_
  refine W_ret ?_
  refine KThen_r ?_
  refine KBody_ret [] ?_
  obtain rfl := Option.some.inj hm
  exact en
 ·rw [if_neg h1] at hm
  refine W_condf rfl (beq_eq_false_iff_ne.2 h1) ?_
  refine W_skip ?_
  refine KThen_n (hk1 _ _ ?_)
  refine W_seq_k fun k2 hk2 => ?_
  refine W_rg [0, 8, 9] ?_
  by_cases h2 : p1 = 4
  ·rw [if_pos h2] at hm
   refine W_condt rfl (beq_iff_eq.2 h2) ?_
   obtain ⟨hg3a, hm⟩ := gd hm
   refine W_rg [1, 2, 10, 11, 12, 13] ?_
   refine W_ret ?_
   refine KThen_r ?_
   refine KBody_ret [] ?_
   obtain rfl := Option.some.inj hm
   exact en
  ·rw [if_neg h2] at hm
   refine W_condf rfl (beq_eq_false_iff_ne.2 h2) ?_
   refine W_skip ?_
   refine KThen_n (hk2 _ _ ?_)
   obtain ⟨hg4a, hm⟩ := gd hm
   refine W_rg [1, 2, 10, 14, 15, 16] ?_
   refine W_ret ?_
   refine KBody_ret [] ?_
   obtain rfl := Option.some.inj hm
   exact en
end Pam

/- the walk of sys_truth, printed by a program of ours -/
namespace Pam
open Go Go.Proofs
set_option maxRecDepth 100000 in
set_option maxHeartbeats 1000000 in
theorem sys_truth_ok (p1 : Bool) (r : Int) (hm : sys_truth p1 = some r) : SpecF Try.prog 95 [.c (.bool p1)] (.c (.int .i64 r)) := by
 refine Spec_ofD 4 [.tmp 2] Try.func95 rfl rfl rfl (by kernel_rfl) (by simp) ?_
 refine W_eqf ?_
 unfold sys_truth at hm
 refine W_rg [2] ?_
 refine W_seq_k fun k1 hk1 => ?_
 refine W_rg [0] ?_
 by_cases h1 : p1 = true
 ·rw [if_pos h1] at hm
  refine W_condt rfl (h1) ?_
  refine W_rg [3] ?_
  refine W_ret ?_
  refine KThen_r ?_
  refine KBody_ret [] ?_
  obtain rfl := Option.some.inj hm
  exact en
 ·rw [if_neg h1] at hm
  refine W_condf rfl (Bool.eq_false_iff.2 h1) ?_
  refine W_skip ?_
  refine KThen_n (hk1 _ _ ?_)
  refine W_rg [3] ?_
  refine W_ret ?_
  refine KBody_ret [] ?_
  obtain rfl := Option.some.inj hm
  exact en
end Pam

/- the walk of sys_Apply, printed by a program of ours -/
namespace Pam
open Go Go.Proofs
set_option maxRecDepth 100000 in
set_option maxHeartbeats 8000000 in
theorem sys_Apply_ok (p1 : Int) (p2 : Int) (p3 : Int) (r : Int) (hm : sys_Apply p1 p2 p3 = some r) : SpecF Try.prog 39 [.c (.int .i64 p1), .c (.int .i64 p2), .c (.int .i64 p3)] (.c (.int .i64 r)) := by
 refine Spec_ofD 87 [.tmp 6] Try.func39 rfl rfl rfl (by kernel_rfl) (by simp) ?_
 refine W_eqf ?_
 unfold sys_Apply at hm
 refine W_rg [6] ?_
 refine W_seq_k fun k1 hk1 => ?_
 refine W_rg [] ?_
 refine W_block ?_
 refine W_rg [9] ?_
 by_cases h1 : p1 = 1
 ·rw [if_pos h1] at hm
  refine W_condt rfl (beq_iff_eq.2 h1) ?_
  refine W_rg [0, 1, 2, 7, 8, 10, 11, 12] ?_
  refine W_ret ?_
  refine KBlock_r ?_
  refine KThen_r ?_
  refine KBody_ret [] ?_
  obtain rfl := Option.some.inj hm
  exact en
 ·rw [if_neg h1] at hm
  refine W_condf rfl (beq_eq_false_iff_ne.2 h1) ?_
  refine W_rg [8, 14] ?_
  by_cases h2 : p1 = 2
  ·rw [if_pos h2] at hm
   refine W_condt rfl (beq_iff_eq.2 h2) ?_
   refine W_rg [0, 1, 2, 7, 13, 15, 16, 17] ?_
   refine W_ret ?_
   refine KBlock_r ?_
   refine KThen_r ?_
   refine KBody_ret [] ?_
   obtain rfl := Option.some.inj hm
   exact en
  ·rw [if_neg h2] at hm
   refine W_condf rfl (beq_eq_false_iff_ne.2 h2) ?_
   refine W_rg [13, 19] ?_
   by_cases h3 : p1 = 3
   ·rw [if_pos h3] at hm
    refine W_condt rfl (beq_iff_eq.2 h3) ?_
    refine W_rg [0, 1, 2, 7, 18, 20, 21, 22] ?_
    refine W_ret ?_
    refine KBlock_r ?_
    refine KThen_r ?_
    refine KBody_ret [] ?_
    obtain rfl := Option.some.inj hm
    exact en
   ·rw [if_neg h3] at hm
    refine W_condf rfl (beq_eq_false_iff_ne.2 h3) ?_
    refine W_joinM (S := Bool) (V := Unit) [18, 23, 24, 25] (fun b1 _ => [(23, .c (.bool b1))]) (fun b1 _ => []) (fun b1 => sys_Apply_j1 p1 p2 p3 b1 = some r) ?_ ?_
    ·skip
     refine W_rg [18, 24] ?_
     by_cases h25 : p1 = 4
     ·rw [if_pos h25] at hm
      refine W_condt rfl (beq_iff_eq.2 h25) ?_
      refine W_skip ?_
      refine KJoinM_n (p1 == 4) () hm ?_
      exact ls
     ·rw [if_neg h25] at hm
      refine W_condf rfl (beq_eq_false_iff_ne.2 h25) ?_
      refine W_rn ?_
      refine KJoinM_n (p1 == 5) () hm ?_
      exact ls
    ·rintro b1 _ hm
     replace hm : sys_Apply_j1 p1 p2 p3 b1 = some r := hm
     refine W_eqm ?_
     unfold sys_Apply_j1 at hm
     by_cases h4 : b1 = true
     ·rw [if_pos h4] at hm
      refine W_condt rfl (h4) ?_
      refine W_regF [0, 1, 2, 7, 23, 26, 27, 28, 29] fun k kp hk hp => ?_
      refine go ?_
      obtain ⟨y2, hc5, hm⟩ := bd hm
      refine RP (fun _ => sys_divide_ok p1 p2 p3 _ hc5) ?_
      refine RunRest_ops ?_
      refine go ?_
      refine hk _ _ ?_
      clear hk hp k kp
      refine W_ret ?_
      refine KBlock_r ?_
      refine KThen_r ?_
      refine KBody_ret [] ?_
      obtain rfl := Option.some.inj hm
      exact en
     ·rw [if_neg h4] at hm
      refine W_condf rfl (Bool.eq_false_iff.2 h4) ?_
      refine W_rg [0, 23, 31] ?_
      by_cases h6 : p1 = 6
      ·rw [if_pos h6] at hm
       refine W_condt rfl (beq_iff_eq.2 h6) ?_
       refine W_rg [1, 2, 7, 30, 32, 33, 34] ?_
       refine W_ret ?_
       refine KBlock_r ?_
       refine KThen_r ?_
       refine KBody_ret [] ?_
       obtain rfl := Option.some.inj hm
       exact en
      ·rw [if_neg h6] at hm
       refine W_condf rfl (beq_eq_false_iff_ne.2 h6) ?_
       refine W_rg [30, 36] ?_
       by_cases h7 : p1 = 7
       ·rw [if_pos h7] at hm
        refine W_condt rfl (beq_iff_eq.2 h7) ?_
        refine W_rg [1, 2, 7, 35, 37, 38, 39] ?_
        refine W_ret ?_
        refine KBlock_r ?_
        refine KThen_r ?_
        refine KBody_ret [] ?_
        obtain rfl := Option.some.inj hm
        exact en
       ·rw [if_neg h7] at hm
        refine W_condf rfl (beq_eq_false_iff_ne.2 h7) ?_
        refine W_rg [35, 41] ?_
        by_cases h8 : p1 = 8
        ·rw [if_pos h8] at hm
         refine W_condt rfl (beq_iff_eq.2 h8) ?_
         refine W_regF [1, 2, 7, 40, 42, 43, 44, 45] fun k kp hk hp => ?_
         refine go ?_
         obtain ⟨y3, hc9, hm⟩ := bd hm
         refine RP (fun _ => sys_truth_ok (decide (p2 < p3)) _ hc9) ?_
         refine RunRest_ops ?_
         refine go ?_
         refine hk _ _ ?_
         clear hk hp k kp
         refine W_ret ?_
         refine KBlock_r ?_
         refine KThen_r ?_
         refine KBody_ret [] ?_
         obtain rfl := Option.some.inj hm
         exact en
        ·rw [if_neg h8] at hm
         refine W_condf rfl (beq_eq_false_iff_ne.2 h8) ?_
         refine W_rg [40, 47] ?_
         by_cases h10 : p1 = 9
         ·rw [if_pos h10] at hm
          refine W_condt rfl (beq_iff_eq.2 h10) ?_
          refine W_regF [1, 2, 7, 46, 48, 49, 50, 51] fun k kp hk hp => ?_
          refine go ?_
          obtain ⟨y4, hc11, hm⟩ := bd hm
          refine RP (fun _ => sys_truth_ok (p2 == p3) _ hc11) ?_
          refine RunRest_ops ?_
          refine go ?_
          refine hk _ _ ?_
          clear hk hp k kp
          refine W_ret ?_
          refine KBlock_r ?_
          refine KThen_r ?_
          refine KBody_ret [] ?_
          obtain rfl := Option.some.inj hm
          exact en
         ·rw [if_neg h10] at hm
          refine W_condf rfl (beq_eq_false_iff_ne.2 h10) ?_
          refine W_rg [46, 53] ?_
          by_cases h12 : p1 = 10
          ·rw [if_pos h12] at hm
           refine W_condt rfl (beq_iff_eq.2 h12) ?_
           by_cases h13 : ¬ p2 = 0
           ·rw [if_pos h13] at hm
            have h13b : (p2 != 0) = true := bne_iff_ne.2 h13
            refine W_regF [1, 2, 7, 52, 54, 55, 56, 57, 58, 59, 60] fun k kp hk hp => ?_
            refine gox h13b ?_
            obtain ⟨y5, hc14, hm⟩ := bd hm
            refine RP (fun _ => sys_truth_ok (p3 != 0) _ hc14) ?_
            refine RunRest_ops ?_
            refine gox h13b ?_
            refine hk _ _ ?_
            clear hk hp k kp
            refine W_ret ?_
            refine KBlock_r ?_
            refine KThen_r ?_
            refine KBody_ret [] ?_
            obtain rfl := Option.some.inj hm
            exact en
           ·rw [if_neg h13] at hm
            have h13b : (p2 != 0) = false := bne_eq_false_iff_eq.2 (Decidable.not_not.1 h13)
            refine W_regF [1, 2, 7, 52, 54, 55, 56, 57, 58, 59, 60] fun k kp hk hp => ?_
            refine gox h13b ?_
            obtain ⟨y6, hc15, hm⟩ := bd hm
            refine RP (fun _ => sys_truth_ok false _ hc15) ?_
            refine RunRest_ops ?_
            refine gox h13b ?_
            refine hk _ _ ?_
            clear hk hp k kp
            refine W_ret ?_
            refine KBlock_r ?_
            refine KThen_r ?_
            refine KBody_ret [] ?_
            obtain rfl := Option.some.inj hm
            exact en
          ·rw [if_neg h12] at hm
           refine W_condf rfl (beq_eq_false_iff_ne.2 h12) ?_
           refine W_rg [52, 62] ?_
           by_cases h16 : p1 = 11
           ·rw [if_pos h16] at hm
            refine W_condt rfl (beq_iff_eq.2 h16) ?_
            by_cases h17 : ¬ p2 = 0
            ·rw [if_pos h17] at hm
             have h17b : (p2 != 0) = true := bne_iff_ne.2 h17
             refine W_regF [1, 2, 7, 61, 63, 64, 65, 66, 67, 68, 69] fun k kp hk hp => ?_
             refine gox h17b ?_
             obtain ⟨y7, hc18, hm⟩ := bd hm
             refine RP (fun _ => sys_truth_ok true _ hc18) ?_
             refine RunRest_ops ?_
             refine gox h17b ?_
             refine hk _ _ ?_
             clear hk hp k kp
             refine W_ret ?_
             refine KBlock_r ?_
             refine KThen_r ?_
             refine KBody_ret [] ?_
             obtain rfl := Option.some.inj hm
             exact en
            ·rw [if_neg h17] at hm
             have h17b : (p2 != 0) = false := bne_eq_false_iff_eq.2 (Decidable.not_not.1 h17)
             refine W_regF [1, 2, 7, 61, 63, 64, 65, 66, 67, 68, 69] fun k kp hk hp => ?_
             refine gox h17b ?_
             obtain ⟨y8, hc19, hm⟩ := bd hm
             refine RP (fun _ => sys_truth_ok (p3 != 0) _ hc19) ?_
             refine RunRest_ops ?_
             refine gox h17b ?_
             refine hk _ _ ?_
             clear hk hp k kp
             refine W_ret ?_
             refine KBlock_r ?_
             refine KThen_r ?_
             refine KBody_ret [] ?_
             obtain rfl := Option.some.inj hm
             exact en
           ·rw [if_neg h16] at hm
            refine W_condf rfl (beq_eq_false_iff_ne.2 h16) ?_
            refine W_rg [61, 71] ?_
            by_cases h20 : p1 = 12
            ·rw [if_pos h20] at hm
             refine W_condt rfl (beq_iff_eq.2 h20) ?_
             refine W_regF [1, 2, 7, 70, 72, 73, 74, 75, 76, 77] fun k kp hk hp => ?_
             refine go ?_
             obtain ⟨y9, hc21, hm⟩ := bd hm
             refine RP (fun _ => sys_truth_ok (!((p2 != 0) == (p3 != 0))) _ hc21) ?_
             refine RunRest_ops ?_
             refine go ?_
             refine hk _ _ ?_
             clear hk hp k kp
             refine W_ret ?_
             refine KBlock_r ?_
             refine KThen_r ?_
             refine KBody_ret [] ?_
             obtain rfl := Option.some.inj hm
             exact en
            ·rw [if_neg h20] at hm
             refine W_condf rfl (beq_eq_false_iff_ne.2 h20) ?_
             refine W_rg [2, 70, 79] ?_
             by_cases h22 : p1 = 13
             ·rw [if_pos h22] at hm
              refine W_condt rfl (beq_iff_eq.2 h22) ?_
              refine W_rg [1, 7, 78, 80, 81] ?_
              refine W_ret ?_
              refine KBlock_r ?_
              refine KThen_r ?_
              refine KBody_ret [] ?_
              obtain rfl := Option.some.inj hm
              exact en
             ·rw [if_neg h22] at hm
              refine W_condf rfl (beq_eq_false_iff_ne.2 h22) ?_
              refine W_rg [7, 78, 83] ?_
              by_cases h23 : p1 = 14
              ·rw [if_pos h23] at hm
               refine W_condt rfl (beq_iff_eq.2 h23) ?_
               refine W_regF [1, 82, 84, 85, 86] fun k kp hk hp => ?_
               refine go ?_
               obtain ⟨y10, hc24, hm⟩ := bd hm
               refine RP (fun _ => sys_truth_ok (p2 == 0) _ hc24) ?_
               refine RunRest_ops ?_
               refine go ?_
               refine hk _ _ ?_
               clear hk hp k kp
               refine W_ret ?_
               refine KBlock_r ?_
               refine KThen_r ?_
               refine KBody_ret [] ?_
               obtain rfl := Option.some.inj hm
               exact en
              ·rw [if_neg h23] at hm
               refine W_condf rfl (beq_eq_false_iff_ne.2 h23) ?_
               refine W_skip ?_
               refine KBlock_n ?_
               refine KThen_n (hk1 _ _ ?_)
               refine W_rg [1, 82] ?_
               refine W_ret ?_
               refine KBody_ret [] ?_
               obtain rfl := Option.some.inj hm
               exact en
end Pam

/- the walk of slices_Clone_int_int, printed by a program of ours -/
namespace Pam
open Go Go.Proofs
set_option maxRecDepth 100000 in
set_option maxHeartbeats 1000000 in
theorem slices_Clone_int_int_ok (p1 : List Int) (r : (List Int)) (hm : slices_Clone_int_int p1 = some r) : Spec Try.prog 89 [.c (.tree 1 (p1.map (eK .i64)))] [] (fun p σ => (p = .c (.osl 0 1 0 r.length) ∧ σ = [.arr 1 1 3 (r.map (eK .i64))])) (fun _ _ => False) := by
 refine Spec_ofD 8 [.tmp 2] Try.func89 rfl rfl rfl (by kernel_rfl) (by simp) ?_
 refine W_eqf ?_
 unfold slices_Clone_int_int at hm
 refine W_rg [2] ?_
 refine W_seq_k fun k1 hk1 => ?_
 by_cases h1 : p1 = []
 ·rw [if_pos h1] at hm
  refine W_nilcase 0 (s := 1) (by rw [h1]; rfl) ?_ ?_
  ·refine W_eqn ?_
   refine W_rg [3] ?_
   refine W_condt rfl rfl ?_
   refine W_rg [0, 4] ?_
   refine W_ghost (Ghost_nil 2 1 3 (by decide) rfl (Nat.le_of_ble_eq_true rfl)) ?_
   refine W_eql ?_
   refine W_ghost (Ghost_new 1 3 (by decide)) ?_
   simp only [bZ, bL, reduceIte, ↓reduceIte, reduceCtorEq, Int.reduceToNat, Nat.reduceDiv, Nat.reduceMod, Nat.reduceLT, Nat.reduceLeDiff, Nat.reduceAdd, Nat.reduceSub, Nat.reduceMul, Nat.reduceEqDiff, Nat.reduceBEq, Nat.reduceBNe, Nat.reduceGT, List.length_cons, List.length_nil, List.length_append, List.cons_append, List.nil_append]
   refine W_gh (Ghost_mv 1 0 (by decide) rfl rfl) ?_
   refine W_gh (Ghost_dn 0 1 (by decide) (Nat.le_of_ble_eq_true rfl) (Nat.le_of_ble_eq_true rfl) rfl rfl) ?_
   refine W_ret ?_
   refine KThen_r ?_
   refine KBody_ret [.arr 1 1 3 ([].map (eK .i64))] ?_
   obtain rfl := Option.some.inj hm
   exact en
  ·refine W_eqn ?_
   refine W_rg [3] ?_
   refine W_condf rfl rfl ?_
   refine W_skip ?_
   refine KThen_n (hk1 _ _ ?_)
   refine W_rg [0, 4, 5, 6, 7] ?_
   refine W_eqa [.arr 1 1 3 ([].map (eK .i64))] ?_
   refine W_ret ?_
   refine KBody_ret [.arr 1 1 3 ([].map (eK .i64))] ?_
   obtain rfl := Option.some.inj hm
   exact en
 ·rw [if_neg h1] at hm
  refine W_rg [3] ?_
  refine W_condf rfl rfl ?_
  refine W_skip ?_
  refine KThen_n (hk1 _ _ ?_)
  obtain ⟨⟨hg2ax, hg2ay⟩, hm⟩ := gd hm
  refine W_rg [0, 4, 5, 6, 7] ?_
  refine W_eqa [.arr 1 1 3 (p1.map (eK .i64))] ?_
  refine W_ret ?_
  refine KBody_ret [.arr 1 1 3 (p1.map (eK .i64))] ?_
  obtain rfl := Option.some.inj hm
  exact en
end Pam

/- the walk of slices_Sort_int_int, printed by a program of ours -/
namespace Pam
open Go Go.Proofs
theorem slices_Sort_int_int_ok (p1 : List Int) (v0_ : Nat) (r : List Int) (hm : slices_Sort_int_int p1 = some r) : Spec Try.prog 90 [.c (.osl 0 v0_ 0 p1.length)] [.arr 1 v0_ 3 (p1.map (eK .i64))] (fun p σ => (p = .t [] ∧ σ = [.arr 1 v0_ 3 (r.map (eK .i64))])) (fun _ _ => False) := by
 unfold slices_Sort_int_int at hm
 split at hm
 ·rename_i h
  simp only [Option.some.injEq] at hm
  subst hm
  exact sort_spec lays_sort rfl ⟨_, Try.func90, rfl, by kernel_rfl⟩ 3 v0_ p1 h
 ·cases hm
end Pam

/- the walk of slices_Compact_int_int, printed by a program of ours -/
namespace Pam
open Go Go.Proofs
theorem slices_Compact_int_int_ok (p0 : Nat) (p1 : List Int) (v0_ : Nat) (r : List Int) (hm : slices_Compact_int_int p0 p1 = some r) : Spec Try.prog 91 [.c (.osl 0 v0_ 0 p0)] [.arr 1 v0_ 3 (p1.map (eK .i64))] (fun p σ => (p = .c (.osl 0 v0_ 0 r.length) ∧ σ = [.arr 1 v0_ 3 (r.map (eK .i64))])) (fun _ _ => False) := by
 unfold slices_Compact_int_int at hm
 split at hm
 ·rename_i h
  simp only [Option.some.injEq] at hm
  subst hm
  obtain ⟨rfl, h⟩ := h
  exact compact_spec lays_compact rfl ⟨_, Try.func91, rfl, by kernel_rfl⟩ 3 v0_ p1 h
 ·cases hm
end Pam

/- the walk of sys_Uses, printed by a program of ours -/
namespace Pam
open Go Go.Proofs
set_option maxRecDepth 100000 in
set_option maxHeartbeats 1000000 in
theorem sys_Uses_ok (p1 : TRule) (r : (List Int)) (hm : sys_Uses p1 = some r) : SpecF Try.prog 36 [.a [.int .i64 p1.op, .int .i64 p1.k, .int .i64 p1.out_, .int .i64 p1.n, .tree 1 (p1.a.map (eK .i64)), .tree 4 (p1.e.map TPush.enc)]] (.c (.tree 1 (r.map (eK .i64)))) := by
 refine Spec_ofD 32 [.tmp 2] Try.func36 rfl rfl rfl (by kernel_rfl) (by simp) ?_
 refine W_eqf ?_
 unfold sys_Uses at hm
 refine W_rg [0, 2] ?_
 refine W_regF [6, 7, 8] fun k kp hk hp => ?_
 refine go ?_
 obtain ⟨y1, hc1, hm⟩ := bd hm
 refine RA (slices_Clone_int_int_ok p1.a  _ hc1) [] ?_
 rintro p σ' hq2 _
 obtain ⟨rfl, rfl⟩ := hq2
 refine RunRest_ops ?_
 refine go ?_
 refine hk _ _ ?_
 clear hk hp k kp
 refine W_joinM (S := (List Int)) (V := Nat) [1, 3, 5, 9, 10, 11, 12, 13, 14, 15, 16, 17, 18, 19, 20, 21, 22, 23, 24, 25, 26, 27] (fun l4 v5 => [(3, .c (.osl 1 v5 0 l4.length))]) (fun l4 v5 => [.box [.int .i64 p1.op, .int .i64 p1.k, .int .i64 p1.out_, .int .i64 p1.n, .tree 1 (p1.a.map (eK .i64)), .tree 4 (p1.e.map TPush.enc)], .arr 1 v5 3 (l4.map (eK .i64))]) (fun l4 => sys_Uses_j1 l4 = some r) ?_ ?_
 ·skip
  refine W_rg [1, 9] ?_
  refine W_block ?_
  obtain ⟨o1, hl1, hm1⟩ := bd hm
  refine W_loopM (S := ((List Int) × Int)) (V := Nat) (O := (List Int)) [3, 5, 12, 13, 14, 15, 16, 17, 18, 19, 20, 21, 22, 23, 24, 25, 26, 27] (fun (l20, x22) v21 => [(3, .c (.osl 1 v21 0 l20.length)), (12, .c (.int .i64 x22))]) (fun (l20, x22) v21 => [.box [.int .i64 p1.op, .int .i64 p1.k, .int .i64 p1.out_, .int .i64 p1.n, .tree 1 (p1.a.map (eK .i64)), .tree 4 (p1.e.map TPush.enc)], .arr 1 v21 3 (l20.map (eK .i64))]) _ _ 1 hl1 ?_ ?_
  ·exact ls
  ·rintro ⟨l20, x22⟩ v21 r1 hm hr1
   replace hm : sys_Uses_l1 p1 l20 x22 = some r1 := hm
   refine W_eqm ?_
   unfold sys_Uses_l1 at hm
   refine W_rg [] ?_
   refine W_seq_k fun k1 hk1 => ?_
   by_cases h7 : x22 < (p1.e.length : Int)
   ·rw [if_pos h7] at hm
    refine W_condt rfl (decide_eq_true h7) ?_
    refine W_skip ?_
    refine KThen_n (hk1 _ _ ?_)
    refine W_seq_k fun k2 hk2 => ?_
    refine W_block ?_
    obtain ⟨hg8a, hm⟩ := gd hm
    refine W_rgx (em TPush.enc p1.e x22.toNat) [13, 14, 15] ?_
    refine W_rg [16] ?_
    refine W_block ?_
    refine W_joinM (S := Bool) (V := Nat) [3, 17, 18, 19, 20, 21] (fun b25 v24 => [(3, .c (.osl 1 v24 0 l20.length)), (18, .c (.bool b25))]) (fun b25 v24 => [.box [.int .i64 p1.op, .int .i64 p1.k, .int .i64 p1.out_, .int .i64 p1.n, .tree 1 (p1.a.map (eK .i64)), .tree 4 (p1.e.map TPush.enc)], .arr 1 v24 3 (l20.map (eK .i64)), .box [.int .i64 ((p1.e.getD x22.toNat default).op), .int .i64 ((p1.e.getD x22.toNat default).k), .int .i64 ((p1.e.getD x22.toNat default).v), .int .i64 ((p1.e.getD x22.toNat default).n)]]) (fun b25 => sys_Uses_j2 p1 l20 x22 b25 = some r1) ?_ ?_
    ·skip
     refine W_rg [19] ?_
     by_cases h11 : ((p1.e.getD x22.toNat default).op) = 2
     ·rw [if_pos h11] at hm
      refine W_condt rfl (beq_iff_eq.2 h11) ?_
      refine W_skip ?_
      refine KJoinM_n (((p1.e.getD x22.toNat default).op) == 2) v21 hm ?_
      exact ls
     ·rw [if_neg h11] at hm
      refine W_condf rfl (beq_eq_false_iff_ne.2 h11) ?_
      refine W_rg [20] ?_
      by_cases h12 : ((p1.e.getD x22.toNat default).op) = 3
      ·rw [if_pos h12] at hm
       refine W_condt rfl (beq_iff_eq.2 h12) ?_
       refine W_skip ?_
       refine KJoinM_n (((p1.e.getD x22.toNat default).op) == 3) v21 hm ?_
       exact ls
      ·rw [if_neg h12] at hm
       refine W_condf rfl (beq_eq_false_iff_ne.2 h12) ?_
       refine W_rn ?_
       refine KJoinM_n (((p1.e.getD x22.toNat default).op) == 8) v21 hm ?_
       exact ls
    ·rintro b25 v24 hm
     replace hm : sys_Uses_j2 p1 l20 x22 b25 = some r1 := hm
     refine W_eqm ?_
     unfold sys_Uses_j2 at hm
     by_cases h9 : b25 = true
     ·rw [if_pos h9] at hm
      refine W_condt rfl (h9) ?_
      obtain ⟨⟨hg10ax, hg10ay⟩, hm⟩ := gd hm
      refine W_rn ?_
      refine KBlock_n ?_
      refine KBlock_n ?_
      refine KThen_n (hk2 _ _ ?_)
      refine W_rn ?_
      refine KLoopM_n ((l20 ++ (lit ([(p1.e.getD x22.toNat default).v] : List Int))), (IntKind.wrap .i64 (x22 + 1))) (v24 + 1) hm ?_
      exact ls
     ·rw [if_neg h9] at hm
      refine W_condf rfl (Bool.eq_false_iff.2 h9) ?_
      refine W_skip ?_
      refine KBlock_n ?_
      refine KBlock_n ?_
      refine KThen_n (hk2 _ _ ?_)
      refine W_rn ?_
      refine KLoopM_n (l20, (IntKind.wrap .i64 (x22 + 1))) v24 hm ?_
      exact ls
   ·rw [if_neg h7] at hm
    refine W_condf rfl (decide_eq_false h7) ?_
    refine W_exit ?_
    have ho13 := out_eq hm hr1
    subst ho13
    replace hm : sys_Uses_j1 l20 = some r := hm1
    refine KThen_x ?_
    refine KLoopM_x ?_
    refine KBlock_hit ?_
    refine KJoinM_n l20 v21 hm ?_
    exact ls
 ·rintro l4 v5 hm
  replace hm : sys_Uses_j1 l4 = some r := hm
  refine W_eqm ?_
  unfold sys_Uses_j1 at hm
  refine W_regF [28, 29] fun k kp hk hp => ?_
  refine go ?_
  obtain ⟨y6, hc3, hm⟩ := bd hm
  refine RA (slices_Sort_int_int_ok l4 v5 _ hc3) [1] ?_
  rintro p σ' hq4 _
  obtain ⟨rfl, rfl⟩ := hq4
  refine RunRest_ops ?_
  refine go ?_
  refine hk _ _ ?_
  clear hk hp k kp
  refine W_regF [3, 30, 31] fun k kp hk hp => ?_
  refine go ?_
  obtain ⟨y7, hc5, hm⟩ := bd hm
  refine RA (slices_Compact_int_int_ok l4.length y6 v5 _ hc5) [1] ?_
  rintro p σ' hq6 _
  obtain ⟨rfl, rfl⟩ := hq6
  refine RunRest_ops ?_
  refine go ?_
  refine hk _ _ ?_
  clear hk hp k kp
  refine W_gh (Ghost_fr 1 rfl) ?_
  refine W_ret ?_
  refine KBody_ret [] ?_
  obtain rfl := Option.some.inj hm
  exact en
end Pam

/- the walk of ref_SameInts, printed by a program of ours -/
namespace Pam
open Go Go.Proofs
set_option maxRecDepth 100000 in
set_option maxHeartbeats 1000000 in
theorem ref_SameInts_ok (p1 : List Int) (p2 : List Int) (r : Bool) (hm : ref_SameInts p1 p2 = some r) : SpecF Try.prog 22 [.c (.tree 1 (p1.map (eK .i64))), .c (.tree 1 (p2.map (eK .i64)))] (.c (.bool r)) := by
 refine Spec_ofD 26 [.tmp 4] Try.func22 rfl rfl rfl (by kernel_rfl) (by simp) ?_
 refine W_eqf ?_
 unfold ref_SameInts at hm
 refine W_rg [4] ?_
 refine W_seq_k fun k1 hk1 => ?_
 refine W_rg [6, 7, 8, 9] ?_
 by_cases h1 : ¬ (p1.length : Int) = (p2.length : Int)
 ·rw [if_pos h1] at hm
  refine W_condt rfl (bne_iff_ne.2 h1) ?_
  refine W_rg [0, 1, 10] ?_
  refine W_ret ?_
  refine KThen_r ?_
  refine KBody_ret [] ?_
  obtain rfl := Option.some.inj hm
  exact en
 ·rw [if_neg h1] at hm
  refine W_condf rfl (bne_eq_false_iff_eq.2 (Decidable.not_not.1 h1)) ?_
  refine W_skip ?_
  refine KThen_n (hk1 _ _ ?_)
  refine W_joinM (S := Unit) (V := Unit) [0, 1, 4, 5, 10, 11, 12, 13, 14, 15, 16, 17, 18, 19, 20, 21, 22, 23, 24, 25] (fun _ _ => []) (fun _ _ => []) (fun _ => ref_SameInts_j1 = some r) ?_ ?_
  ·skip
   refine W_rg [10] ?_
   refine W_block ?_
   obtain ⟨o1, hl1, hm1⟩ := bd hm
   refine W_loopM (S := Int) (V := Unit) (O := Unit ⊕ Bool) [4, 5, 11, 12, 13, 14, 15, 16, 17, 18, 19, 20, 21, 22, 23, 24, 25] (fun x3 _ => [(5, .c (.int .i64 x3))]) (fun x3 _ => []) _ _ () hl1 ?_ ?_
   ·exact ls
   ·rintro x3 _ r1 hm hr1
    replace hm : ref_SameInts_l1 p1 p2 x3 = some r1 := hm
    refine W_eqm ?_
    unfold ref_SameInts_l1 at hm
    refine W_seq_k fun k2 hk2 => ?_
    refine W_rg [11, 12, 13] ?_
    by_cases h2 : x3 < (p1.length : Int)
    ·rw [if_pos h2] at hm
     refine W_condt rfl (decide_eq_true h2) ?_
     refine W_skip ?_
     refine KThen_n (hk2 _ _ ?_)
     refine W_seq_k fun k3 hk3 => ?_
     refine W_block ?_
     obtain ⟨⟨hg3a, hg3b⟩, hm⟩ := gd hm
     refine W_agx (a2 (em (eK .i64) p1 x3.toNat) (em (eK .i64) p2 x3.toNat)) [14, 17, 18, 19, 20, 21, 22, 23, 24] [0, 0, 3, 7, 0, 0, 48, 112, 255] [false, false, false, false, false, false, false, false, true] ?_
     by_cases h4 : ¬ (p1.getD x3.toNat default) = (p2.getD x3.toNat default)
     ·rw [if_pos h4] at hm
      refine W_condt rfl (bne_iff_ne.2 h4) ?_
      refine W_rg [0, 1, 5, 25] ?_
      have ho5 := out_eq hm hr1
      subst ho5
      replace hm : some false = some r := hm1
      refine W_ret ?_
      refine KBlock_r ?_
      refine KThen_r ?_
      refine KLoopM_r ?_
      refine KBlock_r ?_
      refine KJoinM_r ?_
      refine KBody_ret [] ?_
      obtain rfl := Option.some.inj hm
      exact en
     ·rw [if_neg h4] at hm
      refine W_condf rfl (bne_eq_false_iff_eq.2 (Decidable.not_not.1 h4)) ?_
      refine W_skip ?_
      refine KBlock_n ?_
      refine KThen_n (hk3 _ _ ?_)
      refine W_rn ?_
      refine KLoopM_n (IntKind.wrap .i64 (x3 + 1)) () hm ?_
      exact ls
    ·rw [if_neg h2] at hm
     refine W_condf rfl (decide_eq_false h2) ?_
     refine W_exit ?_
     have ho6 := out_eq hm hr1
     subst ho6
     replace hm : ref_SameInts_j1 = some r := hm1
     refine KThen_x ?_
     refine KLoopM_x ?_
     refine KBlock_hit ?_
     refine KJoinM_n () () hm ?_
     exact ls
  ·rintro _ _ hm
   replace hm : ref_SameInts_j1 = some r := hm
   refine W_eqm ?_
   unfold ref_SameInts_j1 at hm
   refine W_rg [] ?_
   refine W_ret ?_
   refine KBody_ret [] ?_
   obtain rfl := Option.some.inj hm
   exact en
end Pam

/- the walk of sys_judge_is, printed by a program of ours -/
namespace Pam
open Go Go.Proofs
set_option maxRecDepth 100000 in
set_option maxHeartbeats 1000000 in
theorem sys_judge_is_ok (p1 : Int) (p2 : Tjudge) (r : Bool) (hm : sys_judge_is p1 p2 = some r) : Spec Try.prog 124 [.c (.optr 0 0), .c (.int .i64 p1)] [.box [.tree 2 (p2.system.vars.map TVar.enc), .tree 1 (p2.system.in_.map (eK .i64)), .tree 1 (p2.system.out_.map (eK .i64)), .tree 6 (p2.system.rules.map TRule.enc), .int .i64 p2.code]] (fun p σ => (p = .c (.bool r) ∧ σ = [.box [.tree 2 (p2.system.vars.map TVar.enc), .tree 1 (p2.system.in_.map (eK .i64)), .tree 1 (p2.system.out_.map (eK .i64)), .tree 6 (p2.system.rules.map TRule.enc), .int .i64 p2.code]])) (fun _ _ => False) := by
 refine Spec_ofD 17 [.tmp 4] Try.func124 rfl rfl rfl (by kernel_rfl) (by simp) ?_
 refine W_eqf ?_
 unfold sys_judge_is at hm
 refine W_rg [4] ?_
 by_cases h1 : p1 ≥ 0
 ·rw [if_pos h1] at hm
  have h1b : decide (p1 ≥ 0) = true := decide_eq_true h1
  refine W_rgx h1b [0, 1, 5, 6, 7, 8, 9, 10, 11, 12, 13, 14, 15, 16] ?_
  refine W_ret ?_
  refine KBody_ret [.box [.tree 2 (p2.system.vars.map TVar.enc), .tree 1 (p2.system.in_.map (eK .i64)), .tree 1 (p2.system.out_.map (eK .i64)), .tree 6 (p2.system.rules.map TRule.enc), .int .i64 p2.code]] ?_
  obtain rfl := Option.some.inj hm
  exact en
 ·rw [if_neg h1] at hm
  have h1b : decide (p1 ≥ 0) = false := decide_eq_false h1
  refine W_rgx h1b [0, 1, 5, 6, 7, 8, 9, 10, 11, 12, 13, 14, 15, 16] ?_
  refine W_ret ?_
  refine KBody_ret [.box [.tree 2 (p2.system.vars.map TVar.enc), .tree 1 (p2.system.in_.map (eK .i64)), .tree 1 (p2.system.out_.map (eK .i64)), .tree 6 (p2.system.rules.map TRule.enc), .int .i64 p2.code]] ?_
  obtain rfl := Option.some.inj hm
  exact en
end Pam

/- the walk of slices_Index_int_int, printed by a program of ours -/
namespace Pam
open Go Go.Proofs
set_option maxRecDepth 100000 in
set_option maxHeartbeats 1000000 in
theorem slices_Index_int_int_ok (p1 : List Int) (p2 : Int) (r : Int) (hm : slices_Index_int_int p1 p2 = some r) : SpecF Try.prog 108 [.c (.tree 1 (p1.map (eK .i64))), .c (.int .i64 p2)] (.c (.int .i64 r)) := by
 refine Spec_ofD 19 [.tmp 4] Try.func108 rfl rfl rfl (by kernel_rfl) (by simp) ?_
 refine W_eqf ?_
 unfold slices_Index_int_int at hm
 refine W_rg [4] ?_
 refine W_joinM (S := Unit) (V := Unit) [0, 1, 4, 5, 6, 7, 8, 9, 10, 11, 12, 13, 14, 15, 16, 17, 18] (fun _ _ => []) (fun _ _ => []) (fun _ => slices_Index_int_int_j1 = some r) ?_ ?_
 ·skip
  refine W_rg [6] ?_
  refine W_block ?_
  obtain ⟨o1, hl1, hm1⟩ := bd hm
  refine W_loopM (S := Int) (V := Unit) (O := Unit ⊕ Int) [4, 5, 8, 9, 10, 11, 12, 13, 14, 15, 16, 17, 18] (fun x3 _ => [(8, .c (.int .i64 x3))]) (fun x3 _ => []) _ _ () hl1 ?_ ?_
  ·exact ls
  ·rintro x3 _ r1 hm hr1
   replace hm : slices_Index_int_int_l1 p1 p2 x3 = some r1 := hm
   refine W_eqm ?_
   unfold slices_Index_int_int_l1 at hm
   refine W_rg [] ?_
   refine W_seq_k fun k1 hk1 => ?_
   by_cases h1 : x3 < (p1.length : Int)
   ·rw [if_pos h1] at hm
    refine W_condt rfl (decide_eq_true h1) ?_
    refine W_skip ?_
    refine KThen_n (hk1 _ _ ?_)
    refine W_seq_k fun k2 hk2 => ?_
    refine W_block ?_
    refine W_rg [9, 10] ?_
    obtain ⟨hg2a, hm⟩ := gd hm
    refine W_rgx (em (eK .i64) p1 x3.toNat) [11, 12, 13, 14, 15] ?_
    by_cases h3 : p2 = (p1.getD x3.toNat default)
    ·rw [if_pos h3] at hm
     refine W_condt rfl (beq_iff_eq.2 h3) ?_
     refine W_rg [0, 1, 5, 7, 8, 16, 17] ?_
     have ho4 := out_eq hm hr1
     subst ho4
     replace hm : some x3 = some r := hm1
     refine W_ret ?_
     refine KBlock_r ?_
     refine KThen_r ?_
     refine KLoopM_r ?_
     refine KBlock_r ?_
     refine KJoinM_r ?_
     refine KBody_ret [] ?_
     obtain rfl := Option.some.inj hm
     exact en
    ·rw [if_neg h3] at hm
     refine W_condf rfl (beq_eq_false_iff_ne.2 h3) ?_
     refine W_skip ?_
     refine KBlock_n ?_
     refine KThen_n (hk2 _ _ ?_)
     refine W_rn ?_
     refine KLoopM_n (IntKind.wrap .i64 (x3 + 1)) () hm ?_
     exact ls
   ·rw [if_neg h1] at hm
    refine W_condf rfl (decide_eq_false h1) ?_
    refine W_exit ?_
    have ho5 := out_eq hm hr1
    subst ho5
    replace hm : slices_Index_int_int_j1 = some r := hm1
    refine KThen_x ?_
    refine KLoopM_x ?_
    refine KBlock_hit ?_
    refine KJoinM_n () () hm ?_
    exact ls
 ·rintro _ _ hm
  replace hm : slices_Index_int_int_j1 = some r := hm
  refine W_eqm ?_
  unfold slices_Index_int_int_j1 at hm
  refine W_rg [] ?_
  refine W_ret ?_
  refine KBody_ret [] ?_
  obtain rfl := Option.some.inj hm
  exact en
end Pam

/- the walk of slices_Contains_int_int, printed by a program of ours -/
namespace Pam
open Go Go.Proofs
set_option maxRecDepth 100000 in
set_option maxHeartbeats 1000000 in
theorem slices_Contains_int_int_ok (p1 : List Int) (p2 : Int) (r : Bool) (hm : slices_Contains_int_int p1 p2 = some r) : SpecF Try.prog 125 [.c (.tree 1 (p1.map (eK .i64))), .c (.int .i64 p2)] (.c (.bool r)) := by
 refine Spec_ofD 9 [.tmp 4] Try.func125 rfl rfl rfl (by kernel_rfl) (by simp) ?_
 refine W_eqf ?_
 unfold slices_Contains_int_int at hm
 refine W_rg [4] ?_
 refine W_regF [0, 1, 5, 6, 7, 8] fun k kp hk hp => ?_
 refine go ?_
 obtain ⟨y1, hc1, hm⟩ := bd hm
 refine RP (fun _ => slices_Index_int_int_ok p1 p2 _ hc1) ?_
 refine RunRest_ops ?_
 refine go ?_
 refine hk _ _ ?_
 clear hk hp k kp
 refine W_ret ?_
 refine KBody_ret [] ?_
 obtain rfl := Option.some.inj hm
 exact en
end Pam

/- the walk of sys_judge_head, printed by a program of ours -/
namespace Pam
open Go Go.Proofs
set_option maxRecDepth 100000 in
set_option maxHeartbeats 8000000 in
theorem sys_judge_head_ok (p1 : Tjudge) (r : TFault) (hm : sys_judge_head p1 = some r) : Spec Try.prog 81 [.c (.optr 0 0)] [.box [.tree 2 (p1.system.vars.map TVar.enc), .tree 1 (p1.system.in_.map (eK .i64)), .tree 1 (p1.system.out_.map (eK .i64)), .tree 6 (p1.system.rules.map TRule.enc), .int .i64 p1.code]] (fun p σ => (p = .a [.int .i64 ((r).code), .int .i64 ((r).at_)] ∧ σ = [.box [.tree 2 (p1.system.vars.map TVar.enc), .tree 1 (p1.system.in_.map (eK .i64)), .tree 1 (p1.system.out_.map (eK .i64)), .tree 6 (p1.system.rules.map TRule.enc), .int .i64 p1.code]])) (fun _ _ => False) := by
 refine Spec_ofD 122 [.cell 2 33] Try.func81 rfl rfl rfl (by kernel_rfl) (by simp) ?_
 refine W_eqf ?_
 unfold sys_judge_head at hm
 refine W_rg [] ?_
 refine W_seq_k fun k1 hk1 => ?_
 refine W_joinM (S := Bool) (V := Unit) [9, 10, 11, 12, 13, 14, 15, 16, 17, 18, 19, 20, 21, 22, 23, 24, 25, 26, 27, 28, 29, 30, 31, 32, 33, 34, 35, 36, 37, 38, 39, 40, 41, 42] (fun b1 _ => [(42, .c (.bool b1))]) (fun b1 _ => [.box [.tree 2 (p1.system.vars.map TVar.enc), .tree 1 (p1.system.in_.map (eK .i64)), .tree 1 (p1.system.out_.map (eK .i64)), .tree 6 (p1.system.rules.map TRule.enc), .int .i64 p1.code], .box [.int .i64 0, .int .i64 0]]) (fun b1 => sys_judge_head_j1 p1 b1 = some r) ?_ ?_
 ·skip
  refine W_regionG fun k kp hk hp => ?_
  refine RunRest_cut 8 ?_
  refine go ?_
  by_cases h29 : (p1.system.vars.length : Int) > 400
  ·rw [if_pos h29] at hm
   have h29b : decide ((p1.system.vars.length : Int) > 400) = true := decide_eq_true h29
   refine RunRest_ops ?_
   refine gox h29b ?_
   refine hk _ _ ?_
   clear hk hp k kp
   refine KJoinM_n true () hm ?_
   exact ls
  ·rw [if_neg h29] at hm
   have h29b : decide ((p1.system.vars.length : Int) > 400) = false := decide_eq_false h29
   refine RunRest_cut 9 ?_
   refine gox h29b ?_
   by_cases h30 : (p1.system.rules.length : Int) > 400
   ·rw [if_pos h30] at hm
    have h30b : decide ((p1.system.rules.length : Int) > 400) = true := decide_eq_true h30
    refine RunRest_ops ?_
    refine gox (a2 h29b h30b) ?_
    refine hk _ _ ?_
    clear hk hp k kp
    refine KJoinM_n true () hm ?_
    exact ls
   ·rw [if_neg h30] at hm
    have h30b : decide ((p1.system.rules.length : Int) > 400) = false := decide_eq_false h30
    refine RunRest_cut 9 ?_
    refine gox (a2 h29b h30b) ?_
    by_cases h31 : (p1.system.in_.length : Int) > 400
    ·rw [if_pos h31] at hm
     have h31b : decide ((p1.system.in_.length : Int) > 400) = true := decide_eq_true h31
     refine RunRest_ops ?_
     refine gox (a2 h29b (a2 h30b h31b)) ?_
     refine hk _ _ ?_
     clear hk hp k kp
     refine KJoinM_n true () hm ?_
     exact ls
    ·rw [if_neg h31] at hm
     have h31b : decide ((p1.system.in_.length : Int) > 400) = false := decide_eq_false h31
     refine RunRest_ops ?_
     refine gox (a2 h29b (a2 h30b h31b)) ?_
     refine hk _ _ ?_
     clear hk hp k kp
     refine KJoinM_n (decide ((p1.system.out_.length : Int) > 400)) () hm ?_
     exact ls
 ·rintro b1 _ hm
  replace hm : sys_judge_head_j1 p1 b1 = some r := hm
  refine W_eqm ?_
  unfold sys_judge_head_j1 at hm
  by_cases h1 : b1 = true
  ·rw [if_pos h1] at hm
   refine W_condt rfl (h1) ?_
   refine W_rg [0, 42, 43] ?_
   refine W_ret ?_
   refine KThen_r ?_
   refine KBody_ret [.box [.tree 2 (p1.system.vars.map TVar.enc), .tree 1 (p1.system.in_.map (eK .i64)), .tree 1 (p1.system.out_.map (eK .i64)), .tree 6 (p1.system.rules.map TRule.enc), .int .i64 p1.code]] ?_
   obtain rfl := Option.some.inj hm
   exact en
  ·rw [if_neg h1] at hm
   refine W_condf rfl (Bool.eq_false_iff.2 h1) ?_
   refine W_skip ?_
   refine KThen_n (hk1 _ _ ?_)
   refine W_joinM (S := Unit) (V := Unit) [3, 4, 42, 44, 45, 46, 47, 48, 49, 50, 51, 52, 53, 54, 55, 56, 57, 58, 59, 60, 61, 62, 63, 64, 65, 66, 67, 68, 69, 70, 71, 72, 73, 74, 75, 76, 77] (fun _ _ => []) (fun _ _ => [.box [.tree 2 (p1.system.vars.map TVar.enc), .tree 1 (p1.system.in_.map (eK .i64)), .tree 1 (p1.system.out_.map (eK .i64)), .tree 6 (p1.system.rules.map TRule.enc), .int .i64 p1.code], .box [.int .i64 0, .int .i64 0]]) (fun _ => sys_judge_head_j2 p1 = some r) ?_ ?_
   ·skip
    refine W_rg [42, 44, 45, 46, 47] ?_
    refine W_block ?_
    obtain ⟨o3, hl3, hm3⟩ := bd hm
    refine W_loopM (S := Int) (V := Unit) (O := Unit ⊕ TFault) [3, 4, 50, 51, 52, 53, 54, 55, 56, 57, 58, 59, 60, 61, 62, 63, 64, 65, 66, 67, 68, 69, 70, 71, 72, 73, 74, 75, 76, 77] (fun x15 _ => [(50, .c (.int .i64 x15))]) (fun x15 _ => [.box [.tree 2 (p1.system.vars.map TVar.enc), .tree 1 (p1.system.in_.map (eK .i64)), .tree 1 (p1.system.out_.map (eK .i64)), .tree 6 (p1.system.rules.map TRule.enc), .int .i64 p1.code], .box [.int .i64 0, .int .i64 0]]) _ _ () hl3 ?_ ?_
    ·exact ls
    ·rintro x15 _ r3 hm hr3
     replace hm : sys_judge_head_l3 p1 x15 = some r3 := hm
     refine W_eqm ?_
     unfold sys_judge_head_l3 at hm
     refine W_rg [] ?_
     refine W_seq_k fun k7 hk7 => ?_
     by_cases h20 : x15 < (p1.system.vars.length : Int)
     ·rw [if_pos h20] at hm
      refine W_condt rfl (decide_eq_true h20) ?_
      refine W_skip ?_
      refine KThen_n (hk7 _ _ ?_)
      refine W_seq_k fun k8 hk8 => ?_
      refine W_block ?_
      obtain ⟨hg21a, hm⟩ := gd hm
      refine W_rgx (em TVar.enc p1.system.vars x15.toNat) [51, 52, 53, 54] ?_
      refine W_seq_k fun k9 hk9 => ?_
      refine W_joinM (S := Bool) (V := Unit) [55, 56, 57, 58, 59, 60, 61, 62] (fun b16 _ => [(62, .c (.bool b16))]) (fun b16 _ => [.box [.tree 2 (p1.system.vars.map TVar.enc), .tree 1 (p1.system.in_.map (eK .i64)), .tree 1 (p1.system.out_.map (eK .i64)), .tree 6 (p1.system.rules.map TRule.enc), .int .i64 p1.code], .box [.int .i64 0, .int .i64 0], .box [.int .u8 ((p1.system.vars.getD x15.toNat default).elem), .int .i64 ((p1.system.vars.getD x15.toNat default).n)]]) (fun b16 => sys_judge_head_j5 p1 x15 b16 = some r3) ?_ ?_
      ·skip
       refine W_regionG fun k kp hk hp => ?_
       refine RunRest_cut 4 ?_
       refine go ?_
       by_cases h27 : ¬ ((p1.system.vars.getD x15.toNat default).elem) = 105
       ·rw [if_pos h27] at hm
        have h27b : (((p1.system.vars.getD x15.toNat default).elem) != 105) = true := bne_iff_ne.2 h27
        refine RunRest_ops ?_
        refine gox h27b ?_
        refine hk _ _ ?_
        clear hk hp k kp
        refine KJoinM_n (((p1.system.vars.getD x15.toNat default).elem) != 98) () hm ?_
        exact ls
       ·rw [if_neg h27] at hm
        have h27b : (((p1.system.vars.getD x15.toNat default).elem) != 105) = false := bne_eq_false_iff_eq.2 (Decidable.not_not.1 h27)
        refine RunRest_ops ?_
        refine gox h27b ?_
        refine hk _ _ ?_
        clear hk hp k kp
        refine KJoinM_n false () hm ?_
        exact ls
      ·rintro b16 _ hm
       replace hm : sys_judge_head_j5 p1 x15 b16 = some r3 := hm
       refine W_eqm ?_
       unfold sys_judge_head_j5 at hm
       by_cases h22 : b16 = true
       ·rw [if_pos h22] at hm
        refine W_condt rfl (h22) ?_
        refine W_rg [0, 3, 4, 48, 49, 50, 62, 63, 64, 65] ?_
        have ho23 := out_eq hm hr3
        subst ho23
        replace hm : some (TFault.mk 10 (IntKind.wrap .i64 ((-2) - x15))) = some r := hm3
        refine W_ret ?_
        refine KThen_r ?_
        refine KBlock_r ?_
        refine KThen_r ?_
        refine KLoopM_r ?_
        refine KBlock_r ?_
        refine KJoinM_r ?_
        refine KBody_ret [.box [.tree 2 (p1.system.vars.map TVar.enc), .tree 1 (p1.system.in_.map (eK .i64)), .tree 1 (p1.system.out_.map (eK .i64)), .tree 6 (p1.system.rules.map TRule.enc), .int .i64 p1.code]] ?_
        obtain rfl := Option.some.inj hm
        exact en
       ·rw [if_neg h22] at hm
        refine W_condf rfl (Bool.eq_false_iff.2 h22) ?_
        refine W_skip ?_
        refine KThen_n (hk9 _ _ ?_)
        refine W_joinM (S := Bool) (V := Unit) [4, 62, 66, 67, 68, 69, 70, 71, 72, 73] (fun b17 _ => [(73, .c (.bool b17))]) (fun b17 _ => [.box [.tree 2 (p1.system.vars.map TVar.enc), .tree 1 (p1.system.in_.map (eK .i64)), .tree 1 (p1.system.out_.map (eK .i64)), .tree 6 (p1.system.rules.map TRule.enc), .int .i64 p1.code], .box [.int .i64 0, .int .i64 0], .box [.int .u8 ((p1.system.vars.getD x15.toNat default).elem), .int .i64 ((p1.system.vars.getD x15.toNat default).n)]]) (fun b17 => sys_judge_head_j6 x15 b17 = some r3) ?_ ?_
        ·skip
         refine W_regionG fun k kp hk hp => ?_
         refine RunRest_cut 4 ?_
         refine go ?_
         by_cases h26 : ((p1.system.vars.getD x15.toNat default).n) < 0
         ·rw [if_pos h26] at hm
          have h26b : decide (((p1.system.vars.getD x15.toNat default).n) < 0) = true := decide_eq_true h26
          refine RunRest_ops ?_
          refine gox h26b ?_
          refine hk _ _ ?_
          clear hk hp k kp
          refine KJoinM_n true () hm ?_
          exact ls
         ·rw [if_neg h26] at hm
          have h26b : decide (((p1.system.vars.getD x15.toNat default).n) < 0) = false := decide_eq_false h26
          refine RunRest_ops ?_
          refine gox h26b ?_
          refine hk _ _ ?_
          clear hk hp k kp
          refine KJoinM_n (decide (((p1.system.vars.getD x15.toNat default).n) > 300)) () hm ?_
          exact ls
        ·rintro b17 _ hm
         replace hm : sys_judge_head_j6 x15 b17 = some r3 := hm
         refine W_eqm ?_
         unfold sys_judge_head_j6 at hm
         by_cases h24 : b17 = true
         ·rw [if_pos h24] at hm
          refine W_condt rfl (h24) ?_
          refine W_rg [0, 3, 48, 49, 50, 73, 74, 75, 76] ?_
          have ho25 := out_eq hm hr3
          subst ho25
          replace hm : some (TFault.mk 13 (IntKind.wrap .i64 ((-2) - x15))) = some r := hm3
          refine W_ret ?_
          refine KBlock_r ?_
          refine KThen_r ?_
          refine KLoopM_r ?_
          refine KBlock_r ?_
          refine KJoinM_r ?_
          refine KBody_ret [.box [.tree 2 (p1.system.vars.map TVar.enc), .tree 1 (p1.system.in_.map (eK .i64)), .tree 1 (p1.system.out_.map (eK .i64)), .tree 6 (p1.system.rules.map TRule.enc), .int .i64 p1.code]] ?_
          obtain rfl := Option.some.inj hm
          exact en
         ·rw [if_neg h24] at hm
          refine W_condf rfl (Bool.eq_false_iff.2 h24) ?_
          refine W_skip ?_
          refine KBlock_n ?_
          refine KThen_n (hk8 _ _ ?_)
          refine W_rn ?_
          refine KLoopM_n (IntKind.wrap .i64 (x15 + 1)) () hm ?_
          exact ls
     ·rw [if_neg h20] at hm
      refine W_condf rfl (decide_eq_false h20) ?_
      refine W_exit ?_
      have ho28 := out_eq hm hr3
      subst ho28
      replace hm : sys_judge_head_j2 p1 = some r := hm3
      refine KThen_x ?_
      refine KLoopM_x ?_
      refine KBlock_hit ?_
      refine KJoinM_n () () hm ?_
      exact ls
   ·rintro _ _ hm
    replace hm : sys_judge_head_j2 p1 = some r := hm
    refine W_eqm ?_
    unfold sys_judge_head_j2 at hm
    refine W_joinM (S := Unit) (V := Unit) [5, 6, 78, 79, 80, 81, 82, 83, 84, 85, 86, 87, 88, 89, 90, 91, 92, 93, 94, 95, 96, 97, 98, 99, 100, 101, 102, 103, 104] (fun _ _ => []) (fun _ _ => [.box [.tree 2 (p1.system.vars.map TVar.enc), .tree 1 (p1.system.in_.map (eK .i64)), .tree 1 (p1.system.out_.map (eK .i64)), .tree 6 (p1.system.rules.map TRule.enc), .int .i64 p1.code], .box [.int .i64 0, .int .i64 0]]) (fun _ => sys_judge_head_j3 p1 = some r) ?_ ?_
    ·skip
     refine W_rg [78, 79, 80, 81] ?_
     refine W_block ?_
     obtain ⟨o2, hl2, hm2⟩ := bd hm
     refine W_loopM (S := Int) (V := Unit) (O := Unit ⊕ TFault) [5, 6, 84, 85, 86, 87, 88, 89, 90, 91, 92, 93, 94, 95, 96, 97, 98, 99, 100, 101, 102, 103, 104] (fun x9 _ => [(84, .c (.int .i64 x9))]) (fun x9 _ => [.box [.tree 2 (p1.system.vars.map TVar.enc), .tree 1 (p1.system.in_.map (eK .i64)), .tree 1 (p1.system.out_.map (eK .i64)), .tree 6 (p1.system.rules.map TRule.enc), .int .i64 p1.code], .box [.int .i64 0, .int .i64 0]]) _ _ () hl2 ?_ ?_
     ·exact ls
     ·rintro x9 _ r2 hm hr2
      replace hm : sys_judge_head_l2 p1 x9 = some r2 := hm
      refine W_eqm ?_
      unfold sys_judge_head_l2 at hm
      refine W_rg [] ?_
      refine W_seq_k fun k4 hk4 => ?_
      by_cases h9 : x9 < (p1.system.in_.length : Int)
      ·rw [if_pos h9] at hm
       refine W_condt rfl (decide_eq_true h9) ?_
       refine W_skip ?_
       refine KThen_n (hk4 _ _ ?_)
       refine W_seq_k fun k5 hk5 => ?_
       refine W_block ?_
       obtain ⟨hg10a, hm⟩ := gd hm
       refine W_rgx (em (eK .i64) p1.system.in_ x9.toNat) [85, 86, 87, 88] ?_
       refine W_seq_k fun k6 hk6 => ?_
       refine W_regF [89, 90, 91] fun k kp hk hp => ?_
       refine go ?_
       obtain ⟨y10, hc11, hm⟩ := bd hm
       refine RA (sys_judge_is_ok (p1.system.in_.getD x9.toNat default) p1  _ hc11) [0] ?_
       rintro p σ' hq12 _
       obtain ⟨rfl, rfl⟩ := hq12
       refine RunRest_ops ?_
       refine go ?_
       refine hk _ _ ?_
       clear hk hp k kp
       by_cases h13 : y10 = true
       ·rw [if_pos h13] at hm
        refine W_condf rfl (by rw [show y10 = true from (h13)]; rfl) ?_
        refine W_skip ?_
        refine KThen_n (hk6 _ _ ?_)
        obtain ⟨hg14a, hm⟩ := gd hm
        refine W_regF [5, 6, 92, 94, 95, 96, 97, 98, 99, 100, 101] fun k kp hk hp => ?_
        refine go ?_
        obtain ⟨y11, hc15, hm⟩ := bd hm
        refine RP (fun _ => slices_Contains_int_int_ok (p1.system.in_.take x9.toNat) (p1.system.in_.getD x9.toNat default) _ hc15) ?_
        refine RunRest_ops ?_
        refine go ?_
        refine hk _ _ ?_
        clear hk hp k kp
        by_cases h16 : y11 = true
        ·rw [if_pos h16] at hm
         refine W_condt rfl (h16) ?_
         refine W_rg [0, 82, 83, 84, 102, 103] ?_
         have ho17 := out_eq hm hr2
         subst ho17
         replace hm : some (TFault.mk 8 (-1)) = some r := hm2
         refine W_ret ?_
         refine KBlock_r ?_
         refine KThen_r ?_
         refine KLoopM_r ?_
         refine KBlock_r ?_
         refine KJoinM_r ?_
         refine KBody_ret [.box [.tree 2 (p1.system.vars.map TVar.enc), .tree 1 (p1.system.in_.map (eK .i64)), .tree 1 (p1.system.out_.map (eK .i64)), .tree 6 (p1.system.rules.map TRule.enc), .int .i64 p1.code]] ?_
         obtain rfl := Option.some.inj hm
         exact en
        ·rw [if_neg h16] at hm
         refine W_condf rfl (Bool.eq_false_iff.2 h16) ?_
         refine W_skip ?_
         refine KBlock_n ?_
         refine KThen_n (hk5 _ _ ?_)
         refine W_rn ?_
         refine KLoopM_n (IntKind.wrap .i64 (x9 + 1)) () hm ?_
         exact ls
       ·rw [if_neg h13] at hm
        refine W_condt rfl (by rw [show y10 = false from (Bool.eq_false_iff.2 h13)]; rfl) ?_
        refine W_rg [0, 5, 6, 82, 83, 84, 92, 93] ?_
        have ho18 := out_eq hm hr2
        subst ho18
        replace hm : some (TFault.mk 16 (-1)) = some r := hm2
        refine W_ret ?_
        refine KThen_r ?_
        refine KBlock_r ?_
        refine KThen_r ?_
        refine KLoopM_r ?_
        refine KBlock_r ?_
        refine KJoinM_r ?_
        refine KBody_ret [.box [.tree 2 (p1.system.vars.map TVar.enc), .tree 1 (p1.system.in_.map (eK .i64)), .tree 1 (p1.system.out_.map (eK .i64)), .tree 6 (p1.system.rules.map TRule.enc), .int .i64 p1.code]] ?_
        obtain rfl := Option.some.inj hm
        exact en
      ·rw [if_neg h9] at hm
       refine W_condf rfl (decide_eq_false h9) ?_
       refine W_exit ?_
       have ho19 := out_eq hm hr2
       subst ho19
       replace hm : sys_judge_head_j3 p1 = some r := hm2
       refine KThen_x ?_
       refine KLoopM_x ?_
       refine KBlock_hit ?_
       refine KJoinM_n () () hm ?_
       exact ls
    ·rintro _ _ hm
     replace hm : sys_judge_head_j3 p1 = some r := hm
     refine W_eqm ?_
     unfold sys_judge_head_j3 at hm
     refine W_joinM (S := Unit) (V := Unit) [0, 8, 105, 106, 107, 108, 109, 110, 111, 112, 113, 114, 115, 116, 117, 118, 119, 120] (fun _ _ => []) (fun _ _ => [.box [.tree 2 (p1.system.vars.map TVar.enc), .tree 1 (p1.system.in_.map (eK .i64)), .tree 1 (p1.system.out_.map (eK .i64)), .tree 6 (p1.system.rules.map TRule.enc), .int .i64 p1.code], .box [.int .i64 0, .int .i64 0]]) (fun _ => sys_judge_head_j4 = some r) ?_ ?_
     ·skip
      refine W_rg [105, 106, 107, 108] ?_
      refine W_block ?_
      obtain ⟨o1, hl1, hm1⟩ := bd hm
      refine W_loopM (S := Int) (V := Unit) (O := Unit ⊕ TFault) [8, 111, 112, 113, 114, 115, 116, 117, 118, 119, 120] (fun x4 _ => [(111, .c (.int .i64 x4))]) (fun x4 _ => [.box [.tree 2 (p1.system.vars.map TVar.enc), .tree 1 (p1.system.in_.map (eK .i64)), .tree 1 (p1.system.out_.map (eK .i64)), .tree 6 (p1.system.rules.map TRule.enc), .int .i64 p1.code], .box [.int .i64 0, .int .i64 0]]) _ _ () hl1 ?_ ?_
      ·exact ls
      ·rintro x4 _ r1 hm hr1
       replace hm : sys_judge_head_l1 p1 x4 = some r1 := hm
       refine W_eqm ?_
       unfold sys_judge_head_l1 at hm
       refine W_rg [] ?_
       refine W_seq_k fun k2 hk2 => ?_
       by_cases h2 : x4 < (p1.system.out_.length : Int)
       ·rw [if_pos h2] at hm
        refine W_condt rfl (decide_eq_true h2) ?_
        refine W_skip ?_
        refine KThen_n (hk2 _ _ ?_)
        refine W_seq_k fun k3 hk3 => ?_
        refine W_block ?_
        obtain ⟨hg3a, hm⟩ := gd hm
        refine W_rgx (em (eK .i64) p1.system.out_ x4.toNat) [112, 113, 114] ?_
        refine W_regF [8, 115, 116, 117] fun k kp hk hp => ?_
        refine go ?_
        obtain ⟨y5, hc4, hm⟩ := bd hm
        refine RA (sys_judge_is_ok (p1.system.out_.getD x4.toNat default) p1  _ hc4) [0] ?_
        rintro p σ' hq5 _
        obtain ⟨rfl, rfl⟩ := hq5
        refine RunRest_ops ?_
        refine go ?_
        refine hk _ _ ?_
        clear hk hp k kp
        by_cases h6 : y5 = true
        ·rw [if_pos h6] at hm
         refine W_condf rfl (by rw [show y5 = true from (h6)]; rfl) ?_
         refine W_skip ?_
         refine KBlock_n ?_
         refine KThen_n (hk3 _ _ ?_)
         refine W_rn ?_
         refine KLoopM_n (IntKind.wrap .i64 (x4 + 1)) () hm ?_
         exact ls
        ·rw [if_neg h6] at hm
         refine W_condt rfl (by rw [show y5 = false from (Bool.eq_false_iff.2 h6)]; rfl) ?_
         refine W_rg [0, 109, 110, 111, 118, 119] ?_
         have ho7 := out_eq hm hr1
         subst ho7
         replace hm : some (TFault.mk 16 (-1)) = some r := hm1
         refine W_ret ?_
         refine KBlock_r ?_
         refine KThen_r ?_
         refine KLoopM_r ?_
         refine KBlock_r ?_
         refine KJoinM_r ?_
         refine KBody_ret [.box [.tree 2 (p1.system.vars.map TVar.enc), .tree 1 (p1.system.in_.map (eK .i64)), .tree 1 (p1.system.out_.map (eK .i64)), .tree 6 (p1.system.rules.map TRule.enc), .int .i64 p1.code]] ?_
         obtain rfl := Option.some.inj hm
         exact en
       ·rw [if_neg h2] at hm
        refine W_condf rfl (decide_eq_false h2) ?_
        refine W_exit ?_
        have ho8 := out_eq hm hr1
        subst ho8
        replace hm : sys_judge_head_j4 = some r := hm1
        refine KThen_x ?_
        refine KLoopM_x ?_
        refine KBlock_hit ?_
        refine KJoinM_n () () hm ?_
        exact ls
     ·rintro _ _ hm
      replace hm : sys_judge_head_j4 = some r := hm
      refine W_eqm ?_
      unfold sys_judge_head_j4 at hm
      refine W_rg [121] ?_
      refine W_ret ?_
      refine KBody_ret [.box [.tree 2 (p1.system.vars.map TVar.enc), .tree 1 (p1.system.in_.map (eK .i64)), .tree 1 (p1.system.out_.map (eK .i64)), .tree 6 (p1.system.rules.map TRule.enc), .int .i64 p1.code]] ?_
      obtain rfl := Option.some.inj hm
      exact en
end Pam

/- the walk of sys_Check0, printed by a program of ours -/
namespace Pam
open Go Go.Proofs
set_option maxRecDepth 100000 in
set_option maxHeartbeats 8000000 in
theorem sys_Check0_ok (p1 : TSystem) (r : TFault) (hm : sys_Check0 p1 = some r) : SpecF Try.prog 33 [.a [.tree 2 (p1.vars.map TVar.enc), .tree 1 (p1.in_.map (eK .i64)), .tree 1 (p1.out_.map (eK .i64)), .tree 6 (p1.rules.map TRule.enc)]] (.a [.int .i64 ((r).code), .int .i64 ((r).at_)]) := by
 refine Spec_ofD 109 [.cell 2 33] Try.func33 rfl rfl rfl (by kernel_rfl) (by simp) ?_
 refine W_eqf ?_
 unfold sys_Check0 at hm
 refine W_rg [0] ?_
 refine W_rg [18, 19, 20] ?_
 refine W_seq_k fun k1 hk1 => ?_
 refine W_regF [21, 22] fun k kp hk hp => ?_
 refine go ?_
 obtain ⟨y1, hc1, hm⟩ := bd hm
 refine RA (sys_judge_head_ok (Tjudge.mk p1 0)  _ hc1) [2] ?_
 rintro p σ' hq2 _
 obtain ⟨rfl, rfl⟩ := hq2
 refine RunRest_ops ?_
 refine go ?_
 refine hk _ _ ?_
 clear hk hp k kp
 refine W_rg [23, 24] ?_
 by_cases h3 : ¬ ((y1).code) = 0
 ·rw [if_pos h3] at hm
  refine W_condt rfl (bne_iff_ne.2 h3) ?_
  refine W_rg [1, 3, 4, 25, 26] ?_
  refine W_ret ?_
  refine KThen_r ?_
  refine KBody_ret [] ?_
  obtain rfl := Option.some.inj hm
  exact en
 ·rw [if_neg h3] at hm
  refine W_condf rfl (bne_eq_false_iff_eq.2 (Decidable.not_not.1 h3)) ?_
  refine W_skip ?_
  refine KThen_n (hk1 _ _ ?_)
  obtain ⟨⟨hg4a, ⟨hg4bx, hg4by⟩⟩, hm⟩ := gd hm
  refine W_rg [4, 25, 27, 28, 29, 30] ?_
  refine W_eqa [.box [.tree 2 (p1.vars.map TVar.enc), .tree 1 (p1.in_.map (eK .i64)), .tree 1 (p1.out_.map (eK .i64)), .tree 6 (p1.rules.map TRule.enc)], .box [.int .i64 0, .int .i64 0], .box [.tree 2 (p1.vars.map TVar.enc), .tree 1 (p1.in_.map (eK .i64)), .tree 1 (p1.out_.map (eK .i64)), .tree 6 (p1.rules.map TRule.enc), .int .i64 0], .box [.int .i64 ((y1).code), .int .i64 ((y1).at_)], .arr 1 0 4 ((List.replicate p1.vars.length false).map eB)] ?_
  refine W_joinM (S := (List Bool)) (V := Unit) [5, 7, 31, 32, 33, 34, 35, 36, 37, 38, 39, 40, 41] (fun l3 _ => [(5, .c (.osl 4 0 0 l3.length))]) (fun l3 _ => [.box [.tree 2 (p1.vars.map TVar.enc), .tree 1 (p1.in_.map (eK .i64)), .tree 1 (p1.out_.map (eK .i64)), .tree 6 (p1.rules.map TRule.enc)], .box [.int .i64 0, .int .i64 0], .box [.tree 2 (p1.vars.map TVar.enc), .tree 1 (p1.in_.map (eK .i64)), .tree 1 (p1.out_.map (eK .i64)), .tree 6 (p1.rules.map TRule.enc), .int .i64 0], .box [.int .i64 ((y1).code), .int .i64 ((y1).at_)], .arr 1 0 4 (l3.map eB)]) (fun l3 => sys_Check0_j1 p1 l3 = some r) ?_ ?_
  ·skip
   refine W_rg [31] ?_
   refine W_block ?_
   obtain ⟨o5, hl5, hm5⟩ := bd hm
   refine W_loopM (S := ((List Bool) × Int)) (V := Unit) (O := (List Bool)) [5, 7, 34, 35, 36, 37, 38, 39, 40, 41] (fun (l25, x26) _ => [(5, .c (.osl 4 0 0 l25.length)), (34, .c (.int .i64 x26))]) (fun (l25, x26) _ => [.box [.tree 2 (p1.vars.map TVar.enc), .tree 1 (p1.in_.map (eK .i64)), .tree 1 (p1.out_.map (eK .i64)), .tree 6 (p1.rules.map TRule.enc)], .box [.int .i64 0, .int .i64 0], .box [.tree 2 (p1.vars.map TVar.enc), .tree 1 (p1.in_.map (eK .i64)), .tree 1 (p1.out_.map (eK .i64)), .tree 6 (p1.rules.map TRule.enc), .int .i64 0], .box [.int .i64 ((y1).code), .int .i64 ((y1).at_)], .arr 1 0 4 (l25.map eB)]) _ _ () hl5 ?_ ?_
   ·exact ls
   ·rintro ⟨l25, x26⟩ _ r5 hm hr5
    replace hm : sys_Check0_l5 p1 l25 x26 = some r5 := hm
    refine W_eqm ?_
    unfold sys_Check0_l5 at hm
    refine W_rg [] ?_
    refine W_seq_k fun k10 hk10 => ?_
    by_cases h26 : x26 < (p1.in_.length : Int)
    ·rw [if_pos h26] at hm
     refine W_condt rfl (decide_eq_true h26) ?_
     refine W_skip ?_
     refine KThen_n (hk10 _ _ ?_)
     refine W_seq_k fun k11 hk11 => ?_
     refine W_block ?_
     obtain ⟨hg27a, hm⟩ := gd hm
     refine W_rgx (em (eK .i64) p1.in_ x26.toNat) [35, 36, 37] ?_
     obtain ⟨hg28a, hm⟩ := gd hm
     refine W_rnx (em eB l25 ((p1.in_.getD x26.toNat default).toNat)) ?_
     refine KBlock_n ?_
     refine KThen_n (hk11 _ _ ?_)
     refine W_rn ?_
     refine KLoopM_n ((l25.set ((p1.in_.getD x26.toNat default).toNat) true), (IntKind.wrap .i64 (x26 + 1))) () hm ?_
     exact ls
    ·rw [if_neg h26] at hm
     refine W_condf rfl (decide_eq_false h26) ?_
     refine W_exit ?_
     have ho29 := out_eq hm hr5
     subst ho29
     replace hm : sys_Check0_j1 p1 l25 = some r := hm5
     refine KThen_x ?_
     refine KLoopM_x ?_
     refine KBlock_hit ?_
     refine KJoinM_n l25 () hm ?_
     exact ls
  ·rintro l3 _ hm
   replace hm : sys_Check0_j1 p1 l3 = some r := hm
   refine W_eqm ?_
   unfold sys_Check0_j1 at hm
   refine W_joinM (S := Unit) (V := Unit) [3, 5, 8, 9, 10, 42, 43, 44, 45, 46, 47, 48, 49, 50, 51, 52, 53, 54, 55, 56, 57, 58, 59, 60, 61, 62, 63] (fun _ _ => [(5, .c (.osl 4 0 0 l3.length))]) (fun _ _ => [.box [.tree 2 (p1.vars.map TVar.enc), .tree 1 (p1.in_.map (eK .i64)), .tree 1 (p1.out_.map (eK .i64)), .tree 6 (p1.rules.map TRule.enc)], .box [.int .i64 0, .int .i64 0], .box [.tree 2 (p1.vars.map TVar.enc), .tree 1 (p1.in_.map (eK .i64)), .tree 1 (p1.out_.map (eK .i64)), .tree 6 (p1.rules.map TRule.enc), .int .i64 0], .box [.int .i64 ((y1).code), .int .i64 ((y1).at_)], .arr 1 0 4 (l3.map eB)]) (fun _ => sys_Check0_j2 p1 l3 = some r) ?_ ?_
   ·skip
    refine W_rg [42] ?_
    refine W_block ?_
    obtain ⟨o4, hl4, hm4⟩ := bd hm
    refine W_loopM (S := Unit) (V := Unit) (O := Unit) [5, 8, 9, 10, 45, 46, 47, 48, 49, 50, 51, 52, 53, 54, 55, 56, 57, 58, 59, 60, 61, 62, 63] (fun _ _ => [(5, .c (.osl 4 0 0 l3.length)), (45, .c (.int .i64 0))]) (fun _ _ => [.box [.tree 2 (p1.vars.map TVar.enc), .tree 1 (p1.in_.map (eK .i64)), .tree 1 (p1.out_.map (eK .i64)), .tree 6 (p1.rules.map TRule.enc)], .box [.int .i64 0, .int .i64 0], .box [.tree 2 (p1.vars.map TVar.enc), .tree 1 (p1.in_.map (eK .i64)), .tree 1 (p1.out_.map (eK .i64)), .tree 6 (p1.rules.map TRule.enc), .int .i64 0], .box [.int .i64 ((y1).code), .int .i64 ((y1).at_)], .arr 1 0 4 (l3.map eB)]) _ _ () hl4 ?_ ?_
    ·exact ls
    ·rintro _ _ r4 hm hr4
     replace hm : sys_Check0_l4 p1 = some r4 := hm
     refine W_eqm ?_
     unfold sys_Check0_l4 at hm
     refine W_rg [] ?_
     refine W_seq_k fun k7 hk7 => ?_
     by_cases h23 : 0 < (p1.rules.length : Int)
     ·rw [if_pos h23] at hm
      refine W_condt rfl (decide_eq_true h23) ?_
      refine W_skip ?_
      refine KThen_n (hk7 _ _ ?_)
      refine W_seq_k fun k8 hk8 => ?_
      refine W_block ?_
      obtain ⟨hg24a, hm⟩ := gd hm
      refine W_rgx (em TRule.enc p1.rules 0) [46, 47, 48, 49] ?_
      refine W_seq_k fun k9 hk9 => ?_
      refine W_regF [50, 51, 52, 53] fun k kp hk hp => ?_
      refine go ?_
      cases hm
     ·rw [if_neg h23] at hm
      refine W_condf rfl (decide_eq_false h23) ?_
      refine W_exit ?_
      have ho25 := out_eq hm hr4
      subst ho25
      replace hm : sys_Check0_j2 p1 l3 = some r := hm4
      refine KThen_x ?_
      refine KLoopM_x ?_
      refine KBlock_hit ?_
      refine KJoinM_n () () hm ?_
      exact ls
   ·rintro _ _ hm
    replace hm : sys_Check0_j2 p1 l3 = some r := hm
    refine W_eqm ?_
    unfold sys_Check0_j2 at hm
    refine W_joinM (S := Unit) (V := Unit) [5, 11, 12, 13, 15, 64, 65, 66, 67, 68, 69, 70, 71, 72, 73, 74, 75, 76, 77, 78, 79, 80, 81, 82, 83, 84, 85, 86, 87, 88, 89, 90, 91, 92, 93] (fun _ _ => [(5, .c (.osl 4 0 0 l3.length))]) (fun _ _ => [.box [.tree 2 (p1.vars.map TVar.enc), .tree 1 (p1.in_.map (eK .i64)), .tree 1 (p1.out_.map (eK .i64)), .tree 6 (p1.rules.map TRule.enc)], .box [.int .i64 0, .int .i64 0], .box [.tree 2 (p1.vars.map TVar.enc), .tree 1 (p1.in_.map (eK .i64)), .tree 1 (p1.out_.map (eK .i64)), .tree 6 (p1.rules.map TRule.enc), .int .i64 0], .box [.int .i64 ((y1).code), .int .i64 ((y1).at_)], .arr 1 0 4 (l3.map eB)]) (fun _ => sys_Check0_j3 p1 l3 = some r) ?_ ?_
    ·skip
     refine W_rg [64] ?_
     refine W_block ?_
     obtain ⟨o2, hl2, hm2⟩ := bd hm
     refine W_loopM (S := Int) (V := Unit) (O := Unit ⊕ TFault) [5, 11, 12, 13, 15, 67, 68, 69, 70, 71, 72, 73, 74, 75, 76, 77, 78, 79, 80, 81, 82, 83, 84, 85, 86, 87, 88, 89, 90, 91, 92, 93] (fun x10 _ => [(5, .c (.osl 4 0 0 l3.length)), (67, .c (.int .i64 x10))]) (fun x10 _ => [.box [.tree 2 (p1.vars.map TVar.enc), .tree 1 (p1.in_.map (eK .i64)), .tree 1 (p1.out_.map (eK .i64)), .tree 6 (p1.rules.map TRule.enc)], .box [.int .i64 0, .int .i64 0], .box [.tree 2 (p1.vars.map TVar.enc), .tree 1 (p1.in_.map (eK .i64)), .tree 1 (p1.out_.map (eK .i64)), .tree 6 (p1.rules.map TRule.enc), .int .i64 0], .box [.int .i64 ((y1).code), .int .i64 ((y1).at_)], .arr 1 0 4 (l3.map eB)]) _ _ () hl2 ?_ ?_
     ·exact ls
     ·rintro x10 _ r2 hm hr2
      replace hm : sys_Check0_l2 p1 l3 x10 = some r2 := hm
      refine W_eqm ?_
      unfold sys_Check0_l2 at hm
      refine W_rg [] ?_
      refine W_seq_k fun k4 hk4 => ?_
      by_cases h11 : x10 < (p1.rules.length : Int)
      ·rw [if_pos h11] at hm
       refine W_condt rfl (decide_eq_true h11) ?_
       refine W_skip ?_
       refine KThen_n (hk4 _ _ ?_)
       refine W_joinM (S := Unit) (V := Unit) [5, 11, 12, 13, 15, 68, 69, 70, 71, 72, 73, 74, 75, 76, 77, 78, 79, 80, 81, 82, 83, 84, 85, 86, 87, 88, 89, 90, 91, 92] (fun _ _ => [(5, .c (.osl 4 0 0 l3.length))]) (fun _ _ => [.box [.tree 2 (p1.vars.map TVar.enc), .tree 1 (p1.in_.map (eK .i64)), .tree 1 (p1.out_.map (eK .i64)), .tree 6 (p1.rules.map TRule.enc)], .box [.int .i64 0, .int .i64 0], .box [.tree 2 (p1.vars.map TVar.enc), .tree 1 (p1.in_.map (eK .i64)), .tree 1 (p1.out_.map (eK .i64)), .tree 6 (p1.rules.map TRule.enc), .int .i64 0], .box [.int .i64 ((y1).code), .int .i64 ((y1).at_)], .arr 1 0 4 (l3.map eB)]) (fun _ => sys_Check0_j5 x10 = some r2) ?_ ?_
       ·skip
        refine W_block ?_
        obtain ⟨hg12a, hm⟩ := gd hm
        refine W_rgx (em TRule.enc p1.rules x10.toNat) [68, 69, 70, 71] ?_
        refine W_rg [72, 73] ?_
        refine W_joinM (S := (List Int)) (V := Unit) [5, 12, 13, 74, 75, 76, 77, 78] (fun l11 _ => [(5, .c (.osl 4 0 0 l3.length)), (13, .c (.tree 1 (l11.map (eK .i64))))]) (fun l11 _ => [.box [.tree 2 (p1.vars.map TVar.enc), .tree 1 (p1.in_.map (eK .i64)), .tree 1 (p1.out_.map (eK .i64)), .tree 6 (p1.rules.map TRule.enc)], .box [.int .i64 0, .int .i64 0], .box [.tree 2 (p1.vars.map TVar.enc), .tree 1 (p1.in_.map (eK .i64)), .tree 1 (p1.out_.map (eK .i64)), .tree 6 (p1.rules.map TRule.enc), .int .i64 0], .box [.int .i64 ((y1).code), .int .i64 ((y1).at_)], .arr 1 0 4 (l3.map eB), .box [.int .i64 ((p1.rules.getD x10.toNat default).op), .int .i64 ((p1.rules.getD x10.toNat default).k), .int .i64 ((p1.rules.getD x10.toNat default).out_), .int .i64 ((p1.rules.getD x10.toNat default).n), .tree 1 (((p1.rules.getD x10.toNat default).a).map (eK .i64)), .tree 4 (((p1.rules.getD x10.toNat default).e).map TPush.enc)]]) (fun l11 => sys_Check0_j6 l3 x10 l11 = some r2) ?_ ?_
        ·skip
         refine W_rg [74, 75] ?_
         by_cases h20 : ((p1.rules.getD x10.toNat default).op) ≥ 14
         ·rw [if_pos h20] at hm
          refine W_condt rfl (decide_eq_true h20) ?_
          refine W_region fun k kp hk hp => ?_
          refine go ?_
          obtain ⟨y16, hc21, hm⟩ := bd hm
          refine RP (fun _ => sys_Uses_ok (p1.rules.getD x10.toNat default) _ hc21) ?_
          refine RunRest_ops ?_
          refine go ?_
          refine hk _ _ ?_
          clear hk hp k kp
          refine KJoinM_n y16 () hm ?_
          exact ls
         ·rw [if_neg h20] at hm
          refine W_condf rfl (decide_eq_false h20) ?_
          refine W_skip ?_
          refine KJoinM_n ((p1.rules.getD x10.toNat default).a) () hm ?_
          exact ls
        ·rintro l11 _ hm
         replace hm : sys_Check0_j6 l3 x10 l11 = some r2 := hm
         refine W_eqm ?_
         unfold sys_Check0_j6 at hm
         refine W_rg [13] ?_
         refine W_block ?_
         obtain ⟨o3, hl3, hm3⟩ := bd hm
         refine W_loopM (S := Int) (V := Unit) (O := Unit ⊕ TFault) [5, 15, 81, 82, 83, 84, 85, 86, 87, 88, 89, 90, 91, 92] (fun x14 _ => [(5, .c (.osl 4 0 0 l3.length)), (81, .c (.int .i64 x14))]) (fun x14 _ => [.box [.tree 2 (p1.vars.map TVar.enc), .tree 1 (p1.in_.map (eK .i64)), .tree 1 (p1.out_.map (eK .i64)), .tree 6 (p1.rules.map TRule.enc)], .box [.int .i64 0, .int .i64 0], .box [.tree 2 (p1.vars.map TVar.enc), .tree 1 (p1.in_.map (eK .i64)), .tree 1 (p1.out_.map (eK .i64)), .tree 6 (p1.rules.map TRule.enc), .int .i64 0], .box [.int .i64 ((y1).code), .int .i64 ((y1).at_)], .arr 1 0 4 (l3.map eB), .box [.int .i64 ((p1.rules.getD x10.toNat default).op), .int .i64 ((p1.rules.getD x10.toNat default).k), .int .i64 ((p1.rules.getD x10.toNat default).out_), .int .i64 ((p1.rules.getD x10.toNat default).n), .tree 1 (((p1.rules.getD x10.toNat default).a).map (eK .i64)), .tree 4 (((p1.rules.getD x10.toNat default).e).map TPush.enc)]]) _ _ () hl3 ?_ ?_
         ·exact ls
         ·rintro x14 _ r3 hm hr3
          replace hm : sys_Check0_l3 l3 x10 l11 x14 = some r3 := hm
          refine W_eqm ?_
          unfold sys_Check0_l3 at hm
          refine W_rg [] ?_
          refine W_seq_k fun k5 hk5 => ?_
          by_cases h13 : x14 < (l11.length : Int)
          ·rw [if_pos h13] at hm
           refine W_condt rfl (decide_eq_true h13) ?_
           refine W_skip ?_
           refine KThen_n (hk5 _ _ ?_)
           refine W_seq_k fun k6 hk6 => ?_
           refine W_block ?_
           obtain ⟨hg14a, hm⟩ := gd hm
           refine W_rgx (em (eK .i64) l11 x14.toNat) [82, 83, 84] ?_
           obtain ⟨hg15a, hm⟩ := gd hm
           refine W_rgx (em eB l3 ((l11.getD x14.toNat default).toNat)) [15, 85, 86, 87, 88] ?_
           by_cases h16 : (l3.getD ((l11.getD x14.toNat default).toNat) default) = true
           ·rw [if_pos h16] at hm
            refine W_condf rfl (by rw [show (l3.getD ((l11.getD x14.toNat default).toNat) default) = true from (h16)]; rfl) ?_
            refine W_skip ?_
            refine KBlock_n ?_
            refine KThen_n (hk6 _ _ ?_)
            refine W_rn ?_
            refine KLoopM_n (IntKind.wrap .i64 (x14 + 1)) () hm ?_
            exact ls
           ·rw [if_neg h16] at hm
            refine W_condt rfl (by rw [show (l3.getD ((l11.getD x14.toNat default).toNat) default) = false from (Bool.eq_false_iff.2 h16)]; rfl) ?_
            refine W_rg [1, 5, 11, 65, 66, 67, 79, 80, 81, 89, 90, 91] ?_
            have ho17 := out_eq hm hr3
            subst ho17
            replace hm : some (.inr (.inr (TFault.mk 9 x10))) = some r2 := hm3
            have ho18 := out_eq hm hr2
            subst ho18
            replace hm : some (TFault.mk 9 x10) = some r := hm2
            refine W_ret ?_
            refine KBlock_r ?_
            refine KThen_r ?_
            refine KLoopM_r ?_
            refine KBlock_r ?_
            refine KBlock_r ?_
            refine KJoinM_r ?_
            refine KLoopM_r ?_
            refine KBlock_r ?_
            refine KJoinM_r ?_
            refine KBody_ret [] ?_
            obtain rfl := Option.some.inj hm
            exact en
          ·rw [if_neg h13] at hm
           refine W_condf rfl (decide_eq_false h13) ?_
           refine W_exit ?_
           have ho19 := out_eq hm hr3
           subst ho19
           replace hm : sys_Check0_j5 x10 = some r2 := hm3
           refine KThen_x ?_
           refine KLoopM_x ?_
           refine KBlock_hit ?_
           refine KBlock_n ?_
           refine KJoinM_n () () hm ?_
           exact ls
       ·rintro _ _ hm
        replace hm : sys_Check0_j5 x10 = some r2 := hm
        refine W_eqm ?_
        unfold sys_Check0_j5 at hm
        refine W_rn ?_
        refine KLoopM_n (IntKind.wrap .i64 (x10 + 1)) () hm ?_
        exact ls
      ·rw [if_neg h11] at hm
       refine W_condf rfl (decide_eq_false h11) ?_
       refine W_exit ?_
       have ho22 := out_eq hm hr2
       subst ho22
       replace hm : sys_Check0_j3 p1 l3 = some r := hm2
       refine KThen_x ?_
       refine KLoopM_x ?_
       refine KBlock_hit ?_
       refine KJoinM_n () () hm ?_
       exact ls
    ·rintro _ _ hm
     replace hm : sys_Check0_j3 p1 l3 = some r := hm
     refine W_eqm ?_
     unfold sys_Check0_j3 at hm
     refine W_joinM (S := Unit) (V := Unit) [1, 5, 17, 94, 95, 96, 97, 98, 99, 100, 101, 102, 103, 104, 105, 106, 107] (fun _ _ => []) (fun _ _ => [.box [.tree 2 (p1.vars.map TVar.enc), .tree 1 (p1.in_.map (eK .i64)), .tree 1 (p1.out_.map (eK .i64)), .tree 6 (p1.rules.map TRule.enc)], .box [.int .i64 0, .int .i64 0], .box [.tree 2 (p1.vars.map TVar.enc), .tree 1 (p1.in_.map (eK .i64)), .tree 1 (p1.out_.map (eK .i64)), .tree 6 (p1.rules.map TRule.enc), .int .i64 0], .box [.int .i64 ((y1).code), .int .i64 ((y1).at_)], .arr 1 0 4 (l3.map eB)]) (fun _ => sys_Check0_j4 = some r) ?_ ?_
     ·skip
      refine W_rg [1, 94] ?_
      refine W_block ?_
      obtain ⟨o1, hl1, hm1⟩ := bd hm
      refine W_loopM (S := Int) (V := Unit) (O := Unit ⊕ TFault) [5, 17, 97, 98, 99, 100, 101, 102, 103, 104, 105, 106, 107] (fun x6 _ => [(5, .c (.osl 4 0 0 l3.length)), (97, .c (.int .i64 x6))]) (fun x6 _ => [.box [.tree 2 (p1.vars.map TVar.enc), .tree 1 (p1.in_.map (eK .i64)), .tree 1 (p1.out_.map (eK .i64)), .tree 6 (p1.rules.map TRule.enc)], .box [.int .i64 0, .int .i64 0], .box [.tree 2 (p1.vars.map TVar.enc), .tree 1 (p1.in_.map (eK .i64)), .tree 1 (p1.out_.map (eK .i64)), .tree 6 (p1.rules.map TRule.enc), .int .i64 0], .box [.int .i64 ((y1).code), .int .i64 ((y1).at_)], .arr 1 0 4 (l3.map eB)]) _ _ () hl1 ?_ ?_
      ·exact ls
      ·rintro x6 _ r1 hm hr1
       replace hm : sys_Check0_l1 p1 l3 x6 = some r1 := hm
       refine W_eqm ?_
       unfold sys_Check0_l1 at hm
       refine W_rg [] ?_
       refine W_seq_k fun k2 hk2 => ?_
       by_cases h5 : x6 < (p1.out_.length : Int)
       ·rw [if_pos h5] at hm
        refine W_condt rfl (decide_eq_true h5) ?_
        refine W_skip ?_
        refine KThen_n (hk2 _ _ ?_)
        refine W_seq_k fun k3 hk3 => ?_
        refine W_block ?_
        obtain ⟨hg6a, hm⟩ := gd hm
        refine W_rgx (em (eK .i64) p1.out_ x6.toNat) [98, 99, 100] ?_
        obtain ⟨hg7a, hm⟩ := gd hm
        refine W_rgx (em eB l3 ((p1.out_.getD x6.toNat default).toNat)) [17, 101, 102, 103, 104] ?_
        by_cases h8 : (l3.getD ((p1.out_.getD x6.toNat default).toNat) default) = true
        ·rw [if_pos h8] at hm
         refine W_condf rfl (by rw [show (l3.getD ((p1.out_.getD x6.toNat default).toNat) default) = true from (h8)]; rfl) ?_
         refine W_skip ?_
         refine KBlock_n ?_
         refine KThen_n (hk3 _ _ ?_)
         refine W_rn ?_
         refine KLoopM_n (IntKind.wrap .i64 (x6 + 1)) () hm ?_
         exact ls
        ·rw [if_neg h8] at hm
         refine W_condt rfl (by rw [show (l3.getD ((p1.out_.getD x6.toNat default).toNat) default) = false from (Bool.eq_false_iff.2 h8)]; rfl) ?_
         refine W_rg [5, 95, 96, 97, 105, 106] ?_
         have ho9 := out_eq hm hr1
         subst ho9
         replace hm : some (TFault.mk 9 (-1)) = some r := hm1
         refine W_ret ?_
         refine KBlock_r ?_
         refine KThen_r ?_
         refine KLoopM_r ?_
         refine KBlock_r ?_
         refine KJoinM_r ?_
         refine KBody_ret [] ?_
         obtain rfl := Option.some.inj hm
         exact en
       ·rw [if_neg h5] at hm
        refine W_condf rfl (decide_eq_false h5) ?_
        refine W_exit ?_
        have ho10 := out_eq hm hr1
        subst ho10
        replace hm : sys_Check0_j4 = some r := hm1
        refine KThen_x ?_
        refine KLoopM_x ?_
        refine KBlock_hit ?_
        refine KJoinM_n () () hm ?_
        exact ls
     ·rintro _ _ hm
      replace hm : sys_Check0_j4 = some r := hm
      refine W_eqm ?_
      unfold sys_Check0_j4 at hm
      refine W_rg [108] ?_
      refine W_ret ?_
      refine KBody_ret [] ?_
      obtain rfl := Option.some.inj hm
      exact en
end Pam

/- the walk of law_sysBegun0, printed by a program of ours -/
namespace Pam
open Go Go.Proofs
set_option maxRecDepth 100000 in
set_option maxHeartbeats 1000000 in
theorem law_sysBegun0_ok (r : Bool) (hm : law_sysBegun0  = some r) : SpecF Try.prog 31 [] (.c (.bool r)) := by
 refine Spec_ofD 20 [.tmp 0] Try.func31 rfl rfl rfl (by kernel_rfl) (by simp) ?_
 refine W_eqf ?_
 unfold law_sysBegun0 at hm
 refine W_rg [0] ?_
 refine W_regF [1, 2, 3, 4, 5, 6, 7, 8, 9, 10, 11, 12, 13, 14, 15, 16, 17, 18, 19] fun k kp hk hp => ?_
 refine go ?_
 obtain ⟨y1, hc1, hm⟩ := bd hm
 refine RP (fun _ => sys_Apply_ok 4 (-7) 2 _ hc1) ?_
 by_cases h2 : y1 = (-3)
 ·rw [if_pos h2] at hm
  have h2b : (y1 == (-3)) = true := beq_iff_eq.2 h2
  refine RunRest_ops ?_
  refine gox h2b ?_
  refine RunCall_turn (Ghost_fr 0 rfl) ?_
  simp only [bR, bT, tab, bX, reduceIte, ↓reduceIte, reduceCtorEq, Int.reduceToNat, Nat.reduceDiv, Nat.reduceMod, Nat.reduceLT, Nat.reduceLeDiff, Nat.reduceAdd, Nat.reduceSub, Nat.reduceMul, Nat.reduceEqDiff, Nat.reduceBEq, Nat.reduceBNe, Nat.reduceGT, bZ, List.replicate, List.foldr, h2b]
  repeat refine ⟨by first | omega | assumption | decide | exact all_len fun _ => rfl | (intro _; omega) | rfl | exact fun e => absurd (List.map_eq_nil_iff.1 e) (by assumption) | (and_intros <;> first | omega | assumption | decide | exact all_len fun _ => rfl), ?_⟩
  refine RunCall_turn (Ghost_fr 1 rfl) ?_
  simp only [bR, bT, tab, bX, reduceIte, ↓reduceIte, reduceCtorEq, Int.reduceToNat, Nat.reduceDiv, Nat.reduceMod, Nat.reduceLT, Nat.reduceLeDiff, Nat.reduceAdd, Nat.reduceSub, Nat.reduceMul, Nat.reduceEqDiff, Nat.reduceBEq, Nat.reduceBNe, Nat.reduceGT, bZ, List.replicate, List.foldr, h2b]
  repeat refine ⟨by first | omega | assumption | decide | exact all_len fun _ => rfl | (intro _; omega) | rfl | exact fun e => absurd (List.map_eq_nil_iff.1 e) (by assumption) | (and_intros <;> first | omega | assumption | decide | exact all_len fun _ => rfl), ?_⟩
  obtain ⟨y2, hc3, hm⟩ := bd hm
  refine RP (fun _ => sys_Uses_ok (TRule.mk 14 0 0 0 (lit ([4] : List Int)) (lit ([(TPush.mk 3 0 3 0), (TPush.mk 1 0 9 0)] : List TPush))) _ hc3) ?_
  refine RunRest_ops ?_
  refine gox h2b ?_
  refine RunCall_turn (Ghost_fr 2 rfl) ?_
  simp only [bR, bT, tab, bX, reduceIte, ↓reduceIte, reduceCtorEq, Int.reduceToNat, Nat.reduceDiv, Nat.reduceMod, Nat.reduceLT, Nat.reduceLeDiff, Nat.reduceAdd, Nat.reduceSub, Nat.reduceMul, Nat.reduceEqDiff, Nat.reduceBEq, Nat.reduceBNe, Nat.reduceGT, bZ, List.replicate, List.foldr, h2b]
  repeat refine ⟨by first | omega | assumption | decide | exact all_len fun _ => rfl | (intro _; omega) | rfl | exact fun e => absurd (List.map_eq_nil_iff.1 e) (by assumption) | (and_intros <;> first | omega | assumption | decide | exact all_len fun _ => rfl), ?_⟩
  obtain ⟨y3, hc4, hm⟩ := bd hm
  refine RP (fun _ => ref_SameInts_ok y2 (lit ([3, 4] : List Int)) _ hc4) ?_
  by_cases h5 : y3 = true
  ·rw [if_pos h5] at hm
   have h5b : y3 = true := h5
   refine RunRest_ops ?_
   refine gox (a2 h2b h5b) ?_
   refine RunCall_turn (Ghost_ntS 15 (.a [.tree 2 ([].map TVar.enc), .tree 1 ([].map (eK .i64)), .osl 3 0 0 1, .tree 6 ([].map TRule.enc)]) rfl (by and_intros <;> trivial)) ?_
   refine gox (a2 h2b h5b) ?_
   refine RunCall_turn (Ghost_fr 3 rfl) ?_
   simp only [bR, bT, tab, bX, reduceIte, ↓reduceIte, reduceCtorEq, Int.reduceToNat, Nat.reduceDiv, Nat.reduceMod, Nat.reduceLT, Nat.reduceLeDiff, Nat.reduceAdd, Nat.reduceSub, Nat.reduceMul, Nat.reduceEqDiff, Nat.reduceBEq, Nat.reduceBNe, Nat.reduceGT, bZ, List.replicate, List.foldr, h2b, h5b]
   repeat refine ⟨by first | omega | assumption | decide | exact all_len fun _ => rfl | (intro _; omega) | rfl | exact fun e => absurd (List.map_eq_nil_iff.1 e) (by assumption) | (and_intros <;> first | omega | assumption | decide | exact all_len fun _ => rfl), ?_⟩
   obtain ⟨y4, hc6, hm⟩ := bd hm
   refine RP (fun _ => sys_Check0_ok (TSystem.mk [] [] (lit ([0] : List Int)) []) _ hc6) ?_
   refine RunRest_ops ?_
   refine gox (a2 h2b h5b) ?_
   refine hk _ _ ?_
   clear hk hp k kp
   refine W_ret ?_
   refine KBody_ret [] ?_
   obtain rfl := Option.some.inj hm
   exact en
  ·rw [if_neg h5] at hm
   have h5b : y3 = false := Bool.eq_false_iff.2 h5
   refine RunRest_ops ?_
   refine gox (a2 h2b h5b) ?_
   refine hk _ _ ?_
   clear hk hp k kp
   refine W_ret ?_
   refine KBody_ret [] ?_
   obtain rfl := Option.some.inj hm
   exact en
 ·rw [if_neg h2] at hm
  have h2b : (y1 == (-3)) = false := beq_eq_false_iff_ne.2 h2
  refine RunRest_ops ?_
  refine gox h2b ?_
  refine hk _ _ ?_
  clear hk hp k kp
  refine W_ret ?_
  refine KBody_ret [] ?_
  obtain rfl := Option.some.inj hm
  exact en
end Pam

/- the walk of law_SysNumbers_1, printed by a program of ours -/
namespace Pam
open Go Go.Proofs
set_option maxRecDepth 100000 in
set_option maxHeartbeats 1000000 in
theorem law_SysNumbers_1_ok (p1 : Int) (p2 : Int) (p3 : Int) (r : Int) (hm : law_SysNumbers_1 p1 p2 p3 = some r) : Spec Try.prog 41 [.c (.int .i64 p1), .c (.optr 0 0), .c (.optr 1 0)] [.box [.int .i64 p2], .box [.int .i64 p3]] (fun p σ => (p = .c (.int .i64 r) ∧ σ = [.box [.int .i64 p2], .box [.int .i64 p3]])) (fun _ _ => False) := by
 refine Spec_ofD 9 [.tmp 4] Try.func41 rfl rfl rfl (by kernel_rfl) (by simp) ?_
 refine W_eqf ?_
 unfold law_SysNumbers_1 at hm
 refine W_rg [4] ?_
 refine W_regF [0, 1, 2, 5, 6, 7, 8] fun k kp hk hp => ?_
 refine go ?_
 obtain ⟨y1, hc1, hm⟩ := bd hm
 refine RP (fun _ => sys_Apply_ok p1 p2 p3 _ hc1) ?_
 refine RunRest_ops ?_
 refine go ?_
 refine hk _ _ ?_
 clear hk hp k kp
 refine W_ret ?_
 refine KBody_ret [.box [.int .i64 p2], .box [.int .i64 p3]] ?_
 obtain rfl := Option.some.inj hm
 exact en
end Pam

/- the walk of law_SysNumbers, printed by a program of ours -/
namespace Pam
open Go Go.Proofs
set_option maxRecDepth 100000 in
set_option maxHeartbeats 8000000 in
theorem law_SysNumbers_ok (p1 : Int) (p2 : Int) (r : Bool) (hm : law_SysNumbers p1 p2 = some r) : SpecF Try.prog 8 [.c (.int .i64 p1), .c (.int .i64 p2)] (.c (.bool r)) := by
 refine Spec_ofD 198 [.tmp 4] Try.func8 rfl rfl rfl (by kernel_rfl) (by simp) ?_
 refine W_eqf ?_
 unfold law_SysNumbers at hm
 refine W_rg [0, 1, 4] ?_
 refine W_seq_k fun k1 hk1 => ?_
 refine W_regF [14] fun k kp hk hp => ?_
 refine go ?_
 obtain ⟨y1, hc1, hm⟩ := bd hm
 refine RP (fun _ => law_sysBegun0_ok  _ hc1) ?_
 refine RunRest_ops ?_
 refine go ?_
 refine hk _ _ ?_
 clear hk hp k kp
 by_cases h2 : y1 = true
 ·rw [if_pos h2] at hm
  refine W_condf rfl (by rw [show y1 = true from (h2)]; rfl) ?_
  refine W_skip ?_
  refine KThen_n (hk1 _ _ ?_)
  refine W_rg [15, 16] ?_
  refine W_regF [17, 18, 19, 20] fun k kp hk hp => ?_
  refine go ?_
  obtain ⟨y2, hc3, hm⟩ := bd hm
  refine RA (law_SysNumbers_1_ok 4 p1 p2  _ hc3) [0, 1] ?_
  rintro p σ' hq4 _
  obtain ⟨rfl, rfl⟩ := hq4
  refine RunRest_ops ?_
  refine go ?_
  obtain ⟨y3, hc5, hm⟩ := bd hm
  refine RA (law_SysNumbers_1_ok 5 p1 p2  _ hc5) [0, 1] ?_
  rintro p σ' hq6 _
  obtain ⟨rfl, rfl⟩ := hq6
  refine RunRest_ops ?_
  refine go ?_
  refine hk _ _ ?_
  clear hk hp k kp
  refine W_seq_k fun k2 hk2 => ?_
  refine W_joinM (S := Bool) (V := Unit) [6, 21, 22, 23, 24, 25, 26, 27, 28, 29, 30, 31, 32, 33, 34, 35, 36, 37, 38, 39, 40, 41, 42, 43] (fun b4 _ => [(43, .c (.bool b4))]) (fun b4 _ => [.box [.int .i64 p1], .box [.int .i64 p2]]) (fun b4 => law_SysNumbers_j1 p1 p2 y3 b4 = some r) ?_ ?_
  ·skip
   by_cases h76 : p2 = 0
   ·rw [if_pos h76] at hm
    have h76b : (p2 == 0) = true := beq_iff_eq.2 h76
    refine W_regionG fun k kp hk hp => ?_
    refine RunRest_cut 6 ?_
    refine gox h76b ?_
    by_cases h77 : ¬ y2 = 0
    ·rw [if_pos h77] at hm
     have h77b : (y2 != 0) = true := bne_iff_ne.2 h77
     refine RunRest_ops ?_
     refine gox (a2 h76b h77b) ?_
     refine hk _ _ ?_
     clear hk hp k kp
     refine KJoinM_n true () hm ?_
     exact ls
    ·rw [if_neg h77] at hm
     have h77b : (y2 != 0) = false := bne_eq_false_iff_eq.2 (Decidable.not_not.1 h77)
     refine RunRest_cut 5 ?_
     refine gox (a2 h76b h77b) ?_
     by_cases h78 : ¬ y3 = 0
     ·rw [if_pos h78] at hm
      have h78b : (y3 != 0) = true := bne_iff_ne.2 h78
      refine RunRest_ops ?_
      refine gox (a2 h76b (a2 h77b h78b)) ?_
      refine hk _ _ ?_
      clear hk hp k kp
      refine KJoinM_n true () hm ?_
      exact ls
     ·rw [if_neg h78] at hm
      have h78b : (y3 != 0) = false := bne_eq_false_iff_eq.2 (Decidable.not_not.1 h78)
      by_cases h79 : ¬ p2 = 0
      ·rw [if_pos h79] at hm
       have h79b : (p2 != 0) = true := bne_iff_ne.2 h79
       refine RunRest_ops ?_
       refine gox (a2 h76b (a2 h77b (a2 h78b h79b))) ?_
       refine hk _ _ ?_
       clear hk hp k kp
       refine KJoinM_n ((IntKind.wrap .i64 ((IntKind.wrap .i64 (y2 * p2)) + y3)) != p1) () hm ?_
       exact ls
      ·rw [if_neg h79] at hm
       have h79b : (p2 != 0) = false := bne_eq_false_iff_eq.2 (Decidable.not_not.1 h79)
       refine RunRest_ops ?_
       refine gox (a2 h76b (a2 h77b (a2 h78b h79b))) ?_
       refine hk _ _ ?_
       clear hk hp k kp
       refine KJoinM_n false () hm ?_
       exact ls
   ·rw [if_neg h76] at hm
    have h76b : (p2 == 0) = false := beq_eq_false_iff_ne.2 h76
    refine W_regionG fun k kp hk hp => ?_
    refine RunRest_cut 14 ?_
    refine gox h76b ?_
    by_cases h80 : ¬ p2 = 0
    ·rw [if_pos h80] at hm
     have h80b : (p2 != 0) = true := bne_iff_ne.2 h80
     refine RunRest_ops ?_
     refine gox (a2 h76b h80b) ?_
     refine hk _ _ ?_
     clear hk hp k kp
     refine KJoinM_n ((IntKind.wrap .i64 ((IntKind.wrap .i64 (y2 * p2)) + y3)) != p1) () hm ?_
     exact ls
    ·rw [if_neg h80] at hm
     have h80b : (p2 != 0) = false := bne_eq_false_iff_eq.2 (Decidable.not_not.1 h80)
     refine RunRest_ops ?_
     refine gox (a2 h76b h80b) ?_
     refine hk _ _ ?_
     clear hk hp k kp
     refine KJoinM_n false () hm ?_
     exact ls
  ·rintro b4 _ hm
   replace hm : law_SysNumbers_j1 p1 p2 y3 b4 = some r := hm
   refine W_eqm ?_
   unfold law_SysNumbers_j1 at hm
   by_cases h7 : b4 = true
   ·rw [if_pos h7] at hm
    refine W_condt rfl (h7) ?_
    refine W_rg [2, 3, 5, 7, 43] ?_
    refine W_ret ?_
    refine KThen_r ?_
    refine KBody_ret [] ?_
    obtain rfl := Option.some.inj hm
    exact en
   ·rw [if_neg h7] at hm
    refine W_condf rfl (Bool.eq_false_iff.2 h7) ?_
    refine W_skip ?_
    refine KThen_n (hk2 _ _ ?_)
    refine W_seq_k fun k3 hk3 => ?_
    refine W_joinM (S := Bool) (V := Unit) [7, 43, 44, 45, 46, 47, 48, 49, 50, 51, 52, 53, 54, 55, 56, 57, 58, 59, 60, 61, 62, 63, 64, 65, 66, 67] (fun b5 _ => [(67, .c (.bool b5))]) (fun b5 _ => [.box [.int .i64 p1], .box [.int .i64 p2]]) (fun b5 => law_SysNumbers_j2 p1 p2 b5 = some r) ?_ ?_
    ·skip
     by_cases h71 : p2 > 0
     ·rw [if_pos h71] at hm
      have h71b : decide (p2 > 0) = true := decide_eq_true h71
      refine W_regionG fun k kp hk hp => ?_
      refine RunRest_cut 7 ?_
      refine gox h71b ?_
      by_cases h72 : y3 ≥ p2
      ·rw [if_pos h72] at hm
       have h72b : decide (y3 ≥ p2) = true := decide_eq_true h72
       refine RunRest_ops ?_
       refine gox (a2 h71b h72b) ?_
       refine hk _ _ ?_
       clear hk hp k kp
       refine KJoinM_n true () hm ?_
       exact ls
      ·rw [if_neg h72] at hm
       have h72b : decide (y3 ≥ p2) = false := decide_eq_false h72
       refine RunRest_cut 7 ?_
       refine gox (a2 h71b h72b) ?_
       by_cases h73 : y3 ≤ (IntKind.wrap .i64 (0 - p2))
       ·rw [if_pos h73] at hm
        have h73b : decide (y3 ≤ (IntKind.wrap .i64 (0 - p2))) = true := decide_eq_true h73
        refine RunRest_ops ?_
        refine gox (a2 h71b (a2 h72b h73b)) ?_
        refine hk _ _ ?_
        clear hk hp k kp
        refine KJoinM_n true () hm ?_
        exact ls
       ·rw [if_neg h73] at hm
        have h73b : decide (y3 ≤ (IntKind.wrap .i64 (0 - p2))) = false := decide_eq_false h73
        by_cases h74 : ¬ y3 = 0
        ·rw [if_pos h74] at hm
         have h74b : (y3 != 0) = true := bne_iff_ne.2 h74
         refine RunRest_ops ?_
         refine gox (a2 h71b (a2 h72b (a2 h73b h74b))) ?_
         refine hk _ _ ?_
         clear hk hp k kp
         refine KJoinM_n (!((decide (y3 < 0)) == (decide (p1 < 0)))) () hm ?_
         exact ls
        ·rw [if_neg h74] at hm
         have h74b : (y3 != 0) = false := bne_eq_false_iff_eq.2 (Decidable.not_not.1 h74)
         refine RunRest_ops ?_
         refine gox (a2 h71b (a2 h72b (a2 h73b h74b))) ?_
         refine hk _ _ ?_
         clear hk hp k kp
         refine KJoinM_n false () hm ?_
         exact ls
     ·rw [if_neg h71] at hm
      have h71b : decide (p2 > 0) = false := decide_eq_false h71
      refine W_regionG fun k kp hk hp => ?_
      refine RunRest_cut 17 ?_
      refine gox h71b ?_
      by_cases h75 : ¬ y3 = 0
      ·rw [if_pos h75] at hm
       have h75b : (y3 != 0) = true := bne_iff_ne.2 h75
       refine RunRest_ops ?_
       refine gox (a2 h71b h75b) ?_
       refine hk _ _ ?_
       clear hk hp k kp
       refine KJoinM_n (!((decide (y3 < 0)) == (decide (p1 < 0)))) () hm ?_
       exact ls
      ·rw [if_neg h75] at hm
       have h75b : (y3 != 0) = false := bne_eq_false_iff_eq.2 (Decidable.not_not.1 h75)
       refine RunRest_ops ?_
       refine gox (a2 h71b h75b) ?_
       refine hk _ _ ?_
       clear hk hp k kp
       refine KJoinM_n false () hm ?_
       exact ls
    ·rintro b5 _ hm
     replace hm : law_SysNumbers_j2 p1 p2 b5 = some r := hm
     refine W_eqm ?_
     unfold law_SysNumbers_j2 at hm
     by_cases h8 : b5 = true
     ·rw [if_pos h8] at hm
      refine W_condt rfl (h8) ?_
      refine W_rg [2, 3, 5, 67] ?_
      refine W_ret ?_
      refine KThen_r ?_
      refine KBody_ret [] ?_
      obtain rfl := Option.some.inj hm
      exact en
     ·rw [if_neg h8] at hm
      refine W_condf rfl (Bool.eq_false_iff.2 h8) ?_
      refine W_skip ?_
      refine KThen_n (hk3 _ _ ?_)
      refine W_regF [67, 68, 69, 70, 71] fun k kp hk hp => ?_
      refine go ?_
      obtain ⟨y6, hc9, hm⟩ := bd hm
      refine RA (law_SysNumbers_1_ok 6 p1 p2  _ hc9) [0, 1] ?_
      rintro p σ' hq10 _
      obtain ⟨rfl, rfl⟩ := hq10
      refine RunRest_ops ?_
      refine go ?_
      obtain ⟨y7, hc11, hm⟩ := bd hm
      refine RA (law_SysNumbers_1_ok 7 p1 p2  _ hc11) [0, 1] ?_
      rintro p σ' hq12 _
      obtain ⟨rfl, rfl⟩ := hq12
      refine RunRest_ops ?_
      refine go ?_
      refine hk _ _ ?_
      clear hk hp k kp
      refine W_seq_k fun k4 hk4 => ?_
      refine W_joinM (S := Bool) (V := Unit) [8, 9, 72, 73, 74, 75, 76, 77, 78, 79, 80, 81, 82, 83, 84, 85, 86, 87, 88, 89, 90, 91, 92, 93, 94, 95, 96, 97, 98, 99, 100, 101, 102, 103, 104, 105, 106, 107, 108, 109, 110, 111, 112, 113, 114] (fun b8 _ => [(114, .c (.bool b8))]) (fun b8 _ => [.box [.int .i64 p1], .box [.int .i64 p2]]) (fun b8 => law_SysNumbers_j3 p1 p2 b8 = some r) ?_ ?_
      ·skip
       refine W_regionG fun k kp hk hp => ?_
       refine RunRest_cut 4 ?_
       refine go ?_
       by_cases h50 : y6 > y7
       ·rw [if_pos h50] at hm
        have h50b : decide (y6 > y7) = true := decide_eq_true h50
        refine RunRest_ops ?_
        refine gox h50b ?_
        refine hk _ _ ?_
        clear hk hp k kp
        refine KJoinM_n true () hm ?_
        exact ls
       ·rw [if_neg h50] at hm
        have h50b : decide (y6 > y7) = false := decide_eq_false h50
        refine RunRest_cut 4 ?_
        refine gox h50b ?_
        by_cases h51 : ¬ y6 = p1
        ·rw [if_pos h51] at hm
         have h51b : (y6 != p1) = true := bne_iff_ne.2 h51
         refine RunRest_cut 6 ?_
         refine gox (a2 h50b h51b) ?_
         by_cases h52 : ¬ y6 = p2
         ·rw [if_pos h52] at hm
          have h52b : (y6 != p2) = true := bne_iff_ne.2 h52
          refine RunRest_ops ?_
          refine gox (a2 h50b (a2 h51b h52b)) ?_
          refine hk _ _ ?_
          clear hk hp k kp
          refine KJoinM_n true () hm ?_
          exact ls
         ·rw [if_neg h52] at hm
          have h52b : (y6 != p2) = false := bne_eq_false_iff_eq.2 (Decidable.not_not.1 h52)
          refine RunRest_cut 4 ?_
          refine gox (a2 h50b (a2 h51b h52b)) ?_
          by_cases h53 : ¬ y7 = p1
          ·rw [if_pos h53] at hm
           have h53b : (y7 != p1) = true := bne_iff_ne.2 h53
           refine RunRest_cut 6 ?_
           refine gox (a2 h50b (a2 h51b (a2 h52b h53b))) ?_
           by_cases h54 : ¬ y7 = p2
           ·rw [if_pos h54] at hm
            have h54b : (y7 != p2) = true := bne_iff_ne.2 h54
            refine RunRest_ops ?_
            refine gox (a2 h50b (a2 h51b (a2 h52b (a2 h53b h54b)))) ?_
            refine hk _ _ ?_
            clear hk hp k kp
            refine KJoinM_n true () hm ?_
            exact ls
           ·rw [if_neg h54] at hm
            have h54b : (y7 != p2) = false := bne_eq_false_iff_eq.2 (Decidable.not_not.1 h54)
            refine RunRest_cut 4 ?_
            refine gox (a2 h50b (a2 h51b (a2 h52b (a2 h53b h54b)))) ?_
            by_cases h55 : y6 = p1
            ·rw [if_pos h55] at hm
             have h55b : (y6 == p1) = true := beq_iff_eq.2 h55
             refine RunRest_cut 10 ?_
             refine gox (a2 h50b (a2 h51b (a2 h52b (a2 h53b (a2 h54b h55b))))) ?_
             by_cases h56 : y6 = p2
             ·rw [if_pos h56] at hm
              have h56b : (y6 == p2) = true := beq_iff_eq.2 h56
              refine RunRest_ops ?_
              refine gox (a2 h50b (a2 h51b (a2 h52b (a2 h53b (a2 h54b (a2 h55b h56b)))))) ?_
              refine hk _ _ ?_
              clear hk hp k kp
              refine KJoinM_n true () hm ?_
              exact ls
             ·rw [if_neg h56] at hm
              have h56b : (y6 == p2) = false := beq_eq_false_iff_ne.2 h56
              refine RunRest_ops ?_
              refine gox (a2 h50b (a2 h51b (a2 h52b (a2 h53b (a2 h54b (a2 h55b h56b)))))) ?_
              refine hk _ _ ?_
              clear hk hp k kp
              refine KJoinM_n false () hm ?_
              exact ls
            ·rw [if_neg h55] at hm
             have h55b : (y6 == p1) = false := beq_eq_false_iff_ne.2 h55
             refine RunRest_cut 10 ?_
             refine gox (a2 h50b (a2 h51b (a2 h52b (a2 h53b (a2 h54b h55b))))) ?_
             by_cases h57 : y6 = p2
             ·rw [if_pos h57] at hm
              have h57b : (y6 == p2) = true := beq_iff_eq.2 h57
              refine RunRest_ops ?_
              refine gox (a2 h50b (a2 h51b (a2 h52b (a2 h53b (a2 h54b (a2 h55b h57b)))))) ?_
              refine hk _ _ ?_
              clear hk hp k kp
              refine KJoinM_n true () hm ?_
              exact ls
             ·rw [if_neg h57] at hm
              have h57b : (y6 == p2) = false := beq_eq_false_iff_ne.2 h57
              refine RunRest_ops ?_
              refine gox (a2 h50b (a2 h51b (a2 h52b (a2 h53b (a2 h54b (a2 h55b h57b)))))) ?_
              refine hk _ _ ?_
              clear hk hp k kp
              refine KJoinM_n false () hm ?_
              exact ls
          ·rw [if_neg h53] at hm
           have h53b : (y7 != p1) = false := bne_eq_false_iff_eq.2 (Decidable.not_not.1 h53)
           refine RunRest_cut 10 ?_
           refine gox (a2 h50b (a2 h51b (a2 h52b h53b))) ?_
           by_cases h58 : y6 = p1
           ·rw [if_pos h58] at hm
            have h58b : (y6 == p1) = true := beq_iff_eq.2 h58
            refine RunRest_cut 6 ?_
            refine gox (a2 h50b (a2 h51b (a2 h52b (a2 h53b h58b)))) ?_
            by_cases h59 : ¬ y7 = p2
            ·rw [if_pos h59] at hm
             have h59b : (y7 != p2) = true := bne_iff_ne.2 h59
             refine RunRest_ops ?_
             refine gox (a2 h50b (a2 h51b (a2 h52b (a2 h53b (a2 h58b h59b))))) ?_
             refine hk _ _ ?_
             clear hk hp k kp
             refine KJoinM_n true () hm ?_
             exact ls
            ·rw [if_neg h59] at hm
             have h59b : (y7 != p2) = false := bne_eq_false_iff_eq.2 (Decidable.not_not.1 h59)
             refine RunRest_cut 4 ?_
             refine gox (a2 h50b (a2 h51b (a2 h52b (a2 h53b (a2 h58b h59b))))) ?_
             by_cases h60 : y6 = p2
             ·rw [if_pos h60] at hm
              have h60b : (y6 == p2) = true := beq_iff_eq.2 h60
              refine RunRest_ops ?_
              refine gox (a2 h50b (a2 h51b (a2 h52b (a2 h53b (a2 h58b (a2 h59b h60b)))))) ?_
              refine hk _ _ ?_
              clear hk hp k kp
              refine KJoinM_n false () hm ?_
              exact ls
             ·rw [if_neg h60] at hm
              have h60b : (y6 == p2) = false := beq_eq_false_iff_ne.2 h60
              refine RunRest_ops ?_
              refine gox (a2 h50b (a2 h51b (a2 h52b (a2 h53b (a2 h58b (a2 h59b h60b)))))) ?_
              refine hk _ _ ?_
              clear hk hp k kp
              refine KJoinM_n false () hm ?_
              exact ls
           ·rw [if_neg h58] at hm
            have h58b : (y6 == p1) = false := beq_eq_false_iff_ne.2 h58
            refine RunRest_cut 10 ?_
            refine gox (a2 h50b (a2 h51b (a2 h52b (a2 h53b h58b)))) ?_
            by_cases h61 : y6 = p2
            ·rw [if_pos h61] at hm
             have h61b : (y6 == p2) = true := beq_iff_eq.2 h61
             refine RunRest_ops ?_
             refine gox (a2 h50b (a2 h51b (a2 h52b (a2 h53b (a2 h58b h61b))))) ?_
             refine hk _ _ ?_
             clear hk hp k kp
             refine KJoinM_n false () hm ?_
             exact ls
            ·rw [if_neg h61] at hm
             have h61b : (y6 == p2) = false := beq_eq_false_iff_ne.2 h61
             refine RunRest_ops ?_
             refine gox (a2 h50b (a2 h51b (a2 h52b (a2 h53b (a2 h58b h61b))))) ?_
             refine hk _ _ ?_
             clear hk hp k kp
             refine KJoinM_n false () hm ?_
             exact ls
        ·rw [if_neg h51] at hm
         have h51b : (y6 != p1) = false := bne_eq_false_iff_eq.2 (Decidable.not_not.1 h51)
         refine RunRest_cut 10 ?_
         refine gox (a2 h50b h51b) ?_
         by_cases h62 : ¬ y7 = p1
         ·rw [if_pos h62] at hm
          have h62b : (y7 != p1) = true := bne_iff_ne.2 h62
          refine RunRest_cut 6 ?_
          refine gox (a2 h50b (a2 h51b h62b)) ?_
          by_cases h63 : ¬ y7 = p2
          ·rw [if_pos h63] at hm
           have h63b : (y7 != p2) = true := bne_iff_ne.2 h63
           refine RunRest_ops ?_
           refine gox (a2 h50b (a2 h51b (a2 h62b h63b))) ?_
           refine hk _ _ ?_
           clear hk hp k kp
           refine KJoinM_n true () hm ?_
           exact ls
          ·rw [if_neg h63] at hm
           have h63b : (y7 != p2) = false := bne_eq_false_iff_eq.2 (Decidable.not_not.1 h63)
           refine RunRest_cut 4 ?_
           refine gox (a2 h50b (a2 h51b (a2 h62b h63b))) ?_
           by_cases h64 : y6 = p1
           ·rw [if_pos h64] at hm
            have h64b : (y6 == p1) = true := beq_iff_eq.2 h64
            refine RunRest_cut 10 ?_
            refine gox (a2 h50b (a2 h51b (a2 h62b (a2 h63b h64b)))) ?_
            by_cases h65 : y6 = p2
            ·rw [if_pos h65] at hm
             have h65b : (y6 == p2) = true := beq_iff_eq.2 h65
             refine RunRest_ops ?_
             refine gox (a2 h50b (a2 h51b (a2 h62b (a2 h63b (a2 h64b h65b))))) ?_
             refine hk _ _ ?_
             clear hk hp k kp
             refine KJoinM_n true () hm ?_
             exact ls
            ·rw [if_neg h65] at hm
             have h65b : (y6 == p2) = false := beq_eq_false_iff_ne.2 h65
             refine RunRest_ops ?_
             refine gox (a2 h50b (a2 h51b (a2 h62b (a2 h63b (a2 h64b h65b))))) ?_
             refine hk _ _ ?_
             clear hk hp k kp
             refine KJoinM_n false () hm ?_
             exact ls
           ·rw [if_neg h64] at hm
            have h64b : (y6 == p1) = false := beq_eq_false_iff_ne.2 h64
            refine RunRest_cut 10 ?_
            refine gox (a2 h50b (a2 h51b (a2 h62b (a2 h63b h64b)))) ?_
            by_cases h66 : y6 = p2
            ·rw [if_pos h66] at hm
             have h66b : (y6 == p2) = true := beq_iff_eq.2 h66
             refine RunRest_ops ?_
             refine gox (a2 h50b (a2 h51b (a2 h62b (a2 h63b (a2 h64b h66b))))) ?_
             refine hk _ _ ?_
             clear hk hp k kp
             refine KJoinM_n true () hm ?_
             exact ls
            ·rw [if_neg h66] at hm
             have h66b : (y6 == p2) = false := beq_eq_false_iff_ne.2 h66
             refine RunRest_ops ?_
             refine gox (a2 h50b (a2 h51b (a2 h62b (a2 h63b (a2 h64b h66b))))) ?_
             refine hk _ _ ?_
             clear hk hp k kp
             refine KJoinM_n false () hm ?_
             exact ls
         ·rw [if_neg h62] at hm
          have h62b : (y7 != p1) = false := bne_eq_false_iff_eq.2 (Decidable.not_not.1 h62)
          refine RunRest_cut 10 ?_
          refine gox (a2 h50b (a2 h51b h62b)) ?_
          by_cases h67 : y6 = p1
          ·rw [if_pos h67] at hm
           have h67b : (y6 == p1) = true := beq_iff_eq.2 h67
           refine RunRest_cut 6 ?_
           refine gox (a2 h50b (a2 h51b (a2 h62b h67b))) ?_
           by_cases h68 : ¬ y7 = p2
           ·rw [if_pos h68] at hm
            have h68b : (y7 != p2) = true := bne_iff_ne.2 h68
            refine RunRest_ops ?_
            refine gox (a2 h50b (a2 h51b (a2 h62b (a2 h67b h68b)))) ?_
            refine hk _ _ ?_
            clear hk hp k kp
            refine KJoinM_n true () hm ?_
            exact ls
           ·rw [if_neg h68] at hm
            have h68b : (y7 != p2) = false := bne_eq_false_iff_eq.2 (Decidable.not_not.1 h68)
            refine RunRest_cut 4 ?_
            refine gox (a2 h50b (a2 h51b (a2 h62b (a2 h67b h68b)))) ?_
            by_cases h69 : y6 = p2
            ·rw [if_pos h69] at hm
             have h69b : (y6 == p2) = true := beq_iff_eq.2 h69
             refine RunRest_ops ?_
             refine gox (a2 h50b (a2 h51b (a2 h62b (a2 h67b (a2 h68b h69b))))) ?_
             refine hk _ _ ?_
             clear hk hp k kp
             refine KJoinM_n false () hm ?_
             exact ls
            ·rw [if_neg h69] at hm
             have h69b : (y6 == p2) = false := beq_eq_false_iff_ne.2 h69
             refine RunRest_ops ?_
             refine gox (a2 h50b (a2 h51b (a2 h62b (a2 h67b (a2 h68b h69b))))) ?_
             refine hk _ _ ?_
             clear hk hp k kp
             refine KJoinM_n false () hm ?_
             exact ls
          ·rw [if_neg h67] at hm
           have h67b : (y6 == p1) = false := beq_eq_false_iff_ne.2 h67
           refine RunRest_cut 10 ?_
           refine gox (a2 h50b (a2 h51b (a2 h62b h67b))) ?_
           by_cases h70 : y6 = p2
           ·rw [if_pos h70] at hm
            have h70b : (y6 == p2) = true := beq_iff_eq.2 h70
            refine RunRest_ops ?_
            refine gox (a2 h50b (a2 h51b (a2 h62b (a2 h67b h70b)))) ?_
            refine hk _ _ ?_
            clear hk hp k kp
            refine KJoinM_n false () hm ?_
            exact ls
           ·rw [if_neg h70] at hm
            have h70b : (y6 == p2) = false := beq_eq_false_iff_ne.2 h70
            refine RunRest_ops ?_
            refine gox (a2 h50b (a2 h51b (a2 h62b (a2 h67b h70b)))) ?_
            refine hk _ _ ?_
            clear hk hp k kp
            refine KJoinM_n false () hm ?_
            exact ls
      ·rintro b8 _ hm
       replace hm : law_SysNumbers_j3 p1 p2 b8 = some r := hm
       refine W_eqm ?_
       unfold law_SysNumbers_j3 at hm
       by_cases h13 : b8 = true
       ·rw [if_pos h13] at hm
        refine W_condt rfl (h13) ?_
        refine W_rg [2, 3, 5, 114] ?_
        refine W_ret ?_
        refine KThen_r ?_
        refine KBody_ret [] ?_
        obtain rfl := Option.some.inj hm
        exact en
       ·rw [if_neg h13] at hm
        refine W_condf rfl (Bool.eq_false_iff.2 h13) ?_
        refine W_skip ?_
        refine KThen_n (hk4 _ _ ?_)
        refine W_seq_k fun k5 hk5 => ?_
        refine W_joinM (S := Bool) (V := Unit) [114, 115, 116, 117, 118, 119, 120, 121, 122, 123, 124, 125, 126, 127, 128, 129, 130, 131, 132, 133, 134] (fun b9 _ => [(134, .c (.bool b9))]) (fun b9 _ => [.box [.int .i64 p1], .box [.int .i64 p2]]) (fun b9 => law_SysNumbers_j4 p1 p2 b9 = some r) ?_ ?_
        ·skip
         refine W_anyTN (by kernel_rfl) [0, 1, 0, 7, 0, 31, 63, 127, 255, 511, 127, 2047, 4095, 8191, 16383, 16383, 49151, 131071, 262143, 524287] [false, false, false, false, false, true, true, false, false, false, false, true, true, true, false, false, false, true, true, true] (by kernel_rfl) fun k hk => ?_
         refine TR_ops ?_
         refine ga ?_
         obtain ⟨y22, hc42, hm⟩ := bd hm
         refine AnyCall_atT (σ2 := [.box [.int .i64 p1], .box [.int .i64 p2]]) (res := .c (.int .i64 y22)) ⟨_, _, _, _, [0, 1], law_SysNumbers_1_ok 1 p1 p2  _ hc42, by simp, by simp, rfl, rfl, by first | trivial | (simp [bX, eK, eB, eS, eL, s_cap, psUnder, PV.under, CV.under, obsBelow, OB.under, cvsBelow]; done), by first | trivial | (simp [bX, eK, eB, eS, eL, s_cap, psUnder, PV.under, CV.under, obsBelow, OB.under, cvsBelow]; done), fun q τ hq _ => by obtain ⟨rfl, rfl⟩ := hq; exact ⟨rfl, rfl⟩, fun _ _ h => h.elim⟩ (by first | trivial | exact dst_ok rfl) (by first | trivial | (intro _; first | trivial | simp [need]) | simp [need]) (by first | exact .inl rfl | exact .inr (by simp only [extB]; and_intros <;> first | rfl | trivial)) ?_
         refine TR_ops ?_
         refine ga ?_
         obtain ⟨y23, hc43, hm⟩ := bd hm
         refine AnyCall_pureT (fun _ => sys_Apply_ok 2 y22 p2 _ hc43) (by first | trivial | exact dst_ok rfl) (by first | trivial | (intro _; first | trivial | simp [need]) | simp [need]) rfl (fun _ => rfl) ?_
         by_cases h44 : ¬ y23 = p1
         ·rw [if_pos h44] at hm
          have h44b : (y23 != p1) = true := bne_iff_ne.2 h44
          refine TR_ops ?_
          refine gax h44b ?_
          refine hk _ _ ?_
          clear hk k
          refine KJoinM_n true () hm ?_
          exact ls
         ·rw [if_neg h44] at hm
          have h44b : (y23 != p1) = false := bne_eq_false_iff_eq.2 (Decidable.not_not.1 h44)
          refine TR_ops ?_
          refine gax h44b ?_
          obtain ⟨y24, hc45, hm⟩ := bd hm
          refine AnyCall_pureT (fun _ => sys_Apply_ok 13 p1 0 _ hc45) (by first | trivial | exact dst_ok rfl) (by first | trivial | (intro _; first | trivial | simp [need]) | simp [need]) rfl (fun _ => rfl) ?_
          refine TR_ops ?_
          refine gax h44b ?_
          obtain ⟨y25, hc46, hm⟩ := bd hm
          refine AnyCall_pureT (fun _ => sys_Apply_ok 13 y24 0 _ hc46) (by first | trivial | exact dst_ok rfl) (by first | trivial | (intro _; first | trivial | simp [need]) | simp [need]) rfl (fun _ => rfl) ?_
          refine TR_cut 4 rfl ?_
          refine gax h44b ?_
          by_cases h47 : ¬ y25 = p1
          ·rw [if_pos h47] at hm
           have h47b : (y25 != p1) = true := bne_iff_ne.2 h47
           refine TR_ops ?_
           refine gax (a2 h44b h47b) ?_
           refine hk _ _ ?_
           clear hk k
           refine KJoinM_n true () hm ?_
           exact ls
          ·rw [if_neg h47] at hm
           have h47b : (y25 != p1) = false := bne_eq_false_iff_eq.2 (Decidable.not_not.1 h47)
           refine TR_ops ?_
           refine gax (a2 h44b h47b) ?_
           obtain ⟨y26, hc48, hm⟩ := bd hm
           refine AnyCall_pureT (fun _ => sys_Apply_ok 13 p1 0 _ hc48) (by first | trivial | exact dst_ok rfl) (by first | trivial | (intro _; first | trivial | simp [need]) | simp [need]) rfl (fun _ => rfl) ?_
           refine TR_ops ?_
           refine gax (a2 h44b h47b) ?_
           obtain ⟨y27, hc49, hm⟩ := bd hm
           refine AnyCall_pureT (fun _ => sys_Apply_ok 1 p1 y26 _ hc49) (by first | trivial | exact dst_ok rfl) (by first | trivial | (intro _; first | trivial | simp [need]) | simp [need]) rfl (fun _ => rfl) ?_
           refine TR_ops ?_
           refine gax (a2 h44b h47b) ?_
           refine hk _ _ ?_
           clear hk k
           refine KJoinM_n (y27 != 0) () hm ?_
           exact ls
        ·rintro b9 _ hm
         replace hm : law_SysNumbers_j4 p1 p2 b9 = some r := hm
         refine W_eqm ?_
         unfold law_SysNumbers_j4 at hm
         by_cases h14 : b9 = true
         ·rw [if_pos h14] at hm
          refine W_condt rfl (h14) ?_
          refine W_rg [2, 3, 5, 134] ?_
          refine W_ret ?_
          refine KThen_r ?_
          refine KBody_ret [] ?_
          obtain rfl := Option.some.inj hm
          exact en
         ·rw [if_neg h14] at hm
          refine W_condf rfl (Bool.eq_false_iff.2 h14) ?_
          refine W_skip ?_
          refine KThen_n (hk5 _ _ ?_)
          refine W_anyF [134, 135, 136, 137, 138] (by kernel_rfl) [0, 1, 0, 7, 15, 31] [false, false, false, true, true, true] (by kernel_rfl) fun k hk => ?_
          refine ga ?_
          obtain ⟨y10, hc15, hm⟩ := bd hm
          refine AP (fun _ => sys_Apply_ok 14 p1 0 _ hc15) ?_
          refine ga ?_
          obtain ⟨y11, hc16, hm⟩ := bd hm
          refine AP (fun _ => sys_Apply_ok 14 p2 0 _ hc16) ?_
          refine ga ?_
          refine hk _ _ ?_
          clear hk k
          refine W_seq_k fun k6 hk6 => ?_
          refine W_joinM (S := Bool) (V := Unit) [10, 11, 139, 140, 141, 142, 143, 144, 145, 146, 147, 148, 149, 150, 151, 152, 153, 154, 155, 156, 157, 158, 159, 160, 161, 162, 163, 164, 165, 166, 167, 168, 169, 170, 171, 172, 173, 174, 175, 176, 177] (fun b12 _ => [(177, .c (.bool b12))]) (fun b12 _ => [.box [.int .i64 p1], .box [.int .i64 p2]]) (fun b12 => law_SysNumbers_j5 p1 p2 b12 = some r) ?_ ?_
          ·skip
           by_cases h24 : ¬ y10 = 0
           ·rw [if_pos h24] at hm
            have h24b : (y10 != 0) = true := bne_iff_ne.2 h24
            refine W_regionG fun k kp hk hp => ?_
            refine RunRest_cut 7 ?_
            refine gox h24b ?_
            by_cases h25 : ¬ y10 = 1
            ·rw [if_pos h25] at hm
             have h25b : (y10 != 1) = true := bne_iff_ne.2 h25
             refine RunRest_ops ?_
             refine gox (a2 h24b h25b) ?_
             refine hk _ _ ?_
             clear hk hp k kp
             refine KJoinM_n true () hm ?_
             exact ls
            ·rw [if_neg h25] at hm
             have h25b : (y10 != 1) = false := bne_eq_false_iff_eq.2 (Decidable.not_not.1 h25)
             refine RunRest_ops ?_
             refine gox (a2 h24b h25b) ?_
             obtain ⟨y16, hc26, hm⟩ := bd hm
             refine RA (law_SysNumbers_1_ok 10 p1 p2  _ hc26) [0, 1] ?_
             rintro p σ' hq27 _
             obtain ⟨rfl, rfl⟩ := hq27
             refine RunRest_cut 8 ?_
             refine gox (a2 h24b h25b) ?_
             by_cases h28 : ¬ y16 = (IntKind.wrap .i64 ((IntKind.wrap .i64 (1 - y10)) * (IntKind.wrap .i64 (1 - y11))))
             ·rw [if_pos h28] at hm
              have h28b : (y16 != (IntKind.wrap .i64 ((IntKind.wrap .i64 (1 - y10)) * (IntKind.wrap .i64 (1 - y11))))) = true := bne_iff_ne.2 h28
              refine RunRest_ops ?_
              refine gox (a2 h24b (a2 h25b h28b)) ?_
              refine hk _ _ ?_
              clear hk hp k kp
              refine KJoinM_n true () hm ?_
              exact ls
             ·rw [if_neg h28] at hm
              have h28b : (y16 != (IntKind.wrap .i64 ((IntKind.wrap .i64 (1 - y10)) * (IntKind.wrap .i64 (1 - y11))))) = false := bne_eq_false_iff_eq.2 (Decidable.not_not.1 h28)
              refine RunRest_ops ?_
              refine gox (a2 h24b (a2 h25b h28b)) ?_
              obtain ⟨y17, hc29, hm⟩ := bd hm
              refine RA (law_SysNumbers_1_ok 11 p1 p2  _ hc29) [0, 1] ?_
              rintro p σ' hq30 _
              obtain ⟨rfl, rfl⟩ := hq30
              refine RunRest_cut 7 ?_
              refine gox (a2 h24b (a2 h25b h28b)) ?_
              by_cases h31 : ¬ y17 = (IntKind.wrap .i64 (1 - (IntKind.wrap .i64 (y10 * y11))))
              ·rw [if_pos h31] at hm
               have h31b : (y17 != (IntKind.wrap .i64 (1 - (IntKind.wrap .i64 (y10 * y11))))) = true := bne_iff_ne.2 h31
               refine RunRest_ops ?_
               refine gox (a2 h24b (a2 h25b (a2 h28b h31b))) ?_
               refine hk _ _ ?_
               clear hk hp k kp
               refine KJoinM_n true () hm ?_
               exact ls
              ·rw [if_neg h31] at hm
               have h31b : (y17 != (IntKind.wrap .i64 (1 - (IntKind.wrap .i64 (y10 * y11))))) = false := bne_eq_false_iff_eq.2 (Decidable.not_not.1 h31)
               refine RunRest_ops ?_
               refine gox (a2 h24b (a2 h25b (a2 h28b h31b))) ?_
               obtain ⟨y18, hc32, hm⟩ := bd hm
               refine RA (law_SysNumbers_1_ok 12 p1 p2  _ hc32) [0, 1] ?_
               rintro p σ' hq33 _
               obtain ⟨rfl, rfl⟩ := hq33
               refine RunRest_ops ?_
               refine gox (a2 h24b (a2 h25b (a2 h28b h31b))) ?_
               refine hk _ _ ?_
               clear hk hp k kp
               refine KJoinM_n (y18 != (IntKind.wrap .i64 ((IntKind.wrap .i64 ((IntKind.wrap .i64 (1 - y10)) * y11)) + (IntKind.wrap .i64 (y10 * (IntKind.wrap .i64 (1 - y11))))))) () hm ?_
               exact ls
           ·rw [if_neg h24] at hm
            have h24b : (y10 != 0) = false := bne_eq_false_iff_eq.2 (Decidable.not_not.1 h24)
            refine W_region fun k kp hk hp => ?_
            refine gox h24b ?_
            obtain ⟨y19, hc34, hm⟩ := bd hm
            refine RA (law_SysNumbers_1_ok 10 p1 p2  _ hc34) [0, 1] ?_
            rintro p σ' hq35 _
            obtain ⟨rfl, rfl⟩ := hq35
            refine RunRest_cut 8 ?_
            refine gox h24b ?_
            by_cases h36 : ¬ y19 = (IntKind.wrap .i64 ((IntKind.wrap .i64 (1 - y10)) * (IntKind.wrap .i64 (1 - y11))))
            ·rw [if_pos h36] at hm
             have h36b : (y19 != (IntKind.wrap .i64 ((IntKind.wrap .i64 (1 - y10)) * (IntKind.wrap .i64 (1 - y11))))) = true := bne_iff_ne.2 h36
             refine RunRest_ops ?_
             refine gox (a2 h24b h36b) ?_
             refine hk _ _ ?_
             clear hk hp k kp
             refine KJoinM_n true () hm ?_
             exact ls
            ·rw [if_neg h36] at hm
             have h36b : (y19 != (IntKind.wrap .i64 ((IntKind.wrap .i64 (1 - y10)) * (IntKind.wrap .i64 (1 - y11))))) = false := bne_eq_false_iff_eq.2 (Decidable.not_not.1 h36)
             refine RunRest_ops ?_
             refine gox (a2 h24b h36b) ?_
             obtain ⟨y20, hc37, hm⟩ := bd hm
             refine RA (law_SysNumbers_1_ok 11 p1 p2  _ hc37) [0, 1] ?_
             rintro p σ' hq38 _
             obtain ⟨rfl, rfl⟩ := hq38
             refine RunRest_cut 7 ?_
             refine gox (a2 h24b h36b) ?_
             by_cases h39 : ¬ y20 = (IntKind.wrap .i64 (1 - (IntKind.wrap .i64 (y10 * y11))))
             ·rw [if_pos h39] at hm
              have h39b : (y20 != (IntKind.wrap .i64 (1 - (IntKind.wrap .i64 (y10 * y11))))) = true := bne_iff_ne.2 h39
              refine RunRest_ops ?_
              refine gox (a2 h24b (a2 h36b h39b)) ?_
              refine hk _ _ ?_
              clear hk hp k kp
              refine KJoinM_n true () hm ?_
              exact ls
             ·rw [if_neg h39] at hm
              have h39b : (y20 != (IntKind.wrap .i64 (1 - (IntKind.wrap .i64 (y10 * y11))))) = false := bne_eq_false_iff_eq.2 (Decidable.not_not.1 h39)
              refine RunRest_ops ?_
              refine gox (a2 h24b (a2 h36b h39b)) ?_
              obtain ⟨y21, hc40, hm⟩ := bd hm
              refine RA (law_SysNumbers_1_ok 12 p1 p2  _ hc40) [0, 1] ?_
              rintro p σ' hq41 _
              obtain ⟨rfl, rfl⟩ := hq41
              refine RunRest_ops ?_
              refine gox (a2 h24b (a2 h36b h39b)) ?_
              refine hk _ _ ?_
              clear hk hp k kp
              refine KJoinM_n (y21 != (IntKind.wrap .i64 ((IntKind.wrap .i64 ((IntKind.wrap .i64 (1 - y10)) * y11)) + (IntKind.wrap .i64 (y10 * (IntKind.wrap .i64 (1 - y11))))))) () hm ?_
              exact ls
          ·rintro b12 _ hm
           replace hm : law_SysNumbers_j5 p1 p2 b12 = some r := hm
           refine W_eqm ?_
           unfold law_SysNumbers_j5 at hm
           by_cases h17 : b12 = true
           ·rw [if_pos h17] at hm
            refine W_condt rfl (h17) ?_
            refine W_rg [2, 3, 5, 177] ?_
            refine W_ret ?_
            refine KThen_r ?_
            refine KBody_ret [] ?_
            obtain rfl := Option.some.inj hm
            exact en
           ·rw [if_neg h17] at hm
            refine W_condf rfl (Bool.eq_false_iff.2 h17) ?_
            refine W_skip ?_
            refine KThen_n (hk6 _ _ ?_)
            refine W_regF [5, 177, 178, 179, 180, 181] fun k kp hk hp => ?_
            refine go ?_
            obtain ⟨y13, hc18, hm⟩ := bd hm
            refine RA (law_SysNumbers_1_ok 8 p1 p2  _ hc18) [0, 1] ?_
            rintro p σ' hq19 _
            obtain ⟨rfl, rfl⟩ := hq19
            refine RunRest_ops ?_
            refine go ?_
            obtain ⟨y14, hc20, hm⟩ := bd hm
            refine RA (law_SysNumbers_1_ok 9 p1 p2  _ hc20) [0, 1] ?_
            rintro p σ' hq21 _
            obtain ⟨rfl, rfl⟩ := hq21
            refine RunRest_ops ?_
            refine go ?_
            refine hk _ _ ?_
            clear hk hp k kp
            refine W_regF [2, 3, 12, 13, 182, 183, 184, 185, 186, 187, 188, 189, 190, 191, 192, 193, 194, 195, 196, 197] fun k kp hk hp => ?_
            refine go ?_
            obtain ⟨y15, hc22, hm⟩ := bd hm
            refine RP (fun _ => sys_Apply_ok 8 p2 p1 _ hc22) ?_
            by_cases h23 : (IntKind.wrap .i64 ((IntKind.wrap .i64 (y13 + y14)) + y15)) = 1
            ·rw [if_pos h23] at hm
             have h23b : ((IntKind.wrap .i64 ((IntKind.wrap .i64 (y13 + y14)) + y15)) == 1) = true := beq_iff_eq.2 h23
             refine RunRest_ops ?_
             refine gox h23b ?_
             refine hk _ _ ?_
             clear hk hp k kp
             refine W_ret ?_
             refine KBody_ret [] ?_
             obtain rfl := Option.some.inj hm
             exact en
            ·rw [if_neg h23] at hm
             have h23b : ((IntKind.wrap .i64 ((IntKind.wrap .i64 (y13 + y14)) + y15)) == 1) = false := beq_eq_false_iff_ne.2 h23
             refine RunRest_ops ?_
             refine gox h23b ?_
             refine hk _ _ ?_
             clear hk hp k kp
             refine W_ret ?_
             refine KBody_ret [] ?_
             obtain rfl := Option.some.inj hm
             exact en
 ·rw [if_neg h2] at hm
  refine W_condt rfl (by rw [show y1 = false from (Bool.eq_false_iff.2 h2)]; rfl) ?_
  refine W_rg [2, 3, 15] ?_
  refine W_ret ?_
  refine KThen_r ?_
  refine KBody_ret [] ?_
  obtain rfl := Option.some.inj hm
  exact en
end Pam
