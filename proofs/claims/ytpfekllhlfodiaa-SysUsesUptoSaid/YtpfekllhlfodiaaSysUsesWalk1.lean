/- the walk of ref_SameInts, printed by a program of ours -/
import Derived.Test.YtpfekllhlfodiaaBase3
import Derived.Test.YtpfekllhlfodiaaSysUsesFun1
import Derived.Test.YtpfekllhlfodiaaTypes1
set_option linter.all false
namespace Pam
open Go Go.Proofs
set_option maxRecDepth 100000 in
set_option maxHeartbeats 1000000 in
theorem ref_SameInts_ok (p1 : List Int) (p2 : List Int) (r : Bool) (hm : ref_SameInts p1 p2 = some r) : SpecF Try.prog 22 [.c (.tree 1 (p1.map (eK .i64))), .c (.tree 1 (p2.map (eK .i64)))] (.c (.bool r)) := by
 refine Spec_ofD 26 [.tmp 4] Try.func22 rfl rfl rfl (by kernel_rfl) (by simp) ?_
 refine W_eqf ?_
 unfold ref_SameInts at hm
 refine W_rg [4] ?_
 refine W_seq_k fun k1 hk1 => ?_
 refine W_rg [6, 7, 8, 9] ?_
 by_cases h1 : ¬ (p1.length : Int) = (p2.length : Int)
 ·rw [if_pos h1] at hm
  refine W_condt rfl (bne_iff_ne.2 h1) ?_
  refine W_rg [0, 1, 10] ?_
  refine W_ret ?_
  refine KThen_r ?_
  refine KBody_ret [] ?_
  obtain rfl := Option.some.inj hm
  exact en
 ·rw [if_neg h1] at hm
  refine W_condf rfl (bne_eq_false_iff_eq.2 (Decidable.not_not.1 h1)) ?_
  refine W_skip ?_
  refine KThen_n (hk1 _ _ ?_)
  refine W_joinM (S := Unit) (V := Unit) [0, 1, 4, 5, 10, 11, 12, 13, 14, 15, 16, 17, 18, 19, 20, 21, 22, 23, 24, 25] (fun _ _ => []) (fun _ _ => []) (fun _ => ref_SameInts_j1 = some r) ?_ ?_
  ·skip
   refine W_rg [10] ?_
   refine W_block ?_
   obtain ⟨o1, hl1, hm1⟩ := bd hm
   refine W_loopM (S := Int) (V := Unit) (O := Unit ⊕ Bool) [4, 5, 11, 12, 13, 14, 15, 16, 17, 18, 19, 20, 21, 22, 23, 24, 25] (fun x3 _ => [(5, .c (.int .i64 x3))]) (fun x3 _ => []) _ _ () hl1 ?_ ?_
   ·exact ls
   ·rintro x3 _ r1 hm hr1
    replace hm : ref_SameInts_l1 p1 p2 x3 = some r1 := hm
    refine W_eqm ?_
    unfold ref_SameInts_l1 at hm
    refine W_seq_k fun k2 hk2 => ?_
    refine W_rg [11, 12, 13] ?_
    by_cases h2 : x3 < (p1.length : Int)
    ·rw [if_pos h2] at hm
     refine W_condt rfl (decide_eq_true h2) ?_
     refine W_skip ?_
     refine KThen_n (hk2 _ _ ?_)
     refine W_seq_k fun k3 hk3 => ?_
     refine W_block ?_
     obtain ⟨⟨hg3a, hg3b⟩, hm⟩ := gd hm
     refine W_agx (a2 (em (eK .i64) p1 x3.toNat) (em (eK .i64) p2 x3.toNat)) [14, 17, 18, 19, 20, 21, 22, 23, 24] [0, 0, 3, 7, 0, 0, 48, 112, 255] [false, false, false, false, false, false, false, false, true] ?_
     by_cases h4 : ¬ (p1.getD x3.toNat default) = (p2.getD x3.toNat default)
     ·rw [if_pos h4] at hm
      refine W_condt rfl (bne_iff_ne.2 h4) ?_
      refine W_rg [0, 1, 5, 25] ?_
      have ho5 := out_eq hm hr1
      subst ho5
      replace hm : some false = some r := hm1
      refine W_ret ?_
      refine KBlock_r ?_
      refine KThen_r ?_
      refine KLoopM_r ?_
      refine KBlock_r ?_
      refine KJoinM_r ?_
      refine KBody_ret [] ?_
      obtain rfl := Option.some.inj hm
      exact en
     ·rw [if_neg h4] at hm
      refine W_condf rfl (bne_eq_false_iff_eq.2 (Decidable.not_not.1 h4)) ?_
      refine W_skip ?_
      refine KBlock_n ?_
      refine KThen_n (hk3 _ _ ?_)
      refine W_rn ?_
      refine KLoopM_n (IntKind.wrap .i64 (x3 + 1)) () hm ?_
      exact ls
    ·rw [if_neg h2] at hm
     refine W_condf rfl (decide_eq_false h2) ?_
     refine W_exit ?_
     have ho6 := out_eq hm hr1
     subst ho6
     replace hm : ref_SameInts_j1 = some r := hm1
     refine KThen_x ?_
     refine KLoopM_x ?_
     refine KBlock_hit ?_
     refine KJoinM_n () () hm ?_
     exact ls
  ·rintro _ _ hm
   replace hm : ref_SameInts_j1 = some r := hm
   refine W_eqm ?_
   unfold ref_SameInts_j1 at hm
   refine W_rg [] ?_
   refine W_ret ?_
   refine KBody_ret [] ?_
   obtain rfl := Option.some.inj hm
   exact en
end Pam

/- the walk of sys_divide, printed by a program of ours -/
namespace Pam
open Go Go.Proofs
set_option maxRecDepth 100000 in
set_option maxHeartbeats 1000000 in
theorem sys_divide_ok (p1 : Int) (p2 : Int) (p3 : Int) (r : Int) (hm : sys_divide p1 p2 p3 = some r) : SpecF Try.prog 94 [.c (.int .i64 p1), .c (.int .i64 p2), .c (.int .i64 p3)] (.c (.int .i64 r)) := by
 refine Spec_ofD 17 [.tmp 6] Try.func94 rfl rfl rfl (by kernel_rfl) (by simp) ?_
 refine W_eqf ?_
 unfold sys_divide at hm
 refine W_rg [6] ?_
 refine W_seq_k fun k1 hk1 => ?_
 refine W_rg [7] ?_
 by_cases h1 : p3 = 0
 ·rw [if_pos h1] at hm
  refine W_condt rfl (beq_iff_eq.2 h1) ?_
  refine W_rg [0, 1, 2, 8] ?_
  refine W_ret ?_
  refine KThen_r ?_
  refine KBody_ret [] ?_
  obtain rfl := Option.some.inj hm
  exact en
 ·rw [if_neg h1] at hm
  refine W_condf rfl (beq_eq_false_iff_ne.2 h1) ?_
  refine W_skip ?_
  refine KThen_n (hk1 _ _ ?_)
  refine W_seq_k fun k2 hk2 => ?_
  refine W_rg [0, 8, 9] ?_
  by_cases h2 : p1 = 4
  ·rw [if_pos h2] at hm
   refine W_condt rfl (beq_iff_eq.2 h2) ?_
   obtain ⟨hg3a, hm⟩ := gd hm
   refine W_rg [1, 2, 10, 11, 12, 13] ?_
   refine W_ret ?_
   refine KThen_r ?_
   refine KBody_ret [] ?_
   obtain rfl := Option.some.inj hm
   exact en
  ·rw [if_neg h2] at hm
   refine W_condf rfl (beq_eq_false_iff_ne.2 h2) ?_
   refine W_skip ?_
   refine KThen_n (hk2 _ _ ?_)
   obtain ⟨hg4a, hm⟩ := gd hm
   refine W_rg [1, 2, 10, 14, 15, 16] ?_
   refine W_ret ?_
   refine KBody_ret [] ?_
   obtain rfl := Option.some.inj hm
   exact en
end Pam

/- the walk of sys_truth, printed by a program of ours -/
namespace Pam
open Go Go.Proofs
set_option maxRecDepth 100000 in
set_option maxHeartbeats 1000000 in
theorem sys_truth_ok (p1 : Bool) (r : Int) (hm : sys_truth p1 = some r) : SpecF Try.prog 95 [.c (.bool p1)] (.c (.int .i64 r)) := by
 refine Spec_ofD 4 [.tmp 2] Try.func95 rfl rfl rfl (by kernel_rfl) (by simp) ?_
 refine W_eqf ?_
 unfold sys_truth at hm
 refine W_rg [2] ?_
 refine W_seq_k fun k1 hk1 => ?_
 refine W_rg [0] ?_
 by_cases h1 : p1 = true
 ·rw [if_pos h1] at hm
  refine W_condt rfl (h1) ?_
  refine W_rg [3] ?_
  refine W_ret ?_
  refine KThen_r ?_
  refine KBody_ret [] ?_
  obtain rfl := Option.some.inj hm
  exact en
 ·rw [if_neg h1] at hm
  refine W_condf rfl (Bool.eq_false_iff.2 h1) ?_
  refine W_skip ?_
  refine KThen_n (hk1 _ _ ?_)
  refine W_rg [3] ?_
  refine W_ret ?_
  refine KBody_ret [] ?_
  obtain rfl := Option.some.inj hm
  exact en
end Pam

/- the walk of sys_Apply, printed by a program of ours -/
namespace Pam
open Go Go.Proofs
set_option maxRecDepth 100000 in
set_option maxHeartbeats 8000000 in
theorem sys_Apply_ok (p1 : Int) (p2 : Int) (p3 : Int) (r : Int) (hm : sys_Apply p1 p2 p3 = some r) : SpecF Try.prog 39 [.c (.int .i64 p1), .c (.int .i64 p2), .c (.int .i64 p3)] (.c (.int .i64 r)) := by
 refine Spec_ofD 87 [.tmp 6] Try.func39 rfl rfl rfl (by kernel_rfl) (by simp) ?_
 refine W_eqf ?_
 unfold sys_Apply at hm
 refine W_rg [6] ?_
 refine W_seq_k fun k1 hk1 => ?_
 refine W_rg [] ?_
 refine W_block ?_
 refine W_rg [9] ?_
 by_cases h1 : p1 = 1
 ·rw [if_pos h1] at hm
  refine W_condt rfl (beq_iff_eq.2 h1) ?_
  refine W_rg [0, 1, 2, 7, 8, 10, 11, 12] ?_
  refine W_ret ?_
  refine KBlock_r ?_
  refine KThen_r ?_
  refine KBody_ret [] ?_
  obtain rfl := Option.some.inj hm
  exact en
 ·rw [if_neg h1] at hm
  refine W_condf rfl (beq_eq_false_iff_ne.2 h1) ?_
  refine W_rg [8, 14] ?_
  by_cases h2 : p1 = 2
  ·rw [if_pos h2] at hm
   refine W_condt rfl (beq_iff_eq.2 h2) ?_
   refine W_rg [0, 1, 2, 7, 13, 15, 16, 17] ?_
   refine W_ret ?_
   refine KBlock_r ?_
   refine KThen_r ?_
   refine KBody_ret [] ?_
   obtain rfl := Option.some.inj hm
   exact en
  ·rw [if_neg h2] at hm
   refine W_condf rfl (beq_eq_false_iff_ne.2 h2) ?_
   refine W_rg [13, 19] ?_
   by_cases h3 : p1 = 3
   ·rw [if_pos h3] at hm
    refine W_condt rfl (beq_iff_eq.2 h3) ?_
    refine W_rg [0, 1, 2, 7, 18, 20, 21, 22] ?_
    refine W_ret ?_
    refine KBlock_r ?_
    refine KThen_r ?_
    refine KBody_ret [] ?_
    obtain rfl := Option.some.inj hm
    exact en
   ·rw [if_neg h3] at hm
    refine W_condf rfl (beq_eq_false_iff_ne.2 h3) ?_
    refine W_joinM (S := Bool) (V := Unit) [18, 23, 24, 25] (fun b1 _ => [(23, .c (.bool b1))]) (fun b1 _ => []) (fun b1 => sys_Apply_j1 p1 p2 p3 b1 = some r) ?_ ?_
    ·skip
     refine W_rg [18, 24] ?_
     by_cases h25 : p1 = 4
     ·rw [if_pos h25] at hm
      refine W_condt rfl (beq_iff_eq.2 h25) ?_
      refine W_skip ?_
      refine KJoinM_n (p1 == 4) () hm ?_
      exact ls
     ·rw [if_neg h25] at hm
      refine W_condf rfl (beq_eq_false_iff_ne.2 h25) ?_
      refine W_rn ?_
      refine KJoinM_n (p1 == 5) () hm ?_
      exact ls
    ·rintro b1 _ hm
     replace hm : sys_Apply_j1 p1 p2 p3 b1 = some r := hm
     refine W_eqm ?_
     unfold sys_Apply_j1 at hm
     by_cases h4 : b1 = true
     ·rw [if_pos h4] at hm
      refine W_condt rfl (h4) ?_
      refine W_regF [0, 1, 2, 7, 23, 26, 27, 28, 29] fun k kp hk hp => ?_
      refine go ?_
      obtain ⟨y2, hc5, hm⟩ := bd hm
      refine RP (fun _ => sys_divide_ok p1 p2 p3 _ hc5) ?_
      refine RunRest_ops ?_
      refine go ?_
      refine hk _ _ ?_
      clear hk hp k kp
      refine W_ret ?_
      refine KBlock_r ?_
      refine KThen_r ?_
      refine KBody_ret [] ?_
      obtain rfl := Option.some.inj hm
      exact en
     ·rw [if_neg h4] at hm
      refine W_condf rfl (Bool.eq_false_iff.2 h4) ?_
      refine W_rg [0, 23, 31] ?_
      by_cases h6 : p1 = 6
      ·rw [if_pos h6] at hm
       refine W_condt rfl (beq_iff_eq.2 h6) ?_
       refine W_rg [1, 2, 7, 30, 32, 33, 34] ?_
       refine W_ret ?_
       refine KBlock_r ?_
       refine KThen_r ?_
       refine KBody_ret [] ?_
       obtain rfl := Option.some.inj hm
       exact en
      ·rw [if_neg h6] at hm
       refine W_condf rfl (beq_eq_false_iff_ne.2 h6) ?_
       refine W_rg [30, 36] ?_
       by_cases h7 : p1 = 7
       ·rw [if_pos h7] at hm
        refine W_condt rfl (beq_iff_eq.2 h7) ?_
        refine W_rg [1, 2, 7, 35, 37, 38, 39] ?_
        refine W_ret ?_
        refine KBlock_r ?_
        refine KThen_r ?_
        refine KBody_ret [] ?_
        obtain rfl := Option.some.inj hm
        exact en
       ·rw [if_neg h7] at hm
        refine W_condf rfl (beq_eq_false_iff_ne.2 h7) ?_
        refine W_rg [35, 41] ?_
        by_cases h8 : p1 = 8
        ·rw [if_pos h8] at hm
         refine W_condt rfl (beq_iff_eq.2 h8) ?_
         refine W_regF [1, 2, 7, 40, 42, 43, 44, 45] fun k kp hk hp => ?_
         refine go ?_
         obtain ⟨y3, hc9, hm⟩ := bd hm
         refine RP (fun _ => sys_truth_ok (decide (p2 < p3)) _ hc9) ?_
         refine RunRest_ops ?_
         refine go ?_
         refine hk _ _ ?_
         clear hk hp k kp
         refine W_ret ?_
         refine KBlock_r ?_
         refine KThen_r ?_
         refine KBody_ret [] ?_
         obtain rfl := Option.some.inj hm
         exact en
        ·rw [if_neg h8] at hm
         refine W_condf rfl (beq_eq_false_iff_ne.2 h8) ?_
         refine W_rg [40, 47] ?_
         by_cases h10 : p1 = 9
         ·rw [if_pos h10] at hm
          refine W_condt rfl (beq_iff_eq.2 h10) ?_
          refine W_regF [1, 2, 7, 46, 48, 49, 50, 51] fun k kp hk hp => ?_
          refine go ?_
          obtain ⟨y4, hc11, hm⟩ := bd hm
          refine RP (fun _ => sys_truth_ok (p2 == p3) _ hc11) ?_
          refine RunRest_ops ?_
          refine go ?_
          refine hk _ _ ?_
          clear hk hp k kp
          refine W_ret ?_
          refine KBlock_r ?_
          refine KThen_r ?_
          refine KBody_ret [] ?_
          obtain rfl := Option.some.inj hm
          exact en
         ·rw [if_neg h10] at hm
          refine W_condf rfl (beq_eq_false_iff_ne.2 h10) ?_
          refine W_rg [46, 53] ?_
          by_cases h12 : p1 = 10
          ·rw [if_pos h12] at hm
           refine W_condt rfl (beq_iff_eq.2 h12) ?_
           by_cases h13 : ¬ p2 = 0
           ·rw [if_pos h13] at hm
            have h13b : (p2 != 0) = true := bne_iff_ne.2 h13
            refine W_regF [1, 2, 7, 52, 54, 55, 56, 57, 58, 59, 60] fun k kp hk hp => ?_
            refine gox h13b ?_
            obtain ⟨y5, hc14, hm⟩ := bd hm
            refine RP (fun _ => sys_truth_ok (p3 != 0) _ hc14) ?_
            refine RunRest_ops ?_
            refine gox h13b ?_
            refine hk _ _ ?_
            clear hk hp k kp
            refine W_ret ?_
            refine KBlock_r ?_
            refine KThen_r ?_
            refine KBody_ret [] ?_
            obtain rfl := Option.some.inj hm
            exact en
           ·rw [if_neg h13] at hm
            have h13b : (p2 != 0) = false := bne_eq_false_iff_eq.2 (Decidable.not_not.1 h13)
            refine W_regF [1, 2, 7, 52, 54, 55, 56, 57, 58, 59, 60] fun k kp hk hp => ?_
            refine gox h13b ?_
            obtain ⟨y6, hc15, hm⟩ := bd hm
            refine RP (fun _ => sys_truth_ok false _ hc15) ?_
            refine RunRest_ops ?_
            refine gox h13b ?_
            refine hk _ _ ?_
            clear hk hp k kp
            refine W_ret ?_
            refine KBlock_r ?_
            refine KThen_r ?_
            refine KBody_ret [] ?_
            obtain rfl := Option.some.inj hm
            exact en
          ·rw [if_neg h12] at hm
           refine W_condf rfl (beq_eq_false_iff_ne.2 h12) ?_
           refine W_rg [52, 62] ?_
           by_cases h16 : p1 = 11
           ·rw [if_pos h16] at hm
            refine W_condt rfl (beq_iff_eq.2 h16) ?_
            by_cases h17 : ¬ p2 = 0
            ·rw [if_pos h17] at hm
             have h17b : (p2 != 0) = true := bne_iff_ne.2 h17
             refine W_regF [1, 2, 7, 61, 63, 64, 65, 66, 67, 68, 69] fun k kp hk hp => ?_
             refine gox h17b ?_
             obtain ⟨y7, hc18, hm⟩ := bd hm
             refine RP (fun _ => sys_truth_ok true _ hc18) ?_
             refine RunRest_ops ?_
             refine gox h17b ?_
             refine hk _ _ ?_
             clear hk hp k kp
             refine W_ret ?_
             refine KBlock_r ?_
             refine KThen_r ?_
             refine KBody_ret [] ?_
             obtain rfl := Option.some.inj hm
             exact en
            ·rw [if_neg h17] at hm
             have h17b : (p2 != 0) = false := bne_eq_false_iff_eq.2 (Decidable.not_not.1 h17)
             refine W_regF [1, 2, 7, 61, 63, 64, 65, 66, 67, 68, 69] fun k kp hk hp => ?_
             refine gox h17b ?_
             obtain ⟨y8, hc19, hm⟩ := bd hm
             refine RP (fun _ => sys_truth_ok (p3 != 0) _ hc19) ?_
             refine RunRest_ops ?_
             refine gox h17b ?_
             refine hk _ _ ?_
             clear hk hp k kp
             refine W_ret ?_
             refine KBlock_r ?_
             refine KThen_r ?_
             refine KBody_ret [] ?_
             obtain rfl := Option.some.inj hm
             exact en
           ·rw [if_neg h16] at hm
            refine W_condf rfl (beq_eq_false_iff_ne.2 h16) ?_
            refine W_rg [61, 71] ?_
            by_cases h20 : p1 = 12
            ·rw [if_pos h20] at hm
             refine W_condt rfl (beq_iff_eq.2 h20) ?_
             refine W_regF [1, 2, 7, 70, 72, 73, 74, 75, 76, 77] fun k kp hk hp => ?_
             refine go ?_
             obtain ⟨y9, hc21, hm⟩ := bd hm
             refine RP (fun _ => sys_truth_ok (!((p2 != 0) == (p3 != 0))) _ hc21) ?_
             refine RunRest_ops ?_
             refine go ?_
             refine hk _ _ ?_
             clear hk hp k kp
             refine W_ret ?_
             refine KBlock_r ?_
             refine KThen_r ?_
             refine KBody_ret [] ?_
             obtain rfl := Option.some.inj hm
             exact en
            ·rw [if_neg h20] at hm
             refine W_condf rfl (beq_eq_false_iff_ne.2 h20) ?_
             refine W_rg [2, 70, 79] ?_
             by_cases h22 : p1 = 13
             ·rw [if_pos h22] at hm
              refine W_condt rfl (beq_iff_eq.2 h22) ?_
              refine W_rg [1, 7, 78, 80, 81] ?_
              refine W_ret ?_
              refine KBlock_r ?_
              refine KThen_r ?_
              refine KBody_ret [] ?_
              obtain rfl := Option.some.inj hm
              exact en
             ·rw [if_neg h22] at hm
              refine W_condf rfl (beq_eq_false_iff_ne.2 h22) ?_
              refine W_rg [7, 78, 83] ?_
              by_cases h23 : p1 = 14
              ·rw [if_pos h23] at hm
               refine W_condt rfl (beq_iff_eq.2 h23) ?_
               refine W_regF [1, 82, 84, 85, 86] fun k kp hk hp => ?_
               refine go ?_
               obtain ⟨y10, hc24, hm⟩ := bd hm
               refine RP (fun _ => sys_truth_ok (p2 == 0) _ hc24) ?_
               refine RunRest_ops ?_
               refine go ?_
               refine hk _ _ ?_
               clear hk hp k kp
               refine W_ret ?_
               refine KBlock_r ?_
               refine KThen_r ?_
               refine KBody_ret [] ?_
               obtain rfl := Option.some.inj hm
               exact en
              ·rw [if_neg h23] at hm
               refine W_condf rfl (beq_eq_false_iff_ne.2 h23) ?_
               refine W_skip ?_
               refine KBlock_n ?_
               refine KThen_n (hk1 _ _ ?_)
               refine W_rg [1, 82] ?_
               refine W_ret ?_
               refine KBody_ret [] ?_
               obtain rfl := Option.some.inj hm
               exact en
end Pam

/- the walk of slices_Clone_int_int, printed by a program of ours -/
namespace Pam
open Go Go.Proofs
set_option maxRecDepth 100000 in
set_option maxHeartbeats 1000000 in
theorem slices_Clone_int_int_ok (p1 : List Int) (r : (List Int)) (hm : slices_Clone_int_int p1 = some r) : Spec Try.prog 89 [.c (.tree 1 (p1.map (eK .i64)))] [] (fun p σ => (p = .c (.osl 0 1 0 r.length) ∧ σ = [.arr 1 1 3 (r.map (eK .i64))])) (fun _ _ => False) := by
 refine Spec_ofD 8 [.tmp 2] Try.func89 rfl rfl rfl (by kernel_rfl) (by simp) ?_
 refine W_eqf ?_
 unfold slices_Clone_int_int at hm
 refine W_rg [2] ?_
 refine W_seq_k fun k1 hk1 => ?_
 by_cases h1 : p1 = []
 ·rw [if_pos h1] at hm
  refine W_nilcase 0 (s := 1) (by rw [h1]; rfl) ?_ ?_
  ·refine W_eqn ?_
   refine W_rg [3] ?_
   refine W_condt rfl rfl ?_
   refine W_rg [0, 4] ?_
   refine W_ghost (Ghost_nil 2 1 3 (by decide) rfl (Nat.le_of_ble_eq_true rfl)) ?_
   refine W_eql ?_
   refine W_ghost (Ghost_new 1 3 (by decide)) ?_
   simp only [bZ, bL, reduceIte, ↓reduceIte, reduceCtorEq, Int.reduceToNat, Nat.reduceDiv, Nat.reduceMod, Nat.reduceLT, Nat.reduceLeDiff, Nat.reduceAdd, Nat.reduceSub, Nat.reduceMul, Nat.reduceEqDiff, Nat.reduceBEq, Nat.reduceBNe, Nat.reduceGT, List.length_cons, List.length_nil, List.length_append, List.cons_append, List.nil_append]
   refine W_gh (Ghost_mv 1 0 (by decide) rfl rfl) ?_
   refine W_gh (Ghost_dn 0 1 (by decide) (Nat.le_of_ble_eq_true rfl) (Nat.le_of_ble_eq_true rfl) rfl rfl) ?_
   refine W_ret ?_
   refine KThen_r ?_
   refine KBody_ret [.arr 1 1 3 ([].map (eK .i64))] ?_
   obtain rfl := Option.some.inj hm
   exact en
  ·refine W_eqn ?_
   refine W_rg [3] ?_
   refine W_condf rfl rfl ?_
   refine W_skip ?_
   refine KThen_n (hk1 _ _ ?_)
   refine W_rg [0, 4, 5, 6, 7] ?_
   refine W_eqa [.arr 1 1 3 ([].map (eK .i64))] ?_
   refine W_ret ?_
   refine KBody_ret [.arr 1 1 3 ([].map (eK .i64))] ?_
   obtain rfl := Option.some.inj hm
   exact en
 ·rw [if_neg h1] at hm
  refine W_rg [3] ?_
  refine W_condf rfl rfl ?_
  refine W_skip ?_
  refine KThen_n (hk1 _ _ ?_)
  obtain ⟨⟨hg2ax, hg2ay⟩, hm⟩ := gd hm
  refine W_rg [0, 4, 5, 6, 7] ?_
  refine W_eqa [.arr 1 1 3 (p1.map (eK .i64))] ?_
  refine W_ret ?_
  refine KBody_ret [.arr 1 1 3 (p1.map (eK .i64))] ?_
  obtain rfl := Option.some.inj hm
  exact en
end Pam

/- the walk of slices_Sort_int_int, printed by a program of ours -/
namespace Pam
open Go Go.Proofs
theorem slices_Sort_int_int_ok (p1 : List Int) (v0_ : Nat) (r : List Int) (hm : slices_Sort_int_int p1 = some r) : Spec Try.prog 90 [.c (.osl 0 v0_ 0 p1.length)] [.arr 1 v0_ 3 (p1.map (eK .i64))] (fun p σ => (p = .t [] ∧ σ = [.arr 1 v0_ 3 (r.map (eK .i64))])) (fun _ _ => False) := by
 unfold slices_Sort_int_int at hm
 split at hm
 ·rename_i h
  simp only [Option.some.injEq] at hm
  subst hm
  exact sort_spec lays_sort rfl ⟨_, Try.func90, rfl, by kernel_rfl⟩ 3 v0_ p1 h
 ·cases hm
end Pam

/- the walk of slices_Compact_int_int, printed by a program of ours -/
namespace Pam
open Go Go.Proofs
theorem slices_Compact_int_int_ok (p0 : Nat) (p1 : List Int) (v0_ : Nat) (r : List Int) (hm : slices_Compact_int_int p0 p1 = some r) : Spec Try.prog 91 [.c (.osl 0 v0_ 0 p0)] [.arr 1 v0_ 3 (p1.map (eK .i64))] (fun p σ => (p = .c (.osl 0 v0_ 0 r.length) ∧ σ = [.arr 1 v0_ 3 (r.map (eK .i64))])) (fun _ _ => False) := by
 unfold slices_Compact_int_int at hm
 split at hm
 ·rename_i h
  simp only [Option.some.injEq] at hm
  subst hm
  obtain ⟨rfl, h⟩ := h
  exact compact_spec lays_compact rfl ⟨_, Try.func91, rfl, by kernel_rfl⟩ 3 v0_ p1 h
 ·cases hm
end Pam

/- the walk of sys_Uses, printed by a program of ours -/
namespace Pam
open Go Go.Proofs
set_option maxRecDepth 100000 in
set_option maxHeartbeats 1000000 in
theorem sys_Uses_ok (p1 : TRule) (r : (List Int)) (hm : sys_Uses p1 = some r) : SpecF Try.prog 36 [.a [.int .i64 p1.op, .int .i64 p1.k, .int .i64 p1.out_, .int .i64 p1.n, .tree 1 (p1.a.map (eK .i64)), .tree 4 (p1.e.map TPush.enc)]] (.c (.tree 1 (r.map (eK .i64)))) := by
 refine Spec_ofD 32 [.tmp 2] Try.func36 rfl rfl rfl (by kernel_rfl) (by simp) ?_
 refine W_eqf ?_
 unfold sys_Uses at hm
 refine W_rg [0, 2] ?_
 refine W_regF [6, 7, 8] fun k kp hk hp => ?_
 refine go ?_
 obtain ⟨y1, hc1, hm⟩ := bd hm
 refine RA (slices_Clone_int_int_ok p1.a  _ hc1) [] ?_
 rintro p σ' hq2 _
 obtain ⟨rfl, rfl⟩ := hq2
 refine RunRest_ops ?_
 refine go ?_
 refine hk _ _ ?_
 clear hk hp k kp
 refine W_joinM (S := (List Int)) (V := Nat) [1, 3, 5, 9, 10, 11, 12, 13, 14, 15, 16, 17, 18, 19, 20, 21, 22, 23, 24, 25, 26, 27] (fun l4 v5 => [(3, .c (.osl 1 v5 0 l4.length))]) (fun l4 v5 => [.box [.int .i64 p1.op, .int .i64 p1.k, .int .i64 p1.out_, .int .i64 p1.n, .tree 1 (p1.a.map (eK .i64)), .tree 4 (p1.e.map TPush.enc)], .arr 1 v5 3 (l4.map (eK .i64))]) (fun l4 => sys_Uses_j1 l4 = some r) ?_ ?_
 ·skip
  refine W_rg [1, 9] ?_
  refine W_block ?_
  obtain ⟨o1, hl1, hm1⟩ := bd hm
  refine W_loopM (S := ((List Int) × Int)) (V := Nat) (O := (List Int)) [3, 5, 12, 13, 14, 15, 16, 17, 18, 19, 20, 21, 22, 23, 24, 25, 26, 27] (fun (l20, x22) v21 => [(3, .c (.osl 1 v21 0 l20.length)), (12, .c (.int .i64 x22))]) (fun (l20, x22) v21 => [.box [.int .i64 p1.op, .int .i64 p1.k, .int .i64 p1.out_, .int .i64 p1.n, .tree 1 (p1.a.map (eK .i64)), .tree 4 (p1.e.map TPush.enc)], .arr 1 v21 3 (l20.map (eK .i64))]) _ _ 1 hl1 ?_ ?_
  ·exact ls
  ·rintro ⟨l20, x22⟩ v21 r1 hm hr1
   replace hm : sys_Uses_l1 p1 l20 x22 = some r1 := hm
   refine W_eqm ?_
   unfold sys_Uses_l1 at hm
   refine W_rg [] ?_
   refine W_seq_k fun k1 hk1 => ?_
   by_cases h7 : x22 < (p1.e.length : Int)
   ·rw [if_pos h7] at hm
    refine W_condt rfl (decide_eq_true h7) ?_
    refine W_skip ?_
    refine KThen_n (hk1 _ _ ?_)
    refine W_seq_k fun k2 hk2 => ?_
    refine W_block ?_
    obtain ⟨hg8a, hm⟩ := gd hm
    refine W_rgx (em TPush.enc p1.e x22.toNat) [13, 14, 15] ?_
    refine W_rg [16] ?_
    refine W_block ?_
    refine W_joinM (S := Bool) (V := Nat) [3, 17, 18, 19, 20, 21] (fun b25 v24 => [(3, .c (.osl 1 v24 0 l20.length)), (18, .c (.bool b25))]) (fun b25 v24 => [.box [.int .i64 p1.op, .int .i64 p1.k, .int .i64 p1.out_, .int .i64 p1.n, .tree 1 (p1.a.map (eK .i64)), .tree 4 (p1.e.map TPush.enc)], .arr 1 v24 3 (l20.map (eK .i64)), .box [.int .i64 ((p1.e.getD x22.toNat default).op), .int .i64 ((p1.e.getD x22.toNat default).k), .int .i64 ((p1.e.getD x22.toNat default).v), .int .i64 ((p1.e.getD x22.toNat default).n)]]) (fun b25 => sys_Uses_j2 p1 l20 x22 b25 = some r1) ?_ ?_
    ·skip
     refine W_rg [19] ?_
     by_cases h11 : ((p1.e.getD x22.toNat default).op) = 2
     ·rw [if_pos h11] at hm
      refine W_condt rfl (beq_iff_eq.2 h11) ?_
      refine W_skip ?_
      refine KJoinM_n (((p1.e.getD x22.toNat default).op) == 2) v21 hm ?_
      exact ls
     ·rw [if_neg h11] at hm
      refine W_condf rfl (beq_eq_false_iff_ne.2 h11) ?_
      refine W_rg [20] ?_
      by_cases h12 : ((p1.e.getD x22.toNat default).op) = 3
      ·rw [if_pos h12] at hm
       refine W_condt rfl (beq_iff_eq.2 h12) ?_
       refine W_skip ?_
       refine KJoinM_n (((p1.e.getD x22.toNat default).op) == 3) v21 hm ?_
       exact ls
      ·rw [if_neg h12] at hm
       refine W_condf rfl (beq_eq_false_iff_ne.2 h12) ?_
       refine W_rn ?_
       refine KJoinM_n (((p1.e.getD x22.toNat default).op) == 8) v21 hm ?_
       exact ls
    ·rintro b25 v24 hm
     replace hm : sys_Uses_j2 p1 l20 x22 b25 = some r1 := hm
     refine W_eqm ?_
     unfold sys_Uses_j2 at hm
     by_cases h9 : b25 = true
     ·rw [if_pos h9] at hm
      refine W_condt rfl (h9) ?_
      obtain ⟨⟨hg10ax, hg10ay⟩, hm⟩ := gd hm
      refine W_rn ?_
      refine KBlock_n ?_
      refine KBlock_n ?_
      refine KThen_n (hk2 _ _ ?_)
      refine W_rn ?_
      refine KLoopM_n ((l20 ++ (lit ([(p1.e.getD x22.toNat default).v] : List Int))), (IntKind.wrap .i64 (x22 + 1))) (v24 + 1) hm ?_
      exact ls
     ·rw [if_neg h9] at hm
      refine W_condf rfl (Bool.eq_false_iff.2 h9) ?_
      refine W_skip ?_
      refine KBlock_n ?_
      refine KBlock_n ?_
      refine KThen_n (hk2 _ _ ?_)
      refine W_rn ?_
      refine KLoopM_n (l20, (IntKind.wrap .i64 (x22 + 1))) v24 hm ?_
      exact ls
   ·rw [if_neg h7] at hm
    refine W_condf rfl (decide_eq_false h7) ?_
    refine W_exit ?_
    have ho13 := out_eq hm hr1
    subst ho13
    replace hm : sys_Uses_j1 l20 = some r := hm1
    refine KThen_x ?_
    refine KLoopM_x ?_
    refine KBlock_hit ?_
    refine KJoinM_n l20 v21 hm ?_
    exact ls
 ·rintro l4 v5 hm
  replace hm : sys_Uses_j1 l4 = some r := hm
  refine W_eqm ?_
  unfold sys_Uses_j1 at hm
  refine W_regF [28, 29] fun k kp hk hp => ?_
  refine go ?_
  obtain ⟨y6, hc3, hm⟩ := bd hm
  refine RA (slices_Sort_int_int_ok l4 v5 _ hc3) [1] ?_
  rintro p σ' hq4 _
  obtain ⟨rfl, rfl⟩ := hq4
  refine RunRest_ops ?_
  refine go ?_
  refine hk _ _ ?_
  clear hk hp k kp
  refine W_regF [3, 30, 31] fun k kp hk hp => ?_
  refine go ?_
  obtain ⟨y7, hc5, hm⟩ := bd hm
  refine RA (slices_Compact_int_int_ok l4.length y6 v5 _ hc5) [1] ?_
  rintro p σ' hq6 _
  obtain ⟨rfl, rfl⟩ := hq6
  refine RunRest_ops ?_
  refine go ?_
  refine hk _ _ ?_
  clear hk hp k kp
  refine W_gh (Ghost_fr 1 rfl) ?_
  refine W_ret ?_
  refine KBody_ret [] ?_
  obtain rfl := Option.some.inj hm
  exact en
end Pam

/- the walk of sys_judge_is, printed by a program of ours -/
namespace Pam
open Go Go.Proofs
set_option maxRecDepth 100000 in
set_option maxHeartbeats 1000000 in
theorem sys_judge_is_ok (p1 : Int) (p2 : Tjudge) (r : Bool) (hm : sys_judge_is p1 p2 = some r) : Spec Try.prog 124 [.c (.optr 0 0), .c (.int .i64 p1)] [.box [.tree 2 (p2.system.vars.map TVar.enc), .tree 1 (p2.system.in_.map (eK .i64)), .tree 1 (p2.system.out_.map (eK .i64)), .tree 6 (p2.system.rules.map TRule.enc), .int .i64 p2.code]] (fun p σ => (p = .c (.bool r) ∧ σ = [.box [.tree 2 (p2.system.vars.map TVar.enc), .tree 1 (p2.system.in_.map (eK .i64)), .tree 1 (p2.system.out_.map (eK .i64)), .tree 6 (p2.system.rules.map TRule.enc), .int .i64 p2.code]])) (fun _ _ => False) := by
 refine Spec_ofD 17 [.tmp 4] Try.func124 rfl rfl rfl (by kernel_rfl) (by simp) ?_
 refine W_eqf ?_
 unfold sys_judge_is at hm
 refine W_rg [4] ?_
 by_cases h1 : p1 ≥ 0
 ·rw [if_pos h1] at hm
  have h1b : decide (p1 ≥ 0) = true := decide_eq_true h1
  refine W_rgx h1b [0, 1, 5, 6, 7, 8, 9, 10, 11, 12, 13, 14, 15, 16] ?_
  refine W_ret ?_
  refine KBody_ret [.box [.tree 2 (p2.system.vars.map TVar.enc), .tree 1 (p2.system.in_.map (eK .i64)), .tree 1 (p2.system.out_.map (eK .i64)), .tree 6 (p2.system.rules.map TRule.enc), .int .i64 p2.code]] ?_
  obtain rfl := Option.some.inj hm
  exact en
 ·rw [if_neg h1] at hm
  have h1b : decide (p1 ≥ 0) = false := decide_eq_false h1
  refine W_rgx h1b [0, 1, 5, 6, 7, 8, 9, 10, 11, 12, 13, 14, 15, 16] ?_
  refine W_ret ?_
  refine KBody_ret [.box [.tree 2 (p2.system.vars.map TVar.enc), .tree 1 (p2.system.in_.map (eK .i64)), .tree 1 (p2.system.out_.map (eK .i64)), .tree 6 (p2.system.rules.map TRule.enc), .int .i64 p2.code]] ?_
  obtain rfl := Option.some.inj hm
  exact en
end Pam

/- the walk of slices_Index_int_int, printed by a program of ours -/
namespace Pam
open Go Go.Proofs
set_option maxRecDepth 100000 in
set_option maxHeartbeats 1000000 in
theorem slices_Index_int_int_ok (p1 : List Int) (p2 : Int) (r : Int) (hm : slices_Index_int_int p1 p2 = some r) : SpecF Try.prog 108 [.c (.tree 1 (p1.map (eK .i64))), .c (.int .i64 p2)] (.c (.int .i64 r)) := by
 refine Spec_ofD 19 [.tmp 4] Try.func108 rfl rfl rfl (by kernel_rfl) (by simp) ?_
 refine W_eqf ?_
 unfold slices_Index_int_int at hm
 refine W_rg [4] ?_
 refine W_joinM (S := Unit) (V := Unit) [0, 1, 4, 5, 6, 7, 8, 9, 10, 11, 12, 13, 14, 15, 16, 17, 18] (fun _ _ => []) (fun _ _ => []) (fun _ => slices_Index_int_int_j1 = some r) ?_ ?_
 ·skip
  refine W_rg [6] ?_
  refine W_block ?_
  obtain ⟨o1, hl1, hm1⟩ := bd hm
  refine W_loopM (S := Int) (V := Unit) (O := Unit ⊕ Int) [4, 5, 8, 9, 10, 11, 12, 13, 14, 15, 16, 17, 18] (fun x3 _ => [(8, .c (.int .i64 x3))]) (fun x3 _ => []) _ _ () hl1 ?_ ?_
  ·exact ls
  ·rintro x3 _ r1 hm hr1
   replace hm : slices_Index_int_int_l1 p1 p2 x3 = some r1 := hm
   refine W_eqm ?_
   unfold slices_Index_int_int_l1 at hm
   refine W_rg [] ?_
   refine W_seq_k fun k1 hk1 => ?_
   by_cases h1 : x3 < (p1.length : Int)
   ·rw [if_pos h1] at hm
    refine W_condt rfl (decide_eq_true h1) ?_
    refine W_skip ?_
    refine KThen_n (hk1 _ _ ?_)
    refine W_seq_k fun k2 hk2 => ?_
    refine W_block ?_
    refine W_rg [9, 10] ?_
    obtain ⟨hg2a, hm⟩ := gd hm
    refine W_rgx (em (eK .i64) p1 x3.toNat) [11, 12, 13, 14, 15] ?_
    by_cases h3 : p2 = (p1.getD x3.toNat default)
    ·rw [if_pos h3] at hm
     refine W_condt rfl (beq_iff_eq.2 h3) ?_
     refine W_rg [0, 1, 5, 7, 8, 16, 17] ?_
     have ho4 := out_eq hm hr1
     subst ho4
     replace hm : some x3 = some r := hm1
     refine W_ret ?_
     refine KBlock_r ?_
     refine KThen_r ?_
     refine KLoopM_r ?_
     refine KBlock_r ?_
     refine KJoinM_r ?_
     refine KBody_ret [] ?_
     obtain rfl := Option.some.inj hm
     exact en
    ·rw [if_neg h3] at hm
     refine W_condf rfl (beq_eq_false_iff_ne.2 h3) ?_
     refine W_skip ?_
     refine KBlock_n ?_
     refine KThen_n (hk2 _ _ ?_)
     refine W_rn ?_
     refine KLoopM_n (IntKind.wrap .i64 (x3 + 1)) () hm ?_
     exact ls
   ·rw [if_neg h1] at hm
    refine W_condf rfl (decide_eq_false h1) ?_
    refine W_exit ?_
    have ho5 := out_eq hm hr1
    subst ho5
    replace hm : slices_Index_int_int_j1 = some r := hm1
    refine KThen_x ?_
    refine KLoopM_x ?_
    refine KBlock_hit ?_
    refine KJoinM_n () () hm ?_
    exact ls
 ·rintro _ _ hm
  replace hm : slices_Index_int_int_j1 = some r := hm
  refine W_eqm ?_
  unfold slices_Index_int_int_j1 at hm
  refine W_rg [] ?_
  refine W_ret ?_
  refine KBody_ret [] ?_
  obtain rfl := Option.some.inj hm
  exact en
end Pam

/- the walk of slices_Contains_int_int, printed by a program of ours -/
namespace Pam
open Go Go.Proofs
set_option maxRecDepth 100000 in
set_option maxHeartbeats 1000000 in
theorem slices_Contains_int_int_ok (p1 : List Int) (p2 : Int) (r : Bool) (hm : slices_Contains_int_int p1 p2 = some r) : SpecF Try.prog 125 [.c (.tree 1 (p1.map (eK .i64))), .c (.int .i64 p2)] (.c (.bool r)) := by
 refine Spec_ofD 9 [.tmp 4] Try.func125 rfl rfl rfl (by kernel_rfl) (by simp) ?_
 refine W_eqf ?_
 unfold slices_Contains_int_int at hm
 refine W_rg [4] ?_
 refine W_regF [0, 1, 5, 6, 7, 8] fun k kp hk hp => ?_
 refine go ?_
 obtain ⟨y1, hc1, hm⟩ := bd hm
 refine RP (fun _ => slices_Index_int_int_ok p1 p2 _ hc1) ?_
 refine RunRest_ops ?_
 refine go ?_
 refine hk _ _ ?_
 clear hk hp k kp
 refine W_ret ?_
 refine KBody_ret [] ?_
 obtain rfl := Option.some.inj hm
 exact en
end Pam

/- the walk of sys_judge_head, printed by a program of ours -/
namespace Pam
open Go Go.Proofs
set_option maxRecDepth 100000 in
set_option maxHeartbeats 8000000 in
theorem sys_judge_head_ok (p1 : Tjudge) (r : TFault) (hm : sys_judge_head p1 = some r) : Spec Try.prog 81 [.c (.optr 0 0)] [.box [.tree 2 (p1.system.vars.map TVar.enc), .tree 1 (p1.system.in_.map (eK .i64)), .tree 1 (p1.system.out_.map (eK .i64)), .tree 6 (p1.system.rules.map TRule.enc), .int .i64 p1.code]] (fun p σ => (p = .a [.int .i64 ((r).code), .int .i64 ((r).at_)] ∧ σ = [.box [.tree 2 (p1.system.vars.map TVar.enc), .tree 1 (p1.system.in_.map (eK .i64)), .tree 1 (p1.system.out_.map (eK .i64)), .tree 6 (p1.system.rules.map TRule.enc), .int .i64 p1.code]])) (fun _ _ => False) := by
 refine Spec_ofD 122 [.cell 2 33] Try.func81 rfl rfl rfl (by kernel_rfl) (by simp) ?_
 refine W_eqf ?_
 unfold sys_judge_head at hm
 refine W_rg [] ?_
 refine W_seq_k fun k1 hk1 => ?_
 refine W_joinM (S := Bool) (V := Unit) [9, 10, 11, 12, 13, 14, 15, 16, 17, 18, 19, 20, 21, 22, 23, 24, 25, 26, 27, 28, 29, 30, 31, 32, 33, 34, 35, 36, 37, 38, 39, 40, 41, 42] (fun b1 _ => [(42, .c (.bool b1))]) (fun b1 _ => [.box [.tree 2 (p1.system.vars.map TVar.enc), .tree 1 (p1.system.in_.map (eK .i64)), .tree 1 (p1.system.out_.map (eK .i64)), .tree 6 (p1.system.rules.map TRule.enc), .int .i64 p1.code], .box [.int .i64 0, .int .i64 0]]) (fun b1 => sys_judge_head_j1 p1 b1 = some r) ?_ ?_
 ·skip
  refine W_regionG fun k kp hk hp => ?_
  refine RunRest_cut 8 ?_
  refine go ?_
  by_cases h29 : (p1.system.vars.length : Int) > 400
  ·rw [if_pos h29] at hm
   have h29b : decide ((p1.system.vars.length : Int) > 400) = true := decide_eq_true h29
   refine RunRest_ops ?_
   refine gox h29b ?_
   refine hk _ _ ?_
   clear hk hp k kp
   refine KJoinM_n true () hm ?_
   exact ls
  ·rw [if_neg h29] at hm
   have h29b : decide ((p1.system.vars.length : Int) > 400) = false := decide_eq_false h29
   refine RunRest_cut 9 ?_
   refine gox h29b ?_
   by_cases h30 : (p1.system.rules.length : Int) > 400
   ·rw [if_pos h30] at hm
    have h30b : decide ((p1.system.rules.length : Int) > 400) = true := decide_eq_true h30
    refine RunRest_ops ?_
    refine gox (a2 h29b h30b) ?_
    refine hk _ _ ?_
    clear hk hp k kp
    refine KJoinM_n true () hm ?_
    exact ls
   ·rw [if_neg h30] at hm
    have h30b : decide ((p1.system.rules.length : Int) > 400) = false := decide_eq_false h30
    refine RunRest_cut 9 ?_
    refine gox (a2 h29b h30b) ?_
    by_cases h31 : (p1.system.in_.length : Int) > 400
    ·rw [if_pos h31] at hm
     have h31b : decide ((p1.system.in_.length : Int) > 400) = true := decide_eq_true h31
     refine RunRest_ops ?_
     refine gox (a2 h29b (a2 h30b h31b)) ?_
     refine hk _ _ ?_
     clear hk hp k kp
     refine KJoinM_n true () hm ?_
     exact ls
    ·rw [if_neg h31] at hm
     have h31b : decide ((p1.system.in_.length : Int) > 400) = false := decide_eq_false h31
     refine RunRest_ops ?_
     refine gox (a2 h29b (a2 h30b h31b)) ?_
     refine hk _ _ ?_
     clear hk hp k kp
     refine KJoinM_n (decide ((p1.system.out_.length : Int) > 400)) () hm ?_
     exact ls
 ·rintro b1 _ hm
  replace hm : sys_judge_head_j1 p1 b1 = some r := hm
  refine W_eqm ?_
  unfold sys_judge_head_j1 at hm
  by_cases h1 : b1 = true
  ·rw [if_pos h1] at hm
   refine W_condt rfl (h1) ?_
   refine W_rg [0, 42, 43] ?_
   refine W_ret ?_
   refine KThen_r ?_
   refine KBody_ret [.box [.tree 2 (p1.system.vars.map TVar.enc), .tree 1 (p1.system.in_.map (eK .i64)), .tree 1 (p1.system.out_.map (eK .i64)), .tree 6 (p1.system.rules.map TRule.enc), .int .i64 p1.code]] ?_
   obtain rfl := Option.some.inj hm
   exact en
  ·rw [if_neg h1] at hm
   refine W_condf rfl (Bool.eq_false_iff.2 h1) ?_
   refine W_skip ?_
   refine KThen_n (hk1 _ _ ?_)
   refine W_joinM (S := Unit) (V := Unit) [3, 4, 42, 44, 45, 46, 47, 48, 49, 50, 51, 52, 53, 54, 55, 56, 57, 58, 59, 60, 61, 62, 63, 64, 65, 66, 67, 68, 69, 70, 71, 72, 73, 74, 75, 76, 77] (fun _ _ => []) (fun _ _ => [.box [.tree 2 (p1.system.vars.map TVar.enc), .tree 1 (p1.system.in_.map (eK .i64)), .tree 1 (p1.system.out_.map (eK .i64)), .tree 6 (p1.system.rules.map TRule.enc), .int .i64 p1.code], .box [.int .i64 0, .int .i64 0]]) (fun _ => sys_judge_head_j2 p1 = some r) ?_ ?_
   ·skip
    refine W_rg [42, 44, 45, 46, 47] ?_
    refine W_block ?_
    obtain ⟨o3, hl3, hm3⟩ := bd hm
    refine W_loopM (S := Int) (V := Unit) (O := Unit ⊕ TFault) [3, 4, 50, 51, 52, 53, 54, 55, 56, 57, 58, 59, 60, 61, 62, 63, 64, 65, 66, 67, 68, 69, 70, 71, 72, 73, 74, 75, 76, 77] (fun x15 _ => [(50, .c (.int .i64 x15))]) (fun x15 _ => [.box [.tree 2 (p1.system.vars.map TVar.enc), .tree 1 (p1.system.in_.map (eK .i64)), .tree 1 (p1.system.out_.map (eK .i64)), .tree 6 (p1.system.rules.map TRule.enc), .int .i64 p1.code], .box [.int .i64 0, .int .i64 0]]) _ _ () hl3 ?_ ?_
    ·exact ls
    ·rintro x15 _ r3 hm hr3
     replace hm : sys_judge_head_l3 p1 x15 = some r3 := hm
     refine W_eqm ?_
     unfold sys_judge_head_l3 at hm
     refine W_rg [] ?_
     refine W_seq_k fun k7 hk7 => ?_
     by_cases h20 : x15 < (p1.system.vars.length : Int)
     ·rw [if_pos h20] at hm
      refine W_condt rfl (decide_eq_true h20) ?_
      refine W_skip ?_
      refine KThen_n (hk7 _ _ ?_)
      refine W_seq_k fun k8 hk8 => ?_
      refine W_block ?_
      obtain ⟨hg21a, hm⟩ := gd hm
      refine W_rgx (em TVar.enc p1.system.vars x15.toNat) [51, 52, 53, 54] ?_
      refine W_seq_k fun k9 hk9 => ?_
      refine W_joinM (S := Bool) (V := Unit) [55, 56, 57, 58, 59, 60, 61, 62] (fun b16 _ => [(62, .c (.bool b16))]) (fun b16 _ => [.box [.tree 2 (p1.system.vars.map TVar.enc), .tree 1 (p1.system.in_.map (eK .i64)), .tree 1 (p1.system.out_.map (eK .i64)), .tree 6 (p1.system.rules.map TRule.enc), .int .i64 p1.code], .box [.int .i64 0, .int .i64 0], .box [.int .u8 ((p1.system.vars.getD x15.toNat default).elem), .int .i64 ((p1.system.vars.getD x15.toNat default).n)]]) (fun b16 => sys_judge_head_j5 p1 x15 b16 = some r3) ?_ ?_
      ·skip
       refine W_regionG fun k kp hk hp => ?_
       refine RunRest_cut 4 ?_
       refine go ?_
       by_cases h27 : ¬ ((p1.system.vars.getD x15.toNat default).elem) = 105
       ·rw [if_pos h27] at hm
        have h27b : (((p1.system.vars.getD x15.toNat default).elem) != 105) = true := bne_iff_ne.2 h27
        refine RunRest_ops ?_
        refine gox h27b ?_
        refine hk _ _ ?_
        clear hk hp k kp
        refine KJoinM_n (((p1.system.vars.getD x15.toNat default).elem) != 98) () hm ?_
        exact ls
       ·rw [if_neg h27] at hm
        have h27b : (((p1.system.vars.getD x15.toNat default).elem) != 105) = false := bne_eq_false_iff_eq.2 (Decidable.not_not.1 h27)
        refine RunRest_ops ?_
        refine gox h27b ?_
        refine hk _ _ ?_
        clear hk hp k kp
        refine KJoinM_n false () hm ?_
        exact ls
      ·rintro b16 _ hm
       replace hm : sys_judge_head_j5 p1 x15 b16 = some r3 := hm
       refine W_eqm ?_
       unfold sys_judge_head_j5 at hm
       by_cases h22 : b16 = true
       ·rw [if_pos h22] at hm
        refine W_condt rfl (h22) ?_
        refine W_rg [0, 3, 4, 48, 49, 50, 62, 63, 64, 65] ?_
        have ho23 := out_eq hm hr3
        subst ho23
        replace hm : some (TFault.mk 10 (IntKind.wrap .i64 ((-2) - x15))) = some r := hm3
        refine W_ret ?_
        refine KThen_r ?_
        refine KBlock_r ?_
        refine KThen_r ?_
        refine KLoopM_r ?_
        refine KBlock_r ?_
        refine KJoinM_r ?_
        refine KBody_ret [.box [.tree 2 (p1.system.vars.map TVar.enc), .tree 1 (p1.system.in_.map (eK .i64)), .tree 1 (p1.system.out_.map (eK .i64)), .tree 6 (p1.system.rules.map TRule.enc), .int .i64 p1.code]] ?_
        obtain rfl := Option.some.inj hm
        exact en
       ·rw [if_neg h22] at hm
        refine W_condf rfl (Bool.eq_false_iff.2 h22) ?_
        refine W_skip ?_
        refine KThen_n (hk9 _ _ ?_)
        refine W_joinM (S := Bool) (V := Unit) [4, 62, 66, 67, 68, 69, 70, 71, 72, 73] (fun b17 _ => [(73, .c (.bool b17))]) (fun b17 _ => [.box [.tree 2 (p1.system.vars.map TVar.enc), .tree 1 (p1.system.in_.map (eK .i64)), .tree 1 (p1.system.out_.map (eK .i64)), .tree 6 (p1.system.rules.map TRule.enc), .int .i64 p1.code], .box [.int .i64 0, .int .i64 0], .box [.int .u8 ((p1.system.vars.getD x15.toNat default).elem), .int .i64 ((p1.system.vars.getD x15.toNat default).n)]]) (fun b17 => sys_judge_head_j6 x15 b17 = some r3) ?_ ?_
        ·skip
         refine W_regionG fun k kp hk hp => ?_
         refine RunRest_cut 4 ?_
         refine go ?_
         by_cases h26 : ((p1.system.vars.getD x15.toNat default).n) < 0
         ·rw [if_pos h26] at hm
          have h26b : decide (((p1.system.vars.getD x15.toNat default).n) < 0) = true := decide_eq_true h26
          refine RunRest_ops ?_
          refine gox h26b ?_
          refine hk _ _ ?_
          clear hk hp k kp
          refine KJoinM_n true () hm ?_
          exact ls
         ·rw [if_neg h26] at hm
          have h26b : decide (((p1.system.vars.getD x15.toNat default).n) < 0) = false := decide_eq_false h26
          refine RunRest_ops ?_
          refine gox h26b ?_
          refine hk _ _ ?_
          clear hk hp k kp
          refine KJoinM_n (decide (((p1.system.vars.getD x15.toNat default).n) > 300)) () hm ?_
          exact ls
        ·rintro b17 _ hm
         replace hm : sys_judge_head_j6 x15 b17 = some r3 := hm
         refine W_eqm ?_
         unfold sys_judge_head_j6 at hm
         by_cases h24 : b17 = true
         ·rw [if_pos h24] at hm
          refine W_condt rfl (h24) ?_
          refine W_rg [0, 3, 48, 49, 50, 73, 74, 75, 76] ?_
          have ho25 := out_eq hm hr3
          subst ho25
          replace hm : some (TFault.mk 13 (IntKind.wrap .i64 ((-2) - x15))) = some r := hm3
          refine W_ret ?_
          refine KBlock_r ?_
          refine KThen_r ?_
          refine KLoopM_r ?_
          refine KBlock_r ?_
          refine KJoinM_r ?_
          refine KBody_ret [.box [.tree 2 (p1.system.vars.map TVar.enc), .tree 1 (p1.system.in_.map (eK .i64)), .tree 1 (p1.system.out_.map (eK .i64)), .tree 6 (p1.system.rules.map TRule.enc), .int .i64 p1.code]] ?_
          obtain rfl := Option.some.inj hm
          exact en
         ·rw [if_neg h24] at hm
          refine W_condf rfl (Bool.eq_false_iff.2 h24) ?_
          refine W_skip ?_
          refine KBlock_n ?_
          refine KThen_n (hk8 _ _ ?_)
          refine W_rn ?_
          refine KLoopM_n (IntKind.wrap .i64 (x15 + 1)) () hm ?_
          exact ls
     ·rw [if_neg h20] at hm
      refine W_condf rfl (decide_eq_false h20) ?_
      refine W_exit ?_
      have ho28 := out_eq hm hr3
      subst ho28
      replace hm : sys_judge_head_j2 p1 = some r := hm3
      refine KThen_x ?_
      refine KLoopM_x ?_
      refine KBlock_hit ?_
      refine KJoinM_n () () hm ?_
      exact ls
   ·rintro _ _ hm
    replace hm : sys_judge_head_j2 p1 = some r := hm
    refine W_eqm ?_
    unfold sys_judge_head_j2 at hm
    refine W_joinM (S := Unit) (V := Unit) [5, 6, 78, 79, 80, 81, 82, 83, 84, 85, 86, 87, 88, 89, 90, 91, 92, 93, 94, 95, 96, 97, 98, 99, 100, 101, 102, 103, 104] (fun _ _ => []) (fun _ _ => [.box [.tree 2 (p1.system.vars.map TVar.enc), .tree 1 (p1.system.in_.map (eK .i64)), .tree 1 (p1.system.out_.map (eK .i64)), .tree 6 (p1.system.rules.map TRule.enc), .int .i64 p1.code], .box [.int .i64 0, .int .i64 0]]) (fun _ => sys_judge_head_j3 p1 = some r) ?_ ?_
    ·skip
     refine W_rg [78, 79, 80, 81] ?_
     refine W_block ?_
     obtain ⟨o2, hl2, hm2⟩ := bd hm
     refine W_loopM (S := Int) (V := Unit) (O := Unit ⊕ TFault) [5, 6, 84, 85, 86, 87, 88, 89, 90, 91, 92, 93, 94, 95, 96, 97, 98, 99, 100, 101, 102, 103, 104] (fun x9 _ => [(84, .c (.int .i64 x9))]) (fun x9 _ => [.box [.tree 2 (p1.system.vars.map TVar.enc), .tree 1 (p1.system.in_.map (eK .i64)), .tree 1 (p1.system.out_.map (eK .i64)), .tree 6 (p1.system.rules.map TRule.enc), .int .i64 p1.code], .box [.int .i64 0, .int .i64 0]]) _ _ () hl2 ?_ ?_
     ·exact ls
     ·rintro x9 _ r2 hm hr2
      replace hm : sys_judge_head_l2 p1 x9 = some r2 := hm
      refine W_eqm ?_
      unfold sys_judge_head_l2 at hm
      refine W_rg [] ?_
      refine W_seq_k fun k4 hk4 => ?_
      by_cases h9 : x9 < (p1.system.in_.length : Int)
      ·rw [if_pos h9] at hm
       refine W_condt rfl (decide_eq_true h9) ?_
       refine W_skip ?_
       refine KThen_n (hk4 _ _ ?_)
       refine W_seq_k fun k5 hk5 => ?_
       refine W_block ?_
       obtain ⟨hg10a, hm⟩ := gd hm
       refine W_rgx (em (eK .i64) p1.system.in_ x9.toNat) [85, 86, 87, 88] ?_
       refine W_seq_k fun k6 hk6 => ?_
       refine W_regF [89, 90, 91] fun k kp hk hp => ?_
       refine go ?_
       obtain ⟨y10, hc11, hm⟩ := bd hm
       refine RA (sys_judge_is_ok (p1.system.in_.getD x9.toNat default) p1  _ hc11) [0] ?_
       rintro p σ' hq12 _
       obtain ⟨rfl, rfl⟩ := hq12
       refine RunRest_ops ?_
       refine go ?_
       refine hk _ _ ?_
       clear hk hp k kp
       by_cases h13 : y10 = true
       ·rw [if_pos h13] at hm
        refine W_condf rfl (by rw [show y10 = true from (h13)]; rfl) ?_
        refine W_skip ?_
        refine KThen_n (hk6 _ _ ?_)
        obtain ⟨hg14a, hm⟩ := gd hm
        refine W_regF [5, 6, 92, 94, 95, 96, 97, 98, 99, 100, 101] fun k kp hk hp => ?_
        refine go ?_
        obtain ⟨y11, hc15, hm⟩ := bd hm
        refine RP (fun _ => slices_Contains_int_int_ok (p1.system.in_.take x9.toNat) (p1.system.in_.getD x9.toNat default) _ hc15) ?_
        refine RunRest_ops ?_
        refine go ?_
        refine hk _ _ ?_
        clear hk hp k kp
        by_cases h16 : y11 = true
        ·rw [if_pos h16] at hm
         refine W_condt rfl (h16) ?_
         refine W_rg [0, 82, 83, 84, 102, 103] ?_
         have ho17 := out_eq hm hr2
         subst ho17
         replace hm : some (TFault.mk 8 (-1)) = some r := hm2
         refine W_ret ?_
         refine KBlock_r ?_
         refine KThen_r ?_
         refine KLoopM_r ?_
         refine KBlock_r ?_
         refine KJoinM_r ?_
         refine KBody_ret [.box [.tree 2 (p1.system.vars.map TVar.enc), .tree 1 (p1.system.in_.map (eK .i64)), .tree 1 (p1.system.out_.map (eK .i64)), .tree 6 (p1.system.rules.map TRule.enc), .int .i64 p1.code]] ?_
         obtain rfl := Option.some.inj hm
         exact en
        ·rw [if_neg h16] at hm
         refine W_condf rfl (Bool.eq_false_iff.2 h16) ?_
         refine W_skip ?_
         refine KBlock_n ?_
         refine KThen_n (hk5 _ _ ?_)
         refine W_rn ?_
         refine KLoopM_n (IntKind.wrap .i64 (x9 + 1)) () hm ?_
         exact ls
       ·rw [if_neg h13] at hm
        refine W_condt rfl (by rw [show y10 = false from (Bool.eq_false_iff.2 h13)]; rfl) ?_
        refine W_rg [0, 5, 6, 82, 83, 84, 92, 93] ?_
        have ho18 := out_eq hm hr2
        subst ho18
        replace hm : some (TFault.mk 16 (-1)) = some r := hm2
        refine W_ret ?_
        refine KThen_r ?_
        refine KBlock_r ?_
        refine KThen_r ?_
        refine KLoopM_r ?_
        refine KBlock_r ?_
        refine KJoinM_r ?_
        refine KBody_ret [.box [.tree 2 (p1.system.vars.map TVar.enc), .tree 1 (p1.system.in_.map (eK .i64)), .tree 1 (p1.system.out_.map (eK .i64)), .tree 6 (p1.system.rules.map TRule.enc), .int .i64 p1.code]] ?_
        obtain rfl := Option.some.inj hm
        exact en
      ·rw [if_neg h9] at hm
       refine W_condf rfl (decide_eq_false h9) ?_
       refine W_exit ?_
       have ho19 := out_eq hm hr2
       subst ho19
       replace hm : sys_judge_head_j3 p1 = some r := hm2
       refine KThen_x ?_
       refine KLoopM_x ?_
       refine KBlock_hit ?_
       refine KJoinM_n () () hm ?_
       exact ls
    ·rintro _ _ hm
     replace hm : sys_judge_head_j3 p1 = some r := hm
     refine W_eqm ?_
     unfold sys_judge_head_j3 at hm
     refine W_joinM (S := Unit) (V := Unit) [0, 8, 105, 106, 107, 108, 109, 110, 111, 112, 113, 114, 115, 116, 117, 118, 119, 120] (fun _ _ => []) (fun _ _ => [.box [.tree 2 (p1.system.vars.map TVar.enc), .tree 1 (p1.system.in_.map (eK .i64)), .tree 1 (p1.system.out_.map (eK .i64)), .tree 6 (p1.system.rules.map TRule.enc), .int .i64 p1.code], .box [.int .i64 0, .int .i64 0]]) (fun _ => sys_judge_head_j4 = some r) ?_ ?_
     ·skip
      refine W_rg [105, 106, 107, 108] ?_
      refine W_block ?_
      obtain ⟨o1, hl1, hm1⟩ := bd hm
      refine W_loopM (S := Int) (V := Unit) (O := Unit ⊕ TFault) [8, 111, 112, 113, 114, 115, 116, 117, 118, 119, 120] (fun x4 _ => [(111, .c (.int .i64 x4))]) (fun x4 _ => [.box [.tree 2 (p1.system.vars.map TVar.enc), .tree 1 (p1.system.in_.map (eK .i64)), .tree 1 (p1.system.out_.map (eK .i64)), .tree 6 (p1.system.rules.map TRule.enc), .int .i64 p1.code], .box [.int .i64 0, .int .i64 0]]) _ _ () hl1 ?_ ?_
      ·exact ls
      ·rintro x4 _ r1 hm hr1
       replace hm : sys_judge_head_l1 p1 x4 = some r1 := hm
       refine W_eqm ?_
       unfold sys_judge_head_l1 at hm
       refine W_rg [] ?_
       refine W_seq_k fun k2 hk2 => ?_
       by_cases h2 : x4 < (p1.system.out_.length : Int)
       ·rw [if_pos h2] at hm
        refine W_condt rfl (decide_eq_true h2) ?_
        refine W_skip ?_
        refine KThen_n (hk2 _ _ ?_)
        refine W_seq_k fun k3 hk3 => ?_
        refine W_block ?_
        obtain ⟨hg3a, hm⟩ := gd hm
        refine W_rgx (em (eK .i64) p1.system.out_ x4.toNat) [112, 113, 114] ?_
        refine W_regF [8, 115, 116, 117] fun k kp hk hp => ?_
        refine go ?_
        obtain ⟨y5, hc4, hm⟩ := bd hm
        refine RA (sys_judge_is_ok (p1.system.out_.getD x4.toNat default) p1  _ hc4) [0] ?_
        rintro p σ' hq5 _
        obtain ⟨rfl, rfl⟩ := hq5
        refine RunRest_ops ?_
        refine go ?_
        refine hk _ _ ?_
        clear hk hp k kp
        by_cases h6 : y5 = true
        ·rw [if_pos h6] at hm
         refine W_condf rfl (by rw [show y5 = true from (h6)]; rfl) ?_
         refine W_skip ?_
         refine KBlock_n ?_
         refine KThen_n (hk3 _ _ ?_)
         refine W_rn ?_
         refine KLoopM_n (IntKind.wrap .i64 (x4 + 1)) () hm ?_
         exact ls
        ·rw [if_neg h6] at hm
         refine W_condt rfl (by rw [show y5 = false from (Bool.eq_false_iff.2 h6)]; rfl) ?_
         refine W_rg [0, 109, 110, 111, 118, 119] ?_
         have ho7 := out_eq hm hr1
         subst ho7
         replace hm : some (TFault.mk 16 (-1)) = some r := hm1
         refine W_ret ?_
         refine KBlock_r ?_
         refine KThen_r ?_
         refine KLoopM_r ?_
         refine KBlock_r ?_
         refine KJoinM_r ?_
         refine KBody_ret [.box [.tree 2 (p1.system.vars.map TVar.enc), .tree 1 (p1.system.in_.map (eK .i64)), .tree 1 (p1.system.out_.map (eK .i64)), .tree 6 (p1.system.rules.map TRule.enc), .int .i64 p1.code]] ?_
         obtain rfl := Option.some.inj hm
         exact en
       ·rw [if_neg h2] at hm
        refine W_condf rfl (decide_eq_false h2) ?_
        refine W_exit ?_
        have ho8 := out_eq hm hr1
        subst ho8
        replace hm : sys_judge_head_j4 = some r := hm1
        refine KThen_x ?_
        refine KLoopM_x ?_
        refine KBlock_hit ?_
        refine KJoinM_n () () hm ?_
        exact ls
     ·rintro _ _ hm
      replace hm : sys_judge_head_j4 = some r := hm
      refine W_eqm ?_
      unfold sys_judge_head_j4 at hm
      refine W_rg [121] ?_
      refine W_ret ?_
      refine KBody_ret [.box [.tree 2 (p1.system.vars.map TVar.enc), .tree 1 (p1.system.in_.map (eK .i64)), .tree 1 (p1.system.out_.map (eK .i64)), .tree 6 (p1.system.rules.map TRule.enc), .int .i64 p1.code]] ?_
      obtain rfl := Option.some.inj hm
      exact en
end Pam

/- the walk of sys_Check0, printed by a program of ours -/
namespace Pam
open Go Go.Proofs
set_option maxRecDepth 100000 in
set_option maxHeartbeats 8000000 in
theorem sys_Check0_ok (p1 : TSystem) (r : TFault) (hm : sys_Check0 p1 = some r) : SpecF Try.prog 33 [.a [.tree 2 (p1.vars.map TVar.enc), .tree 1 (p1.in_.map (eK .i64)), .tree 1 (p1.out_.map (eK .i64)), .tree 6 (p1.rules.map TRule.enc)]] (.a [.int .i64 ((r).code), .int .i64 ((r).at_)]) := by
 refine Spec_ofD 109 [.cell 2 33] Try.func33 rfl rfl rfl (by kernel_rfl) (by simp) ?_
 refine W_eqf ?_
 unfold sys_Check0 at hm
 refine W_rg [0] ?_
 refine W_rg [18, 19, 20] ?_
 refine W_seq_k fun k1 hk1 => ?_
 refine W_regF [21, 22] fun k kp hk hp => ?_
 refine go ?_
 obtain ⟨y1, hc1, hm⟩ := bd hm
 refine RA (sys_judge_head_ok (Tjudge.mk p1 0)  _ hc1) [2] ?_
 rintro p σ' hq2 _
 obtain ⟨rfl, rfl⟩ := hq2
 refine RunRest_ops ?_
 refine go ?_
 refine hk _ _ ?_
 clear hk hp k kp
 refine W_rg [23, 24] ?_
 by_cases h3 : ¬ ((y1).code) = 0
 ·rw [if_pos h3] at hm
  refine W_condt rfl (bne_iff_ne.2 h3) ?_
  refine W_rg [1, 3, 4, 25, 26] ?_
  refine W_ret ?_
  refine KThen_r ?_
  refine KBody_ret [] ?_
  obtain rfl := Option.some.inj hm
  exact en
 ·rw [if_neg h3] at hm
  refine W_condf rfl (bne_eq_false_iff_eq.2 (Decidable.not_not.1 h3)) ?_
  refine W_skip ?_
  refine KThen_n (hk1 _ _ ?_)
  obtain ⟨⟨hg4a, ⟨hg4bx, hg4by⟩⟩, hm⟩ := gd hm
  refine W_rg [4, 25, 27, 28, 29, 30] ?_
  refine W_eqa [.box [.tree 2 (p1.vars.map TVar.enc), .tree 1 (p1.in_.map (eK .i64)), .tree 1 (p1.out_.map (eK .i64)), .tree 6 (p1.rules.map TRule.enc)], .box [.int .i64 0, .int .i64 0], .box [.tree 2 (p1.vars.map TVar.enc), .tree 1 (p1.in_.map (eK .i64)), .tree 1 (p1.out_.map (eK .i64)), .tree 6 (p1.rules.map TRule.enc), .int .i64 0], .box [.int .i64 ((y1).code), .int .i64 ((y1).at_)], .arr 1 0 4 ((List.replicate p1.vars.length false).map eB)] ?_
  refine W_joinM (S := (List Bool)) (V := Unit) [5, 7, 31, 32, 33, 34, 35, 36, 37, 38, 39, 40, 41] (fun l3 _ => [(5, .c (.osl 4 0 0 l3.length))]) (fun l3 _ => [.box [.tree 2 (p1.vars.map TVar.enc), .tree 1 (p1.in_.map (eK .i64)), .tree 1 (p1.out_.map (eK .i64)), .tree 6 (p1.rules.map TRule.enc)], .box [.int .i64 0, .int .i64 0], .box [.tree 2 (p1.vars.map TVar.enc), .tree 1 (p1.in_.map (eK .i64)), .tree 1 (p1.out_.map (eK .i64)), .tree 6 (p1.rules.map TRule.enc), .int .i64 0], .box [.int .i64 ((y1).code), .int .i64 ((y1).at_)], .arr 1 0 4 (l3.map eB)]) (fun l3 => sys_Check0_j1 p1 l3 = some r) ?_ ?_
  ·skip
   refine W_rg [31] ?_
   refine W_block ?_
   obtain ⟨o5, hl5, hm5⟩ := bd hm
   refine W_loopM (S := ((List Bool) × Int)) (V := Unit) (O := (List Bool)) [5, 7, 34, 35, 36, 37, 38, 39, 40, 41] (fun (l25, x26) _ => [(5, .c (.osl 4 0 0 l25.length)), (34, .c (.int .i64 x26))]) (fun (l25, x26) _ => [.box [.tree 2 (p1.vars.map TVar.enc), .tree 1 (p1.in_.map (eK .i64)), .tree 1 (p1.out_.map (eK .i64)), .tree 6 (p1.rules.map TRule.enc)], .box [.int .i64 0, .int .i64 0], .box [.tree 2 (p1.vars.map TVar.enc), .tree 1 (p1.in_.map (eK .i64)), .tree 1 (p1.out_.map (eK .i64)), .tree 6 (p1.rules.map TRule.enc), .int .i64 0], .box [.int .i64 ((y1).code), .int .i64 ((y1).at_)], .arr 1 0 4 (l25.map eB)]) _ _ () hl5 ?_ ?_
   ·exact ls
   ·rintro ⟨l25, x26⟩ _ r5 hm hr5
    replace hm : sys_Check0_l5 p1 l25 x26 = some r5 := hm
    refine W_eqm ?_
    unfold sys_Check0_l5 at hm
    refine W_rg [] ?_
    refine W_seq_k fun k10 hk10 => ?_
    by_cases h26 : x26 < (p1.in_.length : Int)
    ·rw [if_pos h26] at hm
     refine W_condt rfl (decide_eq_true h26) ?_
     refine W_skip ?_
     refine KThen_n (hk10 _ _ ?_)
     refine W_seq_k fun k11 hk11 => ?_
     refine W_block ?_
     obtain ⟨hg27a, hm⟩ := gd hm
     refine W_rgx (em (eK .i64) p1.in_ x26.toNat) [35, 36, 37] ?_
     obtain ⟨hg28a, hm⟩ := gd hm
     refine W_rnx (em eB l25 ((p1.in_.getD x26.toNat default).toNat)) ?_
     refine KBlock_n ?_
     refine KThen_n (hk11 _ _ ?_)
     refine W_rn ?_
     refine KLoopM_n ((l25.set ((p1.in_.getD x26.toNat default).toNat) true), (IntKind.wrap .i64 (x26 + 1))) () hm ?_
     exact ls
    ·rw [if_neg h26] at hm
     refine W_condf rfl (decide_eq_false h26) ?_
     refine W_exit ?_
     have ho29 := out_eq hm hr5
     subst ho29
     replace hm : sys_Check0_j1 p1 l25 = some r := hm5
     refine KThen_x ?_
     refine KLoopM_x ?_
     refine KBlock_hit ?_
     refine KJoinM_n l25 () hm ?_
     exact ls
  ·rintro l3 _ hm
   replace hm : sys_Check0_j1 p1 l3 = some r := hm
   refine W_eqm ?_
   unfold sys_Check0_j1 at hm
   refine W_joinM (S := Unit) (V := Unit) [3, 5, 8, 9, 10, 42, 43, 44, 45, 46, 47, 48, 49, 50, 51, 52, 53, 54, 55, 56, 57, 58, 59, 60, 61, 62, 63] (fun _ _ => [(5, .c (.osl 4 0 0 l3.length))]) (fun _ _ => [.box [.tree 2 (p1.vars.map TVar.enc), .tree 1 (p1.in_.map (eK .i64)), .tree 1 (p1.out_.map (eK .i64)), .tree 6 (p1.rules.map TRule.enc)], .box [.int .i64 0, .int .i64 0], .box [.tree 2 (p1.vars.map TVar.enc), .tree 1 (p1.in_.map (eK .i64)), .tree 1 (p1.out_.map (eK .i64)), .tree 6 (p1.rules.map TRule.enc), .int .i64 0], .box [.int .i64 ((y1).code), .int .i64 ((y1).at_)], .arr 1 0 4 (l3.map eB)]) (fun _ => sys_Check0_j2 p1 l3 = some r) ?_ ?_
   ·skip
    refine W_rg [42] ?_
    refine W_block ?_
    obtain ⟨o4, hl4, hm4⟩ := bd hm
    refine W_loopM (S := Unit) (V := Unit) (O := Unit) [5, 8, 9, 10, 45, 46, 47, 48, 49, 50, 51, 52, 53, 54, 55, 56, 57, 58, 59, 60, 61, 62, 63] (fun _ _ => [(5, .c (.osl 4 0 0 l3.length)), (45, .c (.int .i64 0))]) (fun _ _ => [.box [.tree 2 (p1.vars.map TVar.enc), .tree 1 (p1.in_.map (eK .i64)), .tree 1 (p1.out_.map (eK .i64)), .tree 6 (p1.rules.map TRule.enc)], .box [.int .i64 0, .int .i64 0], .box [.tree 2 (p1.vars.map TVar.enc), .tree 1 (p1.in_.map (eK .i64)), .tree 1 (p1.out_.map (eK .i64)), .tree 6 (p1.rules.map TRule.enc), .int .i64 0], .box [.int .i64 ((y1).code), .int .i64 ((y1).at_)], .arr 1 0 4 (l3.map eB)]) _ _ () hl4 ?_ ?_
    ·exact ls
    ·rintro _ _ r4 hm hr4
     replace hm : sys_Check0_l4 p1 = some r4 := hm
     refine W_eqm ?_
     unfold sys_Check0_l4 at hm
     refine W_rg [] ?_
     refine W_seq_k fun k7 hk7 => ?_
     by_cases h23 : 0 < (p1.rules.length : Int)
     ·rw [if_pos h23] at hm
      refine W_condt rfl (decide_eq_true h23) ?_
      refine W_skip ?_
      refine KThen_n (hk7 _ _ ?_)
      refine W_seq_k fun k8 hk8 => ?_
      refine W_block ?_
      obtain ⟨hg24a, hm⟩ := gd hm
      refine W_rgx (em TRule.enc p1.rules 0) [46, 47, 48, 49] ?_
      refine W_seq_k fun k9 hk9 => ?_
      refine W_regF [50, 51, 52, 53] fun k kp hk hp => ?_
      refine go ?_
      cases hm
     ·rw [if_neg h23] at hm
      refine W_condf rfl (decide_eq_false h23) ?_
      refine W_exit ?_
      have ho25 := out_eq hm hr4
      subst ho25
      replace hm : sys_Check0_j2 p1 l3 = some r := hm4
      refine KThen_x ?_
      refine KLoopM_x ?_
      refine KBlock_hit ?_
      refine KJoinM_n () () hm ?_
      exact ls
   ·rintro _ _ hm
    replace hm : sys_Check0_j2 p1 l3 = some r := hm
    refine W_eqm ?_
    unfold sys_Check0_j2 at hm
    refine W_joinM (S := Unit) (V := Unit) [5, 11, 12, 13, 15, 64, 65, 66, 67, 68, 69, 70, 71, 72, 73, 74, 75, 76, 77, 78, 79, 80, 81, 82, 83, 84, 85, 86, 87, 88, 89, 90, 91, 92, 93] (fun _ _ => [(5, .c (.osl 4 0 0 l3.length))]) (fun _ _ => [.box [.tree 2 (p1.vars.map TVar.enc), .tree 1 (p1.in_.map (eK .i64)), .tree 1 (p1.out_.map (eK .i64)), .tree 6 (p1.rules.map TRule.enc)], .box [.int .i64 0, .int .i64 0], .box [.tree 2 (p1.vars.map TVar.enc), .tree 1 (p1.in_.map (eK .i64)), .tree 1 (p1.out_.map (eK .i64)), .tree 6 (p1.rules.map TRule.enc), .int .i64 0], .box [.int .i64 ((y1).code), .int .i64 ((y1).at_)], .arr 1 0 4 (l3.map eB)]) (fun _ => sys_Check0_j3 p1 l3 = some r) ?_ ?_
    ·skip
     refine W_rg [64] ?_
     refine W_block ?_
     obtain ⟨o2, hl2, hm2⟩ := bd hm
     refine W_loopM (S := Int) (V := Unit) (O := Unit ⊕ TFault) [5, 11, 12, 13, 15, 67, 68, 69, 70, 71, 72, 73, 74, 75, 76, 77, 78, 79, 80, 81, 82, 83, 84, 85, 86, 87, 88, 89, 90, 91, 92, 93] (fun x10 _ => [(5, .c (.osl 4 0 0 l3.length)), (67, .c (.int .i64 x10))]) (fun x10 _ => [.box [.tree 2 (p1.vars.map TVar.enc), .tree 1 (p1.in_.map (eK .i64)), .tree 1 (p1.out_.map (eK .i64)), .tree 6 (p1.rules.map TRule.enc)], .box [.int .i64 0, .int .i64 0], .box [.tree 2 (p1.vars.map TVar.enc), .tree 1 (p1.in_.map (eK .i64)), .tree 1 (p1.out_.map (eK .i64)), .tree 6 (p1.rules.map TRule.enc), .int .i64 0], .box [.int .i64 ((y1).code), .int .i64 ((y1).at_)], .arr 1 0 4 (l3.map eB)]) _ _ () hl2 ?_ ?_
     ·exact ls
     ·rintro x10 _ r2 hm hr2
      replace hm : sys_Check0_l2 p1 l3 x10 = some r2 := hm
      refine W_eqm ?_
      unfold sys_Check0_l2 at hm
      refine W_rg [] ?_
      refine W_seq_k fun k4 hk4 => ?_
      by_cases h11 : x10 < (p1.rules.length : Int)
      ·rw [if_pos h11] at hm
       refine W_condt rfl (decide_eq_true h11) ?_
       refine W_skip ?_
       refine KThen_n (hk4 _ _ ?_)
       refine W_joinM (S := Unit) (V := Unit) [5, 11, 12, 13, 15, 68, 69, 70, 71, 72, 73, 74, 75, 76, 77, 78, 79, 80, 81, 82, 83, 84, 85, 86, 87, 88, 89, 90, 91, 92] (fun _ _ => [(5, .c (.osl 4 0 0 l3.length))]) (fun _ _ => [.box [.tree 2 (p1.vars.map TVar.enc), .tree 1 (p1.in_.map (eK .i64)), .tree 1 (p1.out_.map (eK .i64)), .tree 6 (p1.rules.map TRule.enc)], .box [.int .i64 0, .int .i64 0], .box [.tree 2 (p1.vars.map TVar.enc), .tree 1 (p1.in_.map (eK .i64)), .tree 1 (p1.out_.map (eK .i64)), .tree 6 (p1.rules.map TRule.enc), .int .i64 0], .box [.int .i64 ((y1).code), .int .i64 ((y1).at_)], .arr 1 0 4 (l3.map eB)]) (fun _ => sys_Check0_j5 x10 = some r2) ?_ ?_
       ·skip
        refine W_block ?_
        obtain ⟨hg12a, hm⟩ := gd hm
        refine W_rgx (em TRule.enc p1.rules x10.toNat) [68, 69, 70, 71] ?_
        refine W_rg [72, 73] ?_
        refine W_joinM (S := (List Int)) (V := Unit) [5, 12, 13, 74, 75, 76, 77, 78] (fun l11 _ => [(5, .c (.osl 4 0 0 l3.length)), (13, .c (.tree 1 (l11.map (eK .i64))))]) (fun l11 _ => [.box [.tree 2 (p1.vars.map TVar.enc), .tree 1 (p1.in_.map (eK .i64)), .tree 1 (p1.out_.map (eK .i64)), .tree 6 (p1.rules.map TRule.enc)], .box [.int .i64 0, .int .i64 0], .box [.tree 2 (p1.vars.map TVar.enc), .tree 1 (p1.in_.map (eK .i64)), .tree 1 (p1.out_.map (eK .i64)), .tree 6 (p1.rules.map TRule.enc), .int .i64 0], .box [.int .i64 ((y1).code), .int .i64 ((y1).at_)], .arr 1 0 4 (l3.map eB), .box [.int .i64 ((p1.rules.getD x10.toNat default).op), .int .i64 ((p1.rules.getD x10.toNat default).k), .int .i64 ((p1.rules.getD x10.toNat default).out_), .int .i64 ((p1.rules.getD x10.toNat default).n), .tree 1 (((p1.rules.getD x10.toNat default).a).map (eK .i64)), .tree 4 (((p1.rules.getD x10.toNat default).e).map TPush.enc)]]) (fun l11 => sys_Check0_j6 l3 x10 l11 = some r2) ?_ ?_
        ·skip
         refine W_rg [74, 75] ?_
         by_cases h20 : ((p1.rules.getD x10.toNat default).op) ≥ 14
         ·rw [if_pos h20] at hm
          refine W_condt rfl (decide_eq_true h20) ?_
          refine W_region fun k kp hk hp => ?_
          refine go ?_
          obtain ⟨y16, hc21, hm⟩ := bd hm
          refine RP (fun _ => sys_Uses_ok (p1.rules.getD x10.toNat default) _ hc21) ?_
          refine RunRest_ops ?_
          refine go ?_
          refine hk _ _ ?_
          clear hk hp k kp
          refine KJoinM_n y16 () hm ?_
          exact ls
         ·rw [if_neg h20] at hm
          refine W_condf rfl (decide_eq_false h20) ?_
          refine W_skip ?_
          refine KJoinM_n ((p1.rules.getD x10.toNat default).a) () hm ?_
          exact ls
        ·rintro l11 _ hm
         replace hm : sys_Check0_j6 l3 x10 l11 = some r2 := hm
         refine W_eqm ?_
         unfold sys_Check0_j6 at hm
         refine W_rg [13] ?_
         refine W_block ?_
         obtain ⟨o3, hl3, hm3⟩ := bd hm
         refine W_loopM (S := Int) (V := Unit) (O := Unit ⊕ TFault) [5, 15, 81, 82, 83, 84, 85, 86, 87, 88, 89, 90, 91, 92] (fun x14 _ => [(5, .c (.osl 4 0 0 l3.length)), (81, .c (.int .i64 x14))]) (fun x14 _ => [.box [.tree 2 (p1.vars.map TVar.enc), .tree 1 (p1.in_.map (eK .i64)), .tree 1 (p1.out_.map (eK .i64)), .tree 6 (p1.rules.map TRule.enc)], .box [.int .i64 0, .int .i64 0], .box [.tree 2 (p1.vars.map TVar.enc), .tree 1 (p1.in_.map (eK .i64)), .tree 1 (p1.out_.map (eK .i64)), .tree 6 (p1.rules.map TRule.enc), .int .i64 0], .box [.int .i64 ((y1).code), .int .i64 ((y1).at_)], .arr 1 0 4 (l3.map eB), .box [.int .i64 ((p1.rules.getD x10.toNat default).op), .int .i64 ((p1.rules.getD x10.toNat default).k), .int .i64 ((p1.rules.getD x10.toNat default).out_), .int .i64 ((p1.rules.getD x10.toNat default).n), .tree 1 (((p1.rules.getD x10.toNat default).a).map (eK .i64)), .tree 4 (((p1.rules.getD x10.toNat default).e).map TPush.enc)]]) _ _ () hl3 ?_ ?_
         ·exact ls
         ·rintro x14 _ r3 hm hr3
          replace hm : sys_Check0_l3 l3 x10 l11 x14 = some r3 := hm
          refine W_eqm ?_
          unfold sys_Check0_l3 at hm
          refine W_rg [] ?_
          refine W_seq_k fun k5 hk5 => ?_
          by_cases h13 : x14 < (l11.length : Int)
          ·rw [if_pos h13] at hm
           refine W_condt rfl (decide_eq_true h13) ?_
           refine W_skip ?_
           refine KThen_n (hk5 _ _ ?_)
           refine W_seq_k fun k6 hk6 => ?_
           refine W_block ?_
           obtain ⟨hg14a, hm⟩ := gd hm
           refine W_rgx (em (eK .i64) l11 x14.toNat) [82, 83, 84] ?_
           obtain ⟨hg15a, hm⟩ := gd hm
           refine W_rgx (em eB l3 ((l11.getD x14.toNat default).toNat)) [15, 85, 86, 87, 88] ?_
           by_cases h16 : (l3.getD ((l11.getD x14.toNat default).toNat) default) = true
           ·rw [if_pos h16] at hm
            refine W_condf rfl (by rw [show (l3.getD ((l11.getD x14.toNat default).toNat) default) = true from (h16)]; rfl) ?_
            refine W_skip ?_
            refine KBlock_n ?_
            refine KThen_n (hk6 _ _ ?_)
            refine W_rn ?_
            refine KLoopM_n (IntKind.wrap .i64 (x14 + 1)) () hm ?_
            exact ls
           ·rw [if_neg h16] at hm
            refine W_condt rfl (by rw [show (l3.getD ((l11.getD x14.toNat default).toNat) default) = false from (Bool.eq_false_iff.2 h16)]; rfl) ?_
            refine W_rg [1, 5, 11, 65, 66, 67, 79, 80, 81, 89, 90, 91] ?_
            have ho17 := out_eq hm hr3
            subst ho17
            replace hm : some (.inr (.inr (TFault.mk 9 x10))) = some r2 := hm3
            have ho18 := out_eq hm hr2
            subst ho18
            replace hm : some (TFault.mk 9 x10) = some r := hm2
            refine W_ret ?_
            refine KBlock_r ?_
            refine KThen_r ?_
            refine KLoopM_r ?_
            refine KBlock_r ?_
            refine KBlock_r ?_
            refine KJoinM_r ?_
            refine KLoopM_r ?_
            refine KBlock_r ?_
            refine KJoinM_r ?_
            refine KBody_ret [] ?_
            obtain rfl := Option.some.inj hm
            exact en
          ·rw [if_neg h13] at hm
           refine W_condf rfl (decide_eq_false h13) ?_
           refine W_exit ?_
           have ho19 := out_eq hm hr3
           subst ho19
           replace hm : sys_Check0_j5 x10 = some r2 := hm3
           refine KThen_x ?_
           refine KLoopM_x ?_
           refine KBlock_hit ?_
           refine KBlock_n ?_
           refine KJoinM_n () () hm ?_
           exact ls
       ·rintro _ _ hm
        replace hm : sys_Check0_j5 x10 = some r2 := hm
        refine W_eqm ?_
        unfold sys_Check0_j5 at hm
        refine W_rn ?_
        refine KLoopM_n (IntKind.wrap .i64 (x10 + 1)) () hm ?_
        exact ls
      ·rw [if_neg h11] at hm
       refine W_condf rfl (decide_eq_false h11) ?_
       refine W_exit ?_
       have ho22 := out_eq hm hr2
       subst ho22
       replace hm : sys_Check0_j3 p1 l3 = some r := hm2
       refine KThen_x ?_
       refine KLoopM_x ?_
       refine KBlock_hit ?_
       refine KJoinM_n () () hm ?_
       exact ls
    ·rintro _ _ hm
     replace hm : sys_Check0_j3 p1 l3 = some r := hm
     refine W_eqm ?_
     unfold sys_Check0_j3 at hm
     refine W_joinM (S := Unit) (V := Unit) [1, 5, 17, 94, 95, 96, 97, 98, 99, 100, 101, 102, 103, 104, 105, 106, 107] (fun _ _ => []) (fun _ _ => [.box [.tree 2 (p1.vars.map TVar.enc), .tree 1 (p1.in_.map (eK .i64)), .tree 1 (p1.out_.map (eK .i64)), .tree 6 (p1.rules.map TRule.enc)], .box [.int .i64 0, .int .i64 0], .box [.tree 2 (p1.vars.map TVar.enc), .tree 1 (p1.in_.map (eK .i64)), .tree 1 (p1.out_.map (eK .i64)), .tree 6 (p1.rules.map TRule.enc), .int .i64 0], .box [.int .i64 ((y1).code), .int .i64 ((y1).at_)], .arr 1 0 4 (l3.map eB)]) (fun _ => sys_Check0_j4 = some r) ?_ ?_
     ·skip
      refine W_rg [1, 94] ?_
      refine W_block ?_
      obtain ⟨o1, hl1, hm1⟩ := bd hm
      refine W_loopM (S := Int) (V := Unit) (O := Unit ⊕ TFault) [5, 17, 97, 98, 99, 100, 101, 102, 103, 104, 105, 106, 107] (fun x6 _ => [(5, .c (.osl 4 0 0 l3.length)), (97, .c (.int .i64 x6))]) (fun x6 _ => [.box [.tree 2 (p1.vars.map TVar.enc), .tree 1 (p1.in_.map (eK .i64)), .tree 1 (p1.out_.map (eK .i64)), .tree 6 (p1.rules.map TRule.enc)], .box [.int .i64 0, .int .i64 0], .box [.tree 2 (p1.vars.map TVar.enc), .tree 1 (p1.in_.map (eK .i64)), .tree 1 (p1.out_.map (eK .i64)), .tree 6 (p1.rules.map TRule.enc), .int .i64 0], .box [.int .i64 ((y1).code), .int .i64 ((y1).at_)], .arr 1 0 4 (l3.map eB)]) _ _ () hl1 ?_ ?_
      ·exact ls
      ·rintro x6 _ r1 hm hr1
       replace hm : sys_Check0_l1 p1 l3 x6 = some r1 := hm
       refine W_eqm ?_
       unfold sys_Check0_l1 at hm
       refine W_rg [] ?_
       refine W_seq_k fun k2 hk2 => ?_
       by_cases h5 : x6 < (p1.out_.length : Int)
       ·rw [if_pos h5] at hm
        refine W_condt rfl (decide_eq_true h5) ?_
        refine W_skip ?_
        refine KThen_n (hk2 _ _ ?_)
        refine W_seq_k fun k3 hk3 => ?_
        refine W_block ?_
        obtain ⟨hg6a, hm⟩ := gd hm
        refine W_rgx (em (eK .i64) p1.out_ x6.toNat) [98, 99, 100] ?_
        obtain ⟨hg7a, hm⟩ := gd hm
        refine W_rgx (em eB l3 ((p1.out_.getD x6.toNat default).toNat)) [17, 101, 102, 103, 104] ?_
        by_cases h8 : (l3.getD ((p1.out_.getD x6.toNat default).toNat) default) = true
        ·rw [if_pos h8] at hm
         refine W_condf rfl (by rw [show (l3.getD ((p1.out_.getD x6.toNat default).toNat) default) = true from (h8)]; rfl) ?_
         refine W_skip ?_
         refine KBlock_n ?_
         refine KThen_n (hk3 _ _ ?_)
         refine W_rn ?_
         refine KLoopM_n (IntKind.wrap .i64 (x6 + 1)) () hm ?_
         exact ls
        ·rw [if_neg h8] at hm
         refine W_condt rfl (by rw [show (l3.getD ((p1.out_.getD x6.toNat default).toNat) default) = false from (Bool.eq_false_iff.2 h8)]; rfl) ?_
         refine W_rg [5, 95, 96, 97, 105, 106] ?_
         have ho9 := out_eq hm hr1
         subst ho9
         replace hm : some (TFault.mk 9 (-1)) = some r := hm1
         refine W_ret ?_
         refine KBlock_r ?_
         refine KThen_r ?_
         refine KLoopM_r ?_
         refine KBlock_r ?_
         refine KJoinM_r ?_
         refine KBody_ret [] ?_
         obtain rfl := Option.some.inj hm
         exact en
       ·rw [if_neg h5] at hm
        refine W_condf rfl (decide_eq_false h5) ?_
        refine W_exit ?_
        have ho10 := out_eq hm hr1
        subst ho10
        replace hm : sys_Check0_j4 = some r := hm1
        refine KThen_x ?_
        refine KLoopM_x ?_
        refine KBlock_hit ?_
        refine KJoinM_n () () hm ?_
        exact ls
     ·rintro _ _ hm
      replace hm : sys_Check0_j4 = some r := hm
      refine W_eqm ?_
      unfold sys_Check0_j4 at hm
      refine W_rg [108] ?_
      refine W_ret ?_
      refine KBody_ret [] ?_
      obtain rfl := Option.some.inj hm
      exact en
end Pam

/- the walk of law_sysBegun0, printed by a program of ours -/
namespace Pam
open Go Go.Proofs
set_option maxRecDepth 100000 in
set_option maxHeartbeats 1000000 in
theorem law_sysBegun0_ok (r : Bool) (hm : law_sysBegun0  = some r) : SpecF Try.prog 31 [] (.c (.bool r)) := by
 refine Spec_ofD 20 [.tmp 0] Try.func31 rfl rfl rfl (by kernel_rfl) (by simp) ?_
 refine W_eqf ?_
 unfold law_sysBegun0 at hm
 refine W_rg [0] ?_
 refine W_regF [1, 2, 3, 4, 5, 6, 7, 8, 9, 10, 11, 12, 13, 14, 15, 16, 17, 18, 19] fun k kp hk hp => ?_
 refine go ?_
 obtain ⟨y1, hc1, hm⟩ := bd hm
 refine RP (fun _ => sys_Apply_ok 4 (-7) 2 _ hc1) ?_
 by_cases h2 : y1 = (-3)
 ·rw [if_pos h2] at hm
  have h2b : (y1 == (-3)) = true := beq_iff_eq.2 h2
  refine RunRest_ops ?_
  refine gox h2b ?_
  refine RunCall_turn (Ghost_fr 0 rfl) ?_
  simp only [bR, bT, tab, bX, reduceIte, ↓reduceIte, reduceCtorEq, Int.reduceToNat, Nat.reduceDiv, Nat.reduceMod, Nat.reduceLT, Nat.reduceLeDiff, Nat.reduceAdd, Nat.reduceSub, Nat.reduceMul, Nat.reduceEqDiff, Nat.reduceBEq, Nat.reduceBNe, Nat.reduceGT, bZ, List.replicate, List.foldr, h2b]
  repeat refine ⟨by first | omega | assumption | decide | exact all_len fun _ => rfl | (intro _; omega) | rfl | exact fun e => absurd (List.map_eq_nil_iff.1 e) (by assumption) | (and_intros <;> first | omega | assumption | decide | exact all_len fun _ => rfl), ?_⟩
  refine RunCall_turn (Ghost_fr 1 rfl) ?_
  simp only [bR, bT, tab, bX, reduceIte, ↓reduceIte, reduceCtorEq, Int.reduceToNat, Nat.reduceDiv, Nat.reduceMod, Nat.reduceLT, Nat.reduceLeDiff, Nat.reduceAdd, Nat.reduceSub, Nat.reduceMul, Nat.reduceEqDiff, Nat.reduceBEq, Nat.reduceBNe, Nat.reduceGT, bZ, List.replicate, List.foldr, h2b]
  repeat refine ⟨by first | omega | assumption | decide | exact all_len fun _ => rfl | (intro _; omega) | rfl | exact fun e => absurd (List.map_eq_nil_iff.1 e) (by assumption) | (and_intros <;> first | omega | assumption | decide | exact all_len fun _ => rfl), ?_⟩
  obtain ⟨y2, hc3, hm⟩ := bd hm
  refine RP (fun _ => sys_Uses_ok (TRule.mk 14 0 0 0 (lit ([4] : List Int)) (lit ([(TPush.mk 3 0 3 0), (TPush.mk 1 0 9 0)] : List TPush))) _ hc3) ?_
  refine RunRest_ops ?_
  refine gox h2b ?_
  refine RunCall_turn (Ghost_fr 2 rfl) ?_
  simp only [bR, bT, tab, bX, reduceIte, ↓reduceIte, reduceCtorEq, Int.reduceToNat, Nat.reduceDiv, Nat.reduceMod, Nat.reduceLT, Nat.reduceLeDiff, Nat.reduceAdd, Nat.reduceSub, Nat.reduceMul, Nat.reduceEqDiff, Nat.reduceBEq, Nat.reduceBNe, Nat.reduceGT, bZ, List.replicate, List.foldr, h2b]
  repeat refine ⟨by first | omega | assumption | decide | exact all_len fun _ => rfl | (intro _; omega) | rfl | exact fun e => absurd (List.map_eq_nil_iff.1 e) (by assumption) | (and_intros <;> first | omega | assumption | decide | exact all_len fun _ => rfl), ?_⟩
  obtain ⟨y3, hc4, hm⟩ := bd hm
  refine RP (fun _ => ref_SameInts_ok y2 (lit ([3, 4] : List Int)) _ hc4) ?_
  by_cases h5 : y3 = true
  ·rw [if_pos h5] at hm
   have h5b : y3 = true := h5
   refine RunRest_ops ?_
   refine gox (a2 h2b h5b) ?_
   refine RunCall_turn (Ghost_ntS 15 (.a [.tree 2 ([].map TVar.enc), .tree 1 ([].map (eK .i64)), .osl 3 0 0 1, .tree 6 ([].map TRule.enc)]) rfl (by and_intros <;> trivial)) ?_
   refine gox (a2 h2b h5b) ?_
   refine RunCall_turn (Ghost_fr 3 rfl) ?_
   simp only [bR, bT, tab, bX, reduceIte, ↓reduceIte, reduceCtorEq, Int.reduceToNat, Nat.reduceDiv, Nat.reduceMod, Nat.reduceLT, Nat.reduceLeDiff, Nat.reduceAdd, Nat.reduceSub, Nat.reduceMul, Nat.reduceEqDiff, Nat.reduceBEq, Nat.reduceBNe, Nat.reduceGT, bZ, List.replicate, List.foldr, h2b, h5b]
   repeat refine ⟨by first | omega | assumption | decide | exact all_len fun _ => rfl | (intro _; omega) | rfl | exact fun e => absurd (List.map_eq_nil_iff.1 e) (by assumption) | (and_intros <;> first | omega | assumption | decide | exact all_len fun _ => rfl), ?_⟩
   obtain ⟨y4, hc6, hm⟩ := bd hm
   refine RP (fun _ => sys_Check0_ok (TSystem.mk [] [] (lit ([0] : List Int)) []) _ hc6) ?_
   refine RunRest_ops ?_
   refine gox (a2 h2b h5b) ?_
   refine hk _ _ ?_
   clear hk hp k kp
   refine W_ret ?_
   refine KBody_ret [] ?_
   obtain rfl := Option.some.inj hm
   exact en
  ·rw [if_neg h5] at hm
   have h5b : y3 = false := Bool.eq_false_iff.2 h5
   refine RunRest_ops ?_
   refine gox (a2 h2b h5b) ?_
   refine hk _ _ ?_
   clear hk hp k kp
   refine W_ret ?_
   refine KBody_ret [] ?_
   obtain rfl := Option.some.inj hm
   exact en
 ·rw [if_neg h2] at hm
  have h2b : (y1 == (-3)) = false := beq_eq_false_iff_ne.2 h2
  refine RunRest_ops ?_
  refine gox h2b ?_
  refine hk _ _ ?_
  clear hk hp k kp
  refine W_ret ?_
  refine KBody_ret [] ?_
  obtain rfl := Option.some.inj hm
  exact en
end Pam

/- the walk of slices_Clone_int_int_2, printed by a program of ours -/
namespace Pam
open Go Go.Proofs
set_option maxRecDepth 100000 in
set_option maxHeartbeats 1000000 in
theorem slices_Clone_int_int_2_ok (p1 : List Int) (v0_ : Nat) (r : (List Int)) (hm : slices_Clone_int_int_2 p1 = some r) : Spec Try.prog 89 [.c (.osl 0 v0_ 0 p1.length)] [.arr 1 v0_ 3 (p1.map (eK .i64))] (fun p σ => (p = .c (.osl 1 1 0 r.length) ∧ σ = [.arr 1 v0_ 3 (p1.map (eK .i64)), .arr 1 1 3 (r.map (eK .i64))])) (fun _ _ => False) := by
 refine Spec_ofD 8 [.tmp 2] Try.func89 rfl rfl rfl (by kernel_rfl) (by simp) ?_
 refine W_eqf ?_
 unfold slices_Clone_int_int_2 at hm
 refine W_rg [2] ?_
 refine W_seq_k fun k1 hk1 => ?_
 by_cases h1 : p1.length = 0
 ·rw [if_pos h1] at hm
  refine W_nilcaseO 0 rfl h1 rfl ?_ ?_
  ·refine W_eqn ?_
   refine W_rg [3] ?_
   refine W_condt rfl rfl ?_
   refine W_rg [0, 4] ?_
   refine W_ghost (Ghost_nil 2 1 3 (by decide) rfl (Nat.le_of_ble_eq_true rfl)) ?_
   refine W_eql ?_
   refine W_ghost (Ghost_new 1 3 (by decide)) ?_
   simp only [bZ, bL, reduceIte, ↓reduceIte, reduceCtorEq, Int.reduceToNat, Nat.reduceDiv, Nat.reduceMod, Nat.reduceLT, Nat.reduceLeDiff, Nat.reduceAdd, Nat.reduceSub, Nat.reduceMul, Nat.reduceEqDiff, Nat.reduceBEq, Nat.reduceBNe, Nat.reduceGT, List.length_cons, List.length_nil, List.length_append, List.cons_append, List.nil_append]
   refine W_gh (Ghost_mv 2 1 (by decide) rfl rfl) ?_
   refine W_gh (Ghost_dn 1 2 (by decide) (Nat.le_of_ble_eq_true rfl) (Nat.le_of_ble_eq_true rfl) rfl rfl) ?_
   refine W_ret ?_
   refine KThen_r ?_
   refine KBody_ret [.arr 1 v0_ 3 (p1.map (eK .i64)), .arr 1 1 3 ([].map (eK .i64))] ?_
   obtain rfl := Option.some.inj hm
   exact en
  ·refine W_eqn ?_
   refine W_rg [3] ?_
   refine W_condf rfl rfl ?_
   refine W_skip ?_
   refine KThen_n (hk1 _ _ ?_)
   refine W_rg [0, 4, 5, 6, 7] ?_
   refine W_eqa [.arr 1 v0_ 3 (p1.map (eK .i64)), .arr 1 1 3 ([].map (eK .i64))] ?_
   refine W_ret ?_
   refine KBody_ret [.arr 1 v0_ 3 (p1.map (eK .i64)), .arr 1 1 3 ([].map (eK .i64))] ?_
   obtain rfl := Option.some.inj hm
   exact en
 ·rw [if_neg h1] at hm
  refine W_regG [3] fun k kp hk hp => ?_
  refine RunRest_cut 1 ?_
  refine go ?_
  refine RS (Ext_eqO rfl (by first | exact .inl rfl | exact .inr rfl) (by first | rfl | (simp only [bR, bT, tab, bX, reduceIte, ↓reduceIte, reduceCtorEq, Int.reduceToNat, Nat.reduceDiv, Nat.reduceMod, Nat.reduceLT, Nat.reduceLeDiff, Nat.reduceAdd, Nat.reduceSub, Nat.reduceMul, Nat.reduceEqDiff, Nat.reduceBEq, Nat.reduceBNe, Nat.reduceGT]; done)) rfl (by first | rfl | (simp only [bR, bT, tab, bX, reduceIte, ↓reduceIte, reduceCtorEq, Int.reduceToNat, Nat.reduceDiv, Nat.reduceMod, Nat.reduceLT, Nat.reduceLeDiff, Nat.reduceAdd, Nat.reduceSub, Nat.reduceMul, Nat.reduceEqDiff, Nat.reduceBEq, Nat.reduceBNe, Nat.reduceGT]; done)) (by first | kernel_rfl | exact of_decide_eq_true (by kernel_rfl)) (by omega)) ?_
  simp only [bR, bT, tab, bX, reduceIte, ↓reduceIte, reduceCtorEq, Int.reduceToNat, Nat.reduceDiv, Nat.reduceMod, Nat.reduceLT, Nat.reduceLeDiff, Nat.reduceAdd, Nat.reduceSub, Nat.reduceMul, Nat.reduceEqDiff, Nat.reduceBEq, Nat.reduceBNe, Nat.reduceGT]
  refine RunRest_ops ?_
  refine go ?_
  refine hk _ _ ?_
  clear hk hp k kp
  refine W_condf rfl rfl ?_
  refine W_skip ?_
  refine KThen_n (hk1 _ _ ?_)
  obtain ⟨⟨hg2ax, hg2ay⟩, hm⟩ := gd hm
  refine W_rg [0, 4, 5, 6, 7] ?_
  refine W_eqa [.arr 1 v0_ 3 (p1.map (eK .i64)), .arr 1 1 3 (p1.map (eK .i64))] ?_
  refine W_ret ?_
  refine KBody_ret [.arr 1 v0_ 3 (p1.map (eK .i64)), .arr 1 1 3 (p1.map (eK .i64))] ?_
  obtain rfl := Option.some.inj hm
  exact en
end Pam

/- the walk of sys_Uses_2, printed by a program of ours -/
namespace Pam
open Go Go.Proofs
set_option maxRecDepth 100000 in
set_option maxHeartbeats 1000000 in
theorem sys_Uses_2_ok (p1 : Int) (p2 : Int) (p3 : Int) (p4 : Int) (p5 : List Int) (p6 : List TPush) (v0_ : Nat) (v1_ : Nat) (r : (List Int)) (hm : sys_Uses_2 p1 p2 p3 p4 p5 p6 = some r) : Spec Try.prog 36 [.a [.int .i64 p1, .int .i64 p2, .int .i64 p3, .int .i64 p4, .osl 0 v0_ 0 p5.length, .osl 1 v1_ 0 p6.length]] [.arr 1 v0_ 3 (p5.map (eK .i64)), .arr 4 v1_ 106 (p6.map TPush.enc)] (fun p σ => (p = .c (.tree 1 (r.map (eK .i64))) ∧ σ = [.arr 1 v0_ 3 (p5.map (eK .i64)), .arr 4 v1_ 106 (p6.map TPush.enc)])) (fun _ _ => False) := by
 refine Spec_ofD 32 [.tmp 2] Try.func36 rfl rfl rfl (by kernel_rfl) (by simp) ?_
 refine W_eqf ?_
 unfold sys_Uses_2 at hm
 refine W_rg [0, 2] ?_
 refine W_regF [6, 7, 8] fun k kp hk hp => ?_
 refine go ?_
 obtain ⟨y1, hc1, hm⟩ := bd hm
 refine RA (slices_Clone_int_int_2_ok p5 v0_ _ hc1) [0] ?_
 rintro p σ' hq2 _
 obtain ⟨rfl, rfl⟩ := hq2
 refine RunRest_ops ?_
 refine go ?_
 refine hk _ _ ?_
 clear hk hp k kp
 refine W_joinM (S := (List Int)) (V := Nat) [1, 3, 5, 9, 10, 11, 12, 13, 14, 15, 16, 17, 18, 19, 20, 21, 22, 23, 24, 25, 26, 27] (fun l4 v5 => [(3, .c (.osl 3 v5 0 l4.length))]) (fun l4 v5 => [.arr 1 v0_ 3 (p5.map (eK .i64)), .arr 4 v1_ 106 (p6.map TPush.enc), .box [.int .i64 p1, .int .i64 p2, .int .i64 p3, .int .i64 p4, .osl 0 v0_ 0 p5.length, .osl 1 v1_ 0 p6.length], .arr 1 v5 3 (l4.map (eK .i64))]) (fun l4 => sys_Uses_2_j1 l4 = some r) ?_ ?_
 ·skip
  refine W_rg [1, 9] ?_
  refine W_block ?_
  obtain ⟨o1, hl1, hm1⟩ := bd hm
  refine W_loopM (S := ((List Int) × Int)) (V := Nat) (O := (List Int)) [3, 5, 10, 12, 13, 14, 15, 16, 17, 18, 19, 20, 21, 22, 23, 24, 25, 26, 27] (fun (l20, x22) v21 => [(3, .c (.osl 3 v21 0 l20.length)), (10, .c (.osl 1 v1_ 0 p6.length)), (12, .c (.int .i64 x22))]) (fun (l20, x22) v21 => [.arr 1 v0_ 3 (p5.map (eK .i64)), .arr 4 v1_ 106 (p6.map TPush.enc), .box [.int .i64 p1, .int .i64 p2, .int .i64 p3, .int .i64 p4, .osl 0 v0_ 0 p5.length, .osl 1 v1_ 0 p6.length], .arr 1 v21 3 (l20.map (eK .i64))]) _ _ 1 hl1 ?_ ?_
  ·exact ls
  ·rintro ⟨l20, x22⟩ v21 r1 hm hr1
   replace hm : sys_Uses_2_l1 p6 l20 x22 = some r1 := hm
   refine W_eqm ?_
   unfold sys_Uses_2_l1 at hm
   refine W_rg [] ?_
   refine W_seq_k fun k1 hk1 => ?_
   by_cases h7 : x22 < (p6.length : Int)
   ·rw [if_pos h7] at hm
    refine W_condt rfl (decide_eq_true h7) ?_
    refine W_skip ?_
    refine KThen_n (hk1 _ _ ?_)
    refine W_seq_k fun k2 hk2 => ?_
    refine W_block ?_
    obtain ⟨hg8a, hm⟩ := gd hm
    refine W_rgx (em TPush.enc p6 x22.toNat) [13, 14, 15] ?_
    refine W_rg [16] ?_
    refine W_block ?_
    refine W_joinM (S := Bool) (V := Nat) [3, 10, 17, 18, 19, 20, 21] (fun b25 v24 => [(3, .c (.osl 3 v24 0 l20.length)), (10, .c (.osl 1 v1_ 0 p6.length)), (18, .c (.bool b25))]) (fun b25 v24 => [.arr 1 v0_ 3 (p5.map (eK .i64)), .arr 4 v1_ 106 (p6.map TPush.enc), .box [.int .i64 p1, .int .i64 p2, .int .i64 p3, .int .i64 p4, .osl 0 v0_ 0 p5.length, .osl 1 v1_ 0 p6.length], .arr 1 v24 3 (l20.map (eK .i64)), .box [.int .i64 ((p6.getD x22.toNat default).op), .int .i64 ((p6.getD x22.toNat default).k), .int .i64 ((p6.getD x22.toNat default).v), .int .i64 ((p6.getD x22.toNat default).n)]]) (fun b25 => sys_Uses_2_j2 p6 l20 x22 b25 = some r1) ?_ ?_
    ·skip
     refine W_rg [19] ?_
     by_cases h11 : ((p6.getD x22.toNat default).op) = 2
     ·rw [if_pos h11] at hm
      refine W_condt rfl (beq_iff_eq.2 h11) ?_
      refine W_skip ?_
      refine KJoinM_n (((p6.getD x22.toNat default).op) == 2) v21 hm ?_
      exact ls
     ·rw [if_neg h11] at hm
      refine W_condf rfl (beq_eq_false_iff_ne.2 h11) ?_
      refine W_rg [20] ?_
      by_cases h12 : ((p6.getD x22.toNat default).op) = 3
      ·rw [if_pos h12] at hm
       refine W_condt rfl (beq_iff_eq.2 h12) ?_
       refine W_skip ?_
       refine KJoinM_n (((p6.getD x22.toNat default).op) == 3) v21 hm ?_
       exact ls
      ·rw [if_neg h12] at hm
       refine W_condf rfl (beq_eq_false_iff_ne.2 h12) ?_
       refine W_rn ?_
       refine KJoinM_n (((p6.getD x22.toNat default).op) == 8) v21 hm ?_
       exact ls
    ·rintro b25 v24 hm
     replace hm : sys_Uses_2_j2 p6 l20 x22 b25 = some r1 := hm
     refine W_eqm ?_
     unfold sys_Uses_2_j2 at hm
     by_cases h9 : b25 = true
     ·rw [if_pos h9] at hm
      refine W_condt rfl (h9) ?_
      obtain ⟨⟨hg10ax, hg10ay⟩, hm⟩ := gd hm
      refine W_rn ?_
      refine KBlock_n ?_
      refine KBlock_n ?_
      refine KThen_n (hk2 _ _ ?_)
      refine W_rn ?_
      refine KLoopM_n ((l20 ++ (lit ([(p6.getD x22.toNat default).v] : List Int))), (IntKind.wrap .i64 (x22 + 1))) (v24 + 1) hm ?_
      exact ls
     ·rw [if_neg h9] at hm
      refine W_condf rfl (Bool.eq_false_iff.2 h9) ?_
      refine W_skip ?_
      refine KBlock_n ?_
      refine KBlock_n ?_
      refine KThen_n (hk2 _ _ ?_)
      refine W_rn ?_
      refine KLoopM_n (l20, (IntKind.wrap .i64 (x22 + 1))) v24 hm ?_
      exact ls
   ·rw [if_neg h7] at hm
    refine W_condf rfl (decide_eq_false h7) ?_
    refine W_exit ?_
    have ho13 := out_eq hm hr1
    subst ho13
    replace hm : sys_Uses_2_j1 l20 = some r := hm1
    refine KThen_x ?_
    refine KLoopM_x ?_
    refine KBlock_hit ?_
    refine KJoinM_n l20 v21 hm ?_
    exact ls
 ·rintro l4 v5 hm
  replace hm : sys_Uses_2_j1 l4 = some r := hm
  refine W_eqm ?_
  unfold sys_Uses_2_j1 at hm
  refine W_regF [28, 29] fun k kp hk hp => ?_
  refine go ?_
  obtain ⟨y6, hc3, hm⟩ := bd hm
  refine RA (slices_Sort_int_int_ok l4 v5 _ hc3) [3] ?_
  rintro p σ' hq4 _
  obtain ⟨rfl, rfl⟩ := hq4
  refine RunRest_ops ?_
  refine go ?_
  refine hk _ _ ?_
  clear hk hp k kp
  refine W_regF [3, 30, 31] fun k kp hk hp => ?_
  refine go ?_
  obtain ⟨y7, hc5, hm⟩ := bd hm
  refine RA (slices_Compact_int_int_ok l4.length y6 v5 _ hc5) [3] ?_
  rintro p σ' hq6 _
  obtain ⟨rfl, rfl⟩ := hq6
  refine RunRest_ops ?_
  refine go ?_
  refine hk _ _ ?_
  clear hk hp k kp
  refine W_gh (Ghost_fr 3 rfl) ?_
  refine W_ret ?_
  refine KBody_ret [.arr 1 v0_ 3 (p5.map (eK .i64)), .arr 4 v1_ 106 (p6.map TPush.enc)] ?_
  obtain rfl := Option.some.inj hm
  exact en
end Pam

/- the walk of ref_insert, printed by a program of ours -/
namespace Pam
open Go Go.Proofs
set_option maxRecDepth 100000 in
set_option maxHeartbeats 1000000 in
theorem ref_insert_ok (p1 : List Int) (p2 : Int) (r : (List Int)) (hm : ref_insert p1 p2 = some r) : SpecF Try.prog 92 [.c (.tree 1 (p1.map (eK .i64))), .c (.int .i64 p2)] (.c (.tree 1 (r.map (eK .i64)))) := by
 refine Spec_ofD 48 [.tmp 4] Try.func92 rfl rfl rfl (by kernel_rfl) (by simp) ?_
 refine W_eqf ?_
 unfold ref_insert at hm
 refine W_rg [4] ?_
 refine W_rg [] ?_
 refine W_rg [] ?_
 refine W_ghost (Ghost_nil 5 1 3 (by decide) rfl (Nat.le_of_ble_eq_true rfl)) ?_
 refine W_eql ?_
 refine W_joinM (S := ((List Int) × Bool)) (V := Nat) [0, 5, 6, 7, 8, 9, 10, 11, 12, 13, 14, 15, 16, 17, 18, 19, 20, 21, 22, 23, 24, 25, 26, 27, 28, 29, 30, 31, 32, 33, 34, 35, 36, 37, 38, 39, 40] (fun (l3, b5) v4 => [(5, .c (.osl 0 v4 0 l3.length)), (6, .c (.bool b5))]) (fun (l3, b5) v4 => [.arr 1 v4 3 (l3.map (eK .i64))]) (fun (l3, b5) => ref_insert_j1 p2 l3 b5 = some r) ?_ ?_
 ·skip
  refine W_rg [] ?_
  refine W_block ?_
  obtain ⟨o1, hl1, hm1⟩ := bd hm
  refine W_loopM (S := ((List Int) × Bool × Int)) (V := Nat) (O := ((List Int) × Bool)) [5, 6, 7, 8, 9, 10, 11, 12, 13, 14, 15, 16, 17, 18, 19, 20, 21, 22, 23, 24, 25, 26, 27, 28, 29, 30, 31, 32, 33, 34, 35, 36, 37, 38, 39, 40] (fun (l20, b22, x23) v21 => [(5, .c (.osl 0 v21 0 l20.length)), (6, .c (.bool b22)), (7, .c (.int .i64 x23))]) (fun (l20, b22, x23) v21 => [.arr 1 v21 3 (l20.map (eK .i64))]) _ _ 0 hl1 ?_ ?_
  ·exact ls
  ·rintro ⟨l20, b22, x23⟩ v21 r1 hm hr1
   replace hm : ref_insert_l1 p1 p2 l20 b22 x23 = some r1 := hm
   refine W_eqm ?_
   unfold ref_insert_l1 at hm
   refine W_seq_k fun k2 hk2 => ?_
   refine W_rg [8, 9, 10] ?_
   by_cases h3 : x23 < (p1.length : Int)
   ·rw [if_pos h3] at hm
    refine W_condt rfl (decide_eq_true h3) ?_
    refine W_skip ?_
    refine KThen_n (hk2 _ _ ?_)
    refine W_seq_k fun k3 hk3 => ?_
    refine W_block ?_
    refine W_joinM (S := ((List Int) × Bool)) (V := Nat) [5, 6, 11, 14, 15, 16, 17, 18, 19, 20, 21, 22, 23, 24, 25, 26, 27, 28, 29, 30, 31, 32, 33] (fun (l26, b28) v27 => [(5, .c (.osl 0 v27 0 l26.length)), (6, .c (.bool b28))]) (fun (l26, b28) v27 => [.arr 1 v27 3 (l26.map (eK .i64))]) (fun (l26, b28) => ref_insert_j2 p1 x23 l26 b28 = some r1) ?_ ?_
    ·skip
     refine W_joinM (S := Bool) (V := Nat) [5, 11, 14, 15, 16, 17, 18, 19, 20, 21, 22, 23] (fun b31 v30 => [(5, .c (.osl 0 v30 0 l20.length)), (23, .c (.bool b31))]) (fun b31 v30 => [.arr 1 v30 3 (l20.map (eK .i64))]) (fun b31 => ref_insert_j3 p1 p2 l20 b22 x23 b31 = some r1) ?_ ?_
     ·skip
      by_cases h9 : b22 = true
      ·rw [if_pos h9] at hm
       have h9b : b22 = true := h9
       have h9c : (!b22) = false := by rw [h9b]; rfl
       refine W_rnx (a2 h9b h9c) ?_
       refine KJoinM_n false v21 hm ?_
       first | (simp only [bS, bX, reduceIte, ↓reduceIte, reduceCtorEq, Int.reduceToNat, Nat.reduceDiv, Nat.reduceMod, Nat.reduceLT, Nat.reduceLeDiff, Nat.reduceAdd, Nat.reduceSub, Nat.reduceMul, Nat.reduceEqDiff, Nat.reduceBEq, Nat.reduceBNe, Nat.reduceGT] <;> first | done | (and_intros <;> first | rfl | (simp; done) | omega | (simp [lit, bX, eK, eB, eS, eL]; done) | (simp only [len_lit, List.length_cons, List.length_nil, List.length_append, List.length_set, List.length_replicate, List.length_map, List.length_take, List.length_drop]; omega))) | (simp only [bS, bX, reduceIte, ↓reduceIte, reduceCtorEq, Int.reduceToNat, Nat.reduceDiv, Nat.reduceMod, Nat.reduceLT, Nat.reduceLeDiff, Nat.reduceAdd, Nat.reduceSub, Nat.reduceMul, Nat.reduceEqDiff, Nat.reduceBEq, Nat.reduceBNe, Nat.reduceGT, *] <;> first | done | (and_intros <;> first | rfl | (simp; done) | omega | (simp [lit, bX, eK, eB, eS, eL]; done) | (simp only [len_lit, List.length_cons, List.length_nil, List.length_append, List.length_set, List.length_replicate, List.length_map, List.length_take, List.length_drop]; omega)))
      ·rw [if_neg h9] at hm
       have h9b : b22 = false := Bool.eq_false_iff.2 h9
       have h9c : (!b22) = true := by rw [h9b]; rfl
       obtain ⟨hg10a, hm⟩ := gd hm
       refine W_rnx (a2 (em (eK .i64) p1 x23.toNat) (a2 h9b h9c)) ?_
       refine KJoinM_n (decide ((p1.getD x23.toNat default) ≥ p2)) v21 hm ?_
       first | (simp only [bS, bX, reduceIte, ↓reduceIte, reduceCtorEq, Int.reduceToNat, Nat.reduceDiv, Nat.reduceMod, Nat.reduceLT, Nat.reduceLeDiff, Nat.reduceAdd, Nat.reduceSub, Nat.reduceMul, Nat.reduceEqDiff, Nat.reduceBEq, Nat.reduceBNe, Nat.reduceGT] <;> first | done | (and_intros <;> first | rfl | (simp; done) | omega | (simp [lit, bX, eK, eB, eS, eL]; done) | (simp only [len_lit, List.length_cons, List.length_nil, List.length_append, List.length_set, List.length_replicate, List.length_map, List.length_take, List.length_drop]; omega))) | (simp only [bS, bX, reduceIte, ↓reduceIte, reduceCtorEq, Int.reduceToNat, Nat.reduceDiv, Nat.reduceMod, Nat.reduceLT, Nat.reduceLeDiff, Nat.reduceAdd, Nat.reduceSub, Nat.reduceMul, Nat.reduceEqDiff, Nat.reduceBEq, Nat.reduceBNe, Nat.reduceGT, *] <;> first | done | (and_intros <;> first | rfl | (simp; done) | omega | (simp [lit, bX, eK, eB, eS, eL]; done) | (simp only [len_lit, List.length_cons, List.length_nil, List.length_append, List.length_set, List.length_replicate, List.length_map, List.length_take, List.length_drop]; omega)))
     ·rintro b31 v30 hm
      replace hm : ref_insert_j3 p1 p2 l20 b22 x23 b31 = some r1 := hm
      refine W_eqm ?_
      unfold ref_insert_j3 at hm
      by_cases h5 : b31 = true
      ·rw [if_pos h5] at hm
       refine W_condt rfl (h5) ?_
       refine W_seq_k fun k4 hk4 => ?_
       obtain ⟨hg6a, hm⟩ := gd hm
       refine W_rgx (em (eK .i64) p1 x23.toNat) [6, 23, 24, 25, 26, 27, 28] ?_
       by_cases h7 : (p1.getD x23.toNat default) > p2
       ·rw [if_pos h7] at hm
        refine W_condt rfl (decide_eq_true h7) ?_
        obtain ⟨⟨hg8ax, hg8ay⟩, hm⟩ := gd hm
        refine W_rn ?_
        refine KThen_n (hk4 _ _ ?_)
        refine W_rn ?_
        refine KJoinM_n ((l20 ++ (lit ([p2] : List Int))), true) (v30 + 1) hm ?_
        exact ls
       ·rw [if_neg h7] at hm
        refine W_condf rfl (decide_eq_false h7) ?_
        refine W_skip ?_
        refine KThen_n (hk4 _ _ ?_)
        refine W_rn ?_
        refine KJoinM_n (l20, true) v30 hm ?_
        exact ls
      ·rw [if_neg h5] at hm
       refine W_condf rfl (Bool.eq_false_iff.2 h5) ?_
       refine W_skip ?_
       refine KJoinM_n (l20, b22) v30 hm ?_
       exact ls
    ·rintro ⟨l26, b28⟩ v27 hm
     replace hm : ref_insert_j2 p1 x23 l26 b28 = some r1 := hm
     refine W_eqm ?_
     unfold ref_insert_j2 at hm
     obtain ⟨⟨hg4a, ⟨hg4bx, hg4by⟩⟩, hm⟩ := gd hm
     refine W_rnx (em (eK .i64) p1 x23.toNat) ?_
     refine KBlock_n ?_
     refine KThen_n (hk3 _ _ ?_)
     refine W_rn ?_
     refine KLoopM_n ((l26 ++ (lit ([(p1.getD x23.toNat default)] : List Int))), b28, (IntKind.wrap .i64 (x23 + 1))) (v27 + 1) hm ?_
     exact ls
   ·rw [if_neg h3] at hm
    refine W_condf rfl (decide_eq_false h3) ?_
    refine W_exit ?_
    have ho11 := out_eq hm hr1
    subst ho11
    replace hm : ref_insert_j1 p2 l20 b22 = some r := hm1
    refine KThen_x ?_
    refine KLoopM_x ?_
    refine KBlock_hit ?_
    refine KJoinM_n (l20, b22) v21 hm ?_
    exact ls
 ·rintro ⟨l3, b5⟩ v4 hm
  replace hm : ref_insert_j1 p2 l3 b5 = some r := hm
  refine W_eqm ?_
  unfold ref_insert_j1 at hm
  refine W_seq_k fun k1 hk1 => ?_
  refine W_rg [6, 41] ?_
  by_cases h1 : b5 = true
  ·rw [if_pos h1] at hm
   refine W_condf rfl (by rw [show b5 = true from (h1)]; rfl) ?_
   refine W_skip ?_
   refine KThen_n (hk1 _ _ ?_)
   refine W_rg [1, 5, 42, 47] ?_
   refine W_gh (Ghost_fr 0 rfl) ?_
   refine W_ret ?_
   refine KBody_ret [] ?_
   obtain rfl := Option.some.inj hm
   exact en
  ·rw [if_neg h1] at hm
   refine W_condt rfl (by rw [show b5 = false from (Bool.eq_false_iff.2 h1)]; rfl) ?_
   obtain ⟨⟨hg2ax, hg2ay⟩, hm⟩ := gd hm
   refine W_rn ?_
   refine KThen_n (hk1 _ _ ?_)
   refine W_rg [1, 5, 42, 43, 44, 45, 46, 47] ?_
   refine W_eqa [.arr 1 (v4 + 1) 3 ((l3 ++ (lit ([p2] : List Int))).map (eK .i64)), .arr 1 0 3 ((lit ([p2] : List Int)).map (eK .i64))] ?_
   refine W_gh (Ghost_fr 0 rfl) ?_
   refine W_ret ?_
   refine KBody_ret [] ?_
   obtain rfl := Option.some.inj hm
   exact en
end Pam

/- the walk of ref_named, printed by a program of ours -/
namespace Pam
open Go Go.Proofs
set_option maxRecDepth 100000 in
set_option maxHeartbeats 1000000 in
theorem ref_named_ok (p1 : TPush) (r : Bool) (hm : ref_named p1 = some r) : SpecF Try.prog 93 [.a [.int .i64 p1.op, .int .i64 p1.k, .int .i64 p1.v, .int .i64 p1.n]] (.c (.bool r)) := by
 refine Spec_ofD 16 [.tmp 2] Try.func93 rfl rfl rfl (by kernel_rfl) (by simp) ?_
 refine W_eqf ?_
 unfold ref_named at hm
 refine W_rg [0, 2] ?_
 refine W_regG [1, 3, 4, 5, 6, 7, 8, 9, 10, 11, 12, 13, 14, 15] fun k kp hk hp => ?_
 refine RunRest_cut 4 ?_
 refine go ?_
 by_cases h1 : p1.op = 2
 ·rw [if_pos h1] at hm
  have h1b : (p1.op == 2) = true := beq_iff_eq.2 h1
  refine RunRest_ops ?_
  refine gox h1b ?_
  refine hk _ _ ?_
  clear hk hp k kp
  refine W_ret ?_
  refine KBody_ret [] ?_
  obtain rfl := Option.some.inj hm
  exact en
 ·rw [if_neg h1] at hm
  have h1b : (p1.op == 2) = false := beq_eq_false_iff_ne.2 h1
  refine RunRest_cut 5 ?_
  refine gox h1b ?_
  by_cases h2 : p1.op = 3
  ·rw [if_pos h2] at hm
   have h2b : (p1.op == 3) = true := beq_iff_eq.2 h2
   refine RunRest_ops ?_
   refine gox (a2 h1b h2b) ?_
   refine hk _ _ ?_
   clear hk hp k kp
   refine W_ret ?_
   refine KBody_ret [] ?_
   obtain rfl := Option.some.inj hm
   exact en
  ·rw [if_neg h2] at hm
   have h2b : (p1.op == 3) = false := beq_eq_false_iff_ne.2 h2
   refine RunRest_ops ?_
   refine gox (a2 h1b h2b) ?_
   refine hk _ _ ?_
   clear hk hp k kp
   refine W_ret ?_
   refine KBody_ret [] ?_
   obtain rfl := Option.some.inj hm
   exact en
end Pam

/- the walk of ref_Uses, printed by a program of ours -/
namespace Pam
open Go Go.Proofs
set_option maxRecDepth 100000 in
set_option maxHeartbeats 1000000 in
theorem ref_Uses_ok (p1 : TRule) (r : (List Int)) (hm : ref_Uses p1 = some r) : SpecF Try.prog 37 [.a [.int .i64 p1.op, .int .i64 p1.k, .int .i64 p1.out_, .int .i64 p1.n, .tree 1 (p1.a.map (eK .i64)), .tree 4 (p1.e.map TPush.enc)]] (.c (.tree 1 (r.map (eK .i64)))) := by
 refine Spec_ofD 42 [.tmp 2] Try.func37 rfl rfl rfl (by kernel_rfl) (by simp) ?_
 refine W_eqf ?_
 unfold ref_Uses at hm
 refine W_rg [0, 2] ?_
 refine W_rg [] ?_
 refine W_joinM (S := (List Int)) (V := Unit) [3, 4, 6, 7, 8, 9, 10, 11, 12, 13, 14, 15, 16, 17, 18, 19] (fun l1 _ => [(3, .c (.tree 1 (l1.map (eK .i64))))]) (fun l1 _ => [.box [.int .i64 p1.op, .int .i64 p1.k, .int .i64 p1.out_, .int .i64 p1.n, .tree 1 (p1.a.map (eK .i64)), .tree 4 (p1.e.map TPush.enc)]]) (fun l1 => ref_Uses_j1 p1 l1 = some r) ?_ ?_
 ·skip
  refine W_rg [] ?_
  refine W_block ?_
  refine W_ghost (Ghost_tree 3 1 rfl) ?_
  refine W_eqn ?_
  obtain ⟨o2, hl2, hm2⟩ := bd hm
  refine W_loopM (S := ((List Int) × Int)) (V := Unit) (O := (List Int)) [3, 4, 6, 7, 8, 9, 10, 11, 12, 13, 14, 15, 16, 17, 18, 19] (fun (l18, x19) _ => [(3, .c (.tree 1 (l18.map (eK .i64)))), (4, .c (.int .i64 x19))]) (fun (l18, x19) _ => [.box [.int .i64 p1.op, .int .i64 p1.k, .int .i64 p1.out_, .int .i64 p1.n, .tree 1 (p1.a.map (eK .i64)), .tree 4 (p1.e.map TPush.enc)]]) _ _ () hl2 ?_ ?_
  ·exact ls
  ·rintro ⟨l18, x19⟩ _ r2 hm hr2
   replace hm : ref_Uses_l2 p1 l18 x19 = some r2 := hm
   refine W_eqm ?_
   unfold ref_Uses_l2 at hm
   refine W_seq_k fun k3 hk3 => ?_
   refine W_rg [6, 7, 8, 9] ?_
   by_cases h7 : x19 < (p1.a.length : Int)
   ·rw [if_pos h7] at hm
    refine W_condt rfl (decide_eq_true h7) ?_
    refine W_skip ?_
    refine KThen_n (hk3 _ _ ?_)
    refine W_seq_k fun k4 hk4 => ?_
    refine W_block ?_
    obtain ⟨hg8a, hm⟩ := gd hm
    refine W_region fun k kp hk hp => ?_
    refine gox (em (eK .i64) p1.a x19.toNat) ?_
    obtain ⟨y20, hc9, hm⟩ := bd hm
    refine RP (fun _ => ref_insert_ok l18 (p1.a.getD x19.toNat default) _ hc9) ?_
    refine RunRest_ops ?_
    refine go ?_
    refine hk _ _ ?_
    clear hk hp k kp
    refine KBlock_n ?_
    refine KThen_n (hk4 _ _ ?_)
    refine W_rn ?_
    refine KLoopM_n (y20, (IntKind.wrap .i64 (x19 + 1))) () hm ?_
    exact ls
   ·rw [if_neg h7] at hm
    refine W_condf rfl (decide_eq_false h7) ?_
    refine W_exit ?_
    have ho10 := out_eq hm hr2
    subst ho10
    replace hm : ref_Uses_j1 p1 l18 = some r := hm2
    refine KThen_x ?_
    refine KLoopM_x ?_
    refine KBlock_hit ?_
    refine KJoinM_n l18 () hm ?_
    exact ls
 ·rintro l1 _ hm
  replace hm : ref_Uses_j1 p1 l1 = some r := hm
  refine W_eqm ?_
  unfold ref_Uses_j1 at hm
  refine W_joinM (S := (List Int)) (V := Unit) [1, 3, 5, 20, 21, 22, 23, 24, 25, 26, 27, 28, 29, 30, 31, 32, 33, 34, 35, 36, 37, 38, 39, 40] (fun l2 _ => [(3, .c (.tree 1 (l2.map (eK .i64))))]) (fun l2 _ => [.box [.int .i64 p1.op, .int .i64 p1.k, .int .i64 p1.out_, .int .i64 p1.n, .tree 1 (p1.a.map (eK .i64)), .tree 4 (p1.e.map TPush.enc)]]) (fun l2 => ref_Uses_j2 l2 = some r) ?_ ?_
  ·skip
   refine W_rg [] ?_
   refine W_block ?_
   obtain ⟨o1, hl1, hm1⟩ := bd hm
   refine W_loopM (S := ((List Int) × Int)) (V := Unit) (O := (List Int)) [3, 5, 20, 21, 22, 23, 24, 25, 26, 27, 28, 29, 30, 31, 32, 33, 34, 35, 36, 37, 38, 39, 40] (fun (l7, x8) _ => [(3, .c (.tree 1 (l7.map (eK .i64)))), (5, .c (.int .i64 x8))]) (fun (l7, x8) _ => [.box [.int .i64 p1.op, .int .i64 p1.k, .int .i64 p1.out_, .int .i64 p1.n, .tree 1 (p1.a.map (eK .i64)), .tree 4 (p1.e.map TPush.enc)]]) _ _ () hl1 ?_ ?_
   ·exact ls
   ·rintro ⟨l7, x8⟩ _ r1 hm hr1
    replace hm : ref_Uses_l1 p1 l7 x8 = some r1 := hm
    refine W_eqm ?_
    unfold ref_Uses_l1 at hm
    refine W_seq_k fun k1 hk1 => ?_
    refine W_rg [20, 21, 22, 23] ?_
    by_cases h1 : x8 < (p1.e.length : Int)
    ·rw [if_pos h1] at hm
     refine W_condt rfl (decide_eq_true h1) ?_
     refine W_skip ?_
     refine KThen_n (hk1 _ _ ?_)
     refine W_seq_k fun k2 hk2 => ?_
     refine W_block ?_
     obtain ⟨hg2a, hm⟩ := gd hm
     refine W_regF [24, 27, 28, 29, 30, 31] fun k kp hk hp => ?_
     refine gox (em TPush.enc p1.e x8.toNat) ?_
     obtain ⟨y9, hc3, hm⟩ := bd hm
     refine RP (fun _ => ref_named_ok (p1.e.getD x8.toNat default) _ hc3) ?_
     refine RunRest_ops ?_
     refine gox (em TPush.enc p1.e x8.toNat) ?_
     refine hk _ _ ?_
     clear hk hp k kp
     by_cases h4 : y9 = true
     ·rw [if_pos h4] at hm
      refine W_condt rfl (h4) ?_
      refine W_region fun k kp hk hp => ?_
      refine gox (em TPush.enc p1.e x8.toNat) ?_
      obtain ⟨y10, hc5, hm⟩ := bd hm
      refine RP (fun _ => ref_insert_ok l7 ((p1.e.getD x8.toNat default).v) _ hc5) ?_
      refine RunRest_ops ?_
      refine go ?_
      refine hk _ _ ?_
      clear hk hp k kp
      refine KBlock_n ?_
      refine KThen_n (hk2 _ _ ?_)
      refine W_rn ?_
      refine KLoopM_n (y10, (IntKind.wrap .i64 (x8 + 1))) () hm ?_
      exact ls
     ·rw [if_neg h4] at hm
      refine W_condf rfl (Bool.eq_false_iff.2 h4) ?_
      refine W_skip ?_
      refine KBlock_n ?_
      refine KThen_n (hk2 _ _ ?_)
      refine W_rn ?_
      refine KLoopM_n (l7, (IntKind.wrap .i64 (x8 + 1))) () hm ?_
      exact ls
    ·rw [if_neg h1] at hm
     refine W_condf rfl (decide_eq_false h1) ?_
     refine W_exit ?_
     have ho6 := out_eq hm hr1
     subst ho6
     replace hm : ref_Uses_j2 l7 = some r := hm1
     refine KThen_x ?_
     refine KLoopM_x ?_
     refine KBlock_hit ?_
     refine KJoinM_n l7 () hm ?_
     exact ls
  ·rintro l2 _ hm
   replace hm : ref_Uses_j2 l2 = some r := hm
   refine W_eqm ?_
   unfold ref_Uses_j2 at hm
   refine W_rg [3, 41] ?_
   refine W_ret ?_
   refine KBody_ret [] ?_
   obtain rfl := Option.some.inj hm
   exact en
end Pam

/- the walk of ref_SameInts_2, printed by a program of ours -/
namespace Pam
open Go Go.Proofs
set_option maxRecDepth 100000 in
set_option maxHeartbeats 1000000 in
theorem ref_SameInts_2_ok (p1 : List Int) (p2 : List Int) (v0_ : Nat) (r : Bool) (hm : ref_SameInts_2 p1 p2 = some r) : Spec Try.prog 22 [.c (.osl 0 v0_ 0 p2.length), .c (.tree 1 (p1.map (eK .i64)))] [.arr 1 v0_ 3 (p2.map (eK .i64))] (fun p σ => (p = .c (.bool r) ∧ σ = [.arr 1 v0_ 3 (p2.map (eK .i64))])) (fun _ _ => False) := by
 refine Spec_ofD 26 [.tmp 4] Try.func22 rfl rfl rfl (by kernel_rfl) (by simp) ?_
 refine W_eqf ?_
 unfold ref_SameInts_2 at hm
 refine W_rg [4] ?_
 refine W_seq_k fun k1 hk1 => ?_
 refine W_rg [6, 7, 8, 9] ?_
 by_cases h1 : ¬ (p2.length : Int) = (p1.length : Int)
 ·rw [if_pos h1] at hm
  refine W_condt rfl (bne_iff_ne.2 h1) ?_
  refine W_rg [0, 1, 10] ?_
  refine W_ret ?_
  refine KThen_r ?_
  refine KBody_ret [.arr 1 v0_ 3 (p2.map (eK .i64))] ?_
  obtain rfl := Option.some.inj hm
  exact en
 ·rw [if_neg h1] at hm
  refine W_condf rfl (bne_eq_false_iff_eq.2 (Decidable.not_not.1 h1)) ?_
  refine W_skip ?_
  refine KThen_n (hk1 _ _ ?_)
  refine W_joinM (S := Unit) (V := Unit) [0, 1, 4, 5, 10, 11, 12, 13, 14, 15, 16, 17, 18, 19, 20, 21, 22, 23, 24, 25] (fun _ _ => []) (fun _ _ => [.arr 1 v0_ 3 (p2.map (eK .i64))]) (fun _ => ref_SameInts_2_j1 = some r) ?_ ?_
  ·skip
   refine W_rg [10] ?_
   refine W_block ?_
   obtain ⟨o1, hl1, hm1⟩ := bd hm
   refine W_loopM (S := Int) (V := Unit) (O := Unit ⊕ Bool) [0, 4, 5, 11, 12, 13, 14, 15, 16, 17, 18, 19, 20, 21, 22, 23, 24, 25] (fun x3 _ => [(0, .c (.osl 0 v0_ 0 p2.length)), (5, .c (.int .i64 x3))]) (fun x3 _ => [.arr 1 v0_ 3 (p2.map (eK .i64))]) _ _ () hl1 ?_ ?_
   ·exact ls
   ·rintro x3 _ r1 hm hr1
    replace hm : ref_SameInts_2_l1 p1 p2 x3 = some r1 := hm
    refine W_eqm ?_
    unfold ref_SameInts_2_l1 at hm
    refine W_seq_k fun k2 hk2 => ?_
    refine W_rg [11, 12, 13] ?_
    by_cases h2 : x3 < (p2.length : Int)
    ·rw [if_pos h2] at hm
     refine W_condt rfl (decide_eq_true h2) ?_
     refine W_skip ?_
     refine KThen_n (hk2 _ _ ?_)
     refine W_seq_k fun k3 hk3 => ?_
     refine W_block ?_
     obtain ⟨⟨hg3a, hg3b⟩, hm⟩ := gd hm
     refine W_agx (a2 (em (eK .i64) p2 x3.toNat) (em (eK .i64) p1 x3.toNat)) [14, 17, 18, 19, 20, 21, 22, 23, 24] [0, 0, 3, 7, 0, 0, 48, 112, 255] [false, false, false, false, false, false, false, false, true] ?_
     by_cases h4 : ¬ (p2.getD x3.toNat default) = (p1.getD x3.toNat default)
     ·rw [if_pos h4] at hm
      refine W_condt rfl (bne_iff_ne.2 h4) ?_
      refine W_rg [0, 1, 5, 25] ?_
      have ho5 := out_eq hm hr1
      subst ho5
      replace hm : some false = some r := hm1
      refine W_ret ?_
      refine KBlock_r ?_
      refine KThen_r ?_
      refine KLoopM_r ?_
      refine KBlock_r ?_
      refine KJoinM_r ?_
      refine KBody_ret [.arr 1 v0_ 3 (p2.map (eK .i64))] ?_
      obtain rfl := Option.some.inj hm
      exact en
     ·rw [if_neg h4] at hm
      refine W_condf rfl (bne_eq_false_iff_eq.2 (Decidable.not_not.1 h4)) ?_
      refine W_skip ?_
      refine KBlock_n ?_
      refine KThen_n (hk3 _ _ ?_)
      refine W_rn ?_
      refine KLoopM_n (IntKind.wrap .i64 (x3 + 1)) () hm ?_
      exact ls
    ·rw [if_neg h2] at hm
     refine W_condf rfl (decide_eq_false h2) ?_
     refine W_exit ?_
     have ho6 := out_eq hm hr1
     subst ho6
     replace hm : ref_SameInts_2_j1 = some r := hm1
     refine KThen_x ?_
     refine KLoopM_x ?_
     refine KBlock_hit ?_
     refine KJoinM_n () () hm ?_
     exact ls
  ·rintro _ _ hm
   replace hm : ref_SameInts_2_j1 = some r := hm
   refine W_eqm ?_
   unfold ref_SameInts_2_j1 at hm
   refine W_rg [] ?_
   refine W_ret ?_
   refine KBody_ret [.arr 1 v0_ 3 (p2.map (eK .i64))] ?_
   obtain rfl := Option.some.inj hm
   exact en
end Pam

/- the walk of ref_samePush, printed by a program of ours -/
namespace Pam
open Go Go.Proofs
set_option maxRecDepth 100000 in
set_option maxHeartbeats 1000000 in
theorem ref_samePush_ok (p1 : List TPush) (p2 : List TPush) (v0_ : Nat) (r : Bool) (hm : ref_samePush p1 p2 = some r) : Spec Try.prog 75 [.c (.osl 0 v0_ 0 p2.length), .c (.tree 4 (p1.map TPush.enc))] [.arr 4 v0_ 106 (p2.map TPush.enc)] (fun p σ => (p = .c (.bool r) ∧ σ = [.arr 4 v0_ 106 (p2.map TPush.enc)])) (fun _ _ => False) := by
 refine Spec_ofD 26 [.tmp 4] Try.func75 rfl rfl rfl (by kernel_rfl) (by simp) ?_
 refine W_eqf ?_
 unfold ref_samePush at hm
 refine W_rg [4] ?_
 refine W_seq_k fun k1 hk1 => ?_
 refine W_rg [6, 7, 8, 9] ?_
 by_cases h1 : ¬ (p2.length : Int) = (p1.length : Int)
 ·rw [if_pos h1] at hm
  refine W_condt rfl (bne_iff_ne.2 h1) ?_
  refine W_rg [0, 1, 10] ?_
  refine W_ret ?_
  refine KThen_r ?_
  refine KBody_ret [.arr 4 v0_ 106 (p2.map TPush.enc)] ?_
  obtain rfl := Option.some.inj hm
  exact en
 ·rw [if_neg h1] at hm
  refine W_condf rfl (bne_eq_false_iff_eq.2 (Decidable.not_not.1 h1)) ?_
  refine W_skip ?_
  refine KThen_n (hk1 _ _ ?_)
  refine W_joinM (S := Unit) (V := Unit) [0, 1, 4, 5, 10, 11, 12, 13, 14, 15, 16, 17, 18, 19, 20, 21, 22, 23, 24, 25] (fun _ _ => []) (fun _ _ => [.arr 4 v0_ 106 (p2.map TPush.enc)]) (fun _ => ref_samePush_j1 = some r) ?_ ?_
  ·skip
   refine W_rg [10] ?_
   refine W_block ?_
   obtain ⟨o1, hl1, hm1⟩ := bd hm
   refine W_loopM (S := Int) (V := Unit) (O := Unit ⊕ Bool) [0, 4, 5, 11, 12, 13, 14, 15, 16, 17, 18, 19, 20, 21, 22, 23, 24, 25] (fun x3 _ => [(0, .c (.osl 0 v0_ 0 p2.length)), (5, .c (.int .i64 x3))]) (fun x3 _ => [.arr 4 v0_ 106 (p2.map TPush.enc)]) _ _ () hl1 ?_ ?_
   ·exact ls
   ·rintro x3 _ r1 hm hr1
    replace hm : ref_samePush_l1 p1 p2 x3 = some r1 := hm
    refine W_eqm ?_
    unfold ref_samePush_l1 at hm
    refine W_seq_k fun k2 hk2 => ?_
    refine W_rg [11, 12, 13] ?_
    by_cases h2 : x3 < (p2.length : Int)
    ·rw [if_pos h2] at hm
     refine W_condt rfl (decide_eq_true h2) ?_
     refine W_skip ?_
     refine KThen_n (hk2 _ _ ?_)
     refine W_seq_k fun k3 hk3 => ?_
     refine W_block ?_
     obtain ⟨⟨hg3a, hg3b⟩, hm⟩ := gd hm
     refine W_agx (a2 (em TPush.enc p2 x3.toNat) (em TPush.enc p1 x3.toNat)) [14, 17, 18, 19, 20, 21, 22, 23, 24] [0, 0, 3, 7, 0, 0, 48, 112, 255] [false, false, false, false, false, false, false, false, true] ?_
     by_cases h4 : ((p2.getD x3.toNat default).op) = ((p1.getD x3.toNat default).op) ∧ ((p2.getD x3.toNat default).k) = ((p1.getD x3.toNat default).k) ∧ ((p2.getD x3.toNat default).v) = ((p1.getD x3.toNat default).v) ∧ ((p2.getD x3.toNat default).n) = ((p1.getD x3.toNat default).n)
     ·rw [if_pos h4] at hm
      refine W_condf rfl (by rw [show ((((p2.getD x3.toNat default).op) == ((p1.getD x3.toNat default).op)) && ((((p2.getD x3.toNat default).k) == ((p1.getD x3.toNat default).k)) && ((((p2.getD x3.toNat default).v) == ((p1.getD x3.toNat default).v)) && (((p2.getD x3.toNat default).n) == ((p1.getD x3.toNat default).n))))) = true from (by simpa [Bool.and_eq_true] using h4)]; rfl) ?_
      refine W_skip ?_
      refine KBlock_n ?_
      refine KThen_n (hk3 _ _ ?_)
      refine W_rn ?_
      refine KLoopM_n (IntKind.wrap .i64 (x3 + 1)) () hm ?_
      exact ls
     ·rw [if_neg h4] at hm
      refine W_condt rfl (by rw [show ((((p2.getD x3.toNat default).op) == ((p1.getD x3.toNat default).op)) && ((((p2.getD x3.toNat default).k) == ((p1.getD x3.toNat default).k)) && ((((p2.getD x3.toNat default).v) == ((p1.getD x3.toNat default).v)) && (((p2.getD x3.toNat default).n) == ((p1.getD x3.toNat default).n))))) = false from (Bool.eq_false_iff.2 (fun hh => h4 (by simpa [Bool.and_eq_true] using hh)))]; rfl) ?_
      refine W_rg [0, 1, 5, 25] ?_
      have ho5 := out_eq hm hr1
      subst ho5
      replace hm : some false = some r := hm1
      refine W_ret ?_
      refine KBlock_r ?_
      refine KThen_r ?_
      refine KLoopM_r ?_
      refine KBlock_r ?_
      refine KJoinM_r ?_
      refine KBody_ret [.arr 4 v0_ 106 (p2.map TPush.enc)] ?_
      obtain rfl := Option.some.inj hm
      exact en
    ·rw [if_neg h2] at hm
     refine W_condf rfl (decide_eq_false h2) ?_
     refine W_exit ?_
     have ho6 := out_eq hm hr1
     subst ho6
     replace hm : ref_samePush_j1 = some r := hm1
     refine KThen_x ?_
     refine KLoopM_x ?_
     refine KBlock_hit ?_
     refine KJoinM_n () () hm ?_
     exact ls
  ·rintro _ _ hm
   replace hm : ref_samePush_j1 = some r := hm
   refine W_eqm ?_
   unfold ref_samePush_j1 at hm
   refine W_rg [] ?_
   refine W_ret ?_
   refine KBody_ret [.arr 4 v0_ 106 (p2.map TPush.enc)] ?_
   obtain rfl := Option.some.inj hm
   exact en
end Pam

/- the walk of ref_SameRule, printed by a program of ours -/
namespace Pam
open Go Go.Proofs
set_option maxRecDepth 100000 in
set_option maxHeartbeats 1000000 in
theorem ref_SameRule_ok (p1 : Int) (p2 : Int) (p3 : Int) (p4 : Int) (p5 : TRule) (p6 : List Int) (p7 : List TPush) (v0_ : Nat) (v1_ : Nat) (r : Bool) (hm : ref_SameRule p1 p2 p3 p4 p5 p6 p7 = some r) : Spec Try.prog 38 [.a [.int .i64 p1, .int .i64 p2, .int .i64 p3, .int .i64 p4, .osl 0 v0_ 0 p6.length, .osl 1 v1_ 0 p7.length], .a [.int .i64 p5.op, .int .i64 p5.k, .int .i64 p5.out_, .int .i64 p5.n, .tree 1 (p5.a.map (eK .i64)), .tree 4 (p5.e.map TPush.enc)]] [.arr 1 v0_ 3 (p6.map (eK .i64)), .arr 4 v1_ 106 (p7.map TPush.enc)] (fun p σ => (p = .c (.bool r) ∧ σ = [.arr 1 v0_ 3 (p6.map (eK .i64)), .arr 4 v1_ 106 (p7.map TPush.enc)])) (fun _ _ => False) := by
 refine Spec_ofD 45 [.tmp 4] Try.func38 rfl rfl rfl (by kernel_rfl) (by simp) ?_
 refine W_eqf ?_
 unfold ref_SameRule at hm
 refine W_rg [0, 1, 4] ?_
 refine W_regG [2, 3, 5, 6, 7, 8, 9, 10, 11, 12, 13, 14, 15, 16, 17, 18, 19, 20, 21, 22, 23, 24, 25, 26, 27, 28, 29, 30, 31, 32, 33, 34, 35, 36, 37, 38, 39, 40, 41, 42, 43, 44] fun k kp hk hp => ?_
 refine RunRest_cut 6 ?_
 refine go ?_
 by_cases h1 : p1 = p5.op
 ·rw [if_pos h1] at hm
  have h1b : (p1 == p5.op) = true := beq_iff_eq.2 h1
  refine RunRest_cut 7 ?_
  refine gox h1b ?_
  by_cases h2 : p2 = p5.k
  ·rw [if_pos h2] at hm
   have h2b : (p2 == p5.k) = true := beq_iff_eq.2 h2
   refine RunRest_cut 7 ?_
   refine gox (a2 h1b h2b) ?_
   by_cases h3 : p3 = p5.out_
   ·rw [if_pos h3] at hm
    have h3b : (p3 == p5.out_) = true := beq_iff_eq.2 h3
    refine RunRest_cut 7 ?_
    refine gox (a2 h1b (a2 h2b h3b)) ?_
    by_cases h4 : p4 = p5.n
    ·rw [if_pos h4] at hm
     have h4b : (p4 == p5.n) = true := beq_iff_eq.2 h4
     refine RunRest_ops ?_
     refine gox (a2 h1b (a2 h2b (a2 h3b h4b))) ?_
     obtain ⟨y1, hc5, hm⟩ := bd hm
     refine RA (ref_SameInts_2_ok p5.a p6 v0_ _ hc5) [0] ?_
     rintro p σ' hq6 _
     obtain ⟨rfl, rfl⟩ := hq6
     by_cases h7 : y1 = true
     ·rw [if_pos h7] at hm
      have h7b : y1 = true := h7
      refine RunRest_ops ?_
      refine gox (a2 h1b (a2 h2b (a2 h3b (a2 h4b h7b)))) ?_
      obtain ⟨y2, hc8, hm⟩ := bd hm
      refine RA (ref_samePush_ok p5.e p7 v1_ _ hc8) [1] ?_
      rintro p σ' hq9 _
      obtain ⟨rfl, rfl⟩ := hq9
      refine RunRest_ops ?_
      refine gox (a2 h1b (a2 h2b (a2 h3b (a2 h4b h7b)))) ?_
      refine hk _ _ ?_
      clear hk hp k kp
      refine W_ret ?_
      refine KBody_ret [.arr 1 v0_ 3 (p6.map (eK .i64)), .arr 4 v1_ 106 (p7.map TPush.enc)] ?_
      obtain rfl := Option.some.inj hm
      exact en
     ·rw [if_neg h7] at hm
      have h7b : y1 = false := Bool.eq_false_iff.2 h7
      refine RunRest_ops ?_
      refine gox (a2 h1b (a2 h2b (a2 h3b (a2 h4b h7b)))) ?_
      refine hk _ _ ?_
      clear hk hp k kp
      refine W_ret ?_
      refine KBody_ret [.arr 1 v0_ 3 (p6.map (eK .i64)), .arr 4 v1_ 106 (p7.map TPush.enc)] ?_
      obtain rfl := Option.some.inj hm
      exact en
    ·rw [if_neg h4] at hm
     have h4b : (p4 == p5.n) = false := beq_eq_false_iff_ne.2 h4
     refine RunRest_ops ?_
     refine gox (a2 h1b (a2 h2b (a2 h3b h4b))) ?_
     refine hk _ _ ?_
     clear hk hp k kp
     refine W_ret ?_
     refine KBody_ret [.arr 1 v0_ 3 (p6.map (eK .i64)), .arr 4 v1_ 106 (p7.map TPush.enc)] ?_
     obtain rfl := Option.some.inj hm
     exact en
   ·rw [if_neg h3] at hm
    have h3b : (p3 == p5.out_) = false := beq_eq_false_iff_ne.2 h3
    refine RunRest_ops ?_
    refine gox (a2 h1b (a2 h2b h3b)) ?_
    refine hk _ _ ?_
    clear hk hp k kp
    refine W_ret ?_
    refine KBody_ret [.arr 1 v0_ 3 (p6.map (eK .i64)), .arr 4 v1_ 106 (p7.map TPush.enc)] ?_
    obtain rfl := Option.some.inj hm
    exact en
  ·rw [if_neg h2] at hm
   have h2b : (p2 == p5.k) = false := beq_eq_false_iff_ne.2 h2
   refine RunRest_ops ?_
   refine gox (a2 h1b h2b) ?_
   refine hk _ _ ?_
   clear hk hp k kp
   refine W_ret ?_
   refine KBody_ret [.arr 1 v0_ 3 (p6.map (eK .i64)), .arr 4 v1_ 106 (p7.map TPush.enc)] ?_
   obtain rfl := Option.some.inj hm
   exact en
 ·rw [if_neg h1] at hm
  have h1b : (p1 == p5.op) = false := beq_eq_false_iff_ne.2 h1
  refine RunRest_ops ?_
  refine gox h1b ?_
  refine hk _ _ ?_
  clear hk hp k kp
  refine W_ret ?_
  refine KBody_ret [.arr 1 v0_ 3 (p6.map (eK .i64)), .arr 4 v1_ 106 (p7.map TPush.enc)] ?_
  obtain rfl := Option.some.inj hm
  exact en
end Pam

/- the walk of law_SysUses, printed by a program of ours -/
namespace Pam
open Go Go.Proofs
set_option maxRecDepth 100000 in
set_option maxHeartbeats 1000000 in
theorem law_SysUses_ok (p1 : TRule) (r : Bool) (hm : law_SysUses p1 = some r) : SpecF Try.prog 6 [.a [.int .i64 p1.op, .int .i64 p1.k, .int .i64 p1.out_, .int .i64 p1.n, .tree 1 (p1.a.map (eK .i64)), .tree 4 (p1.e.map TPush.enc)]] (.c (.bool r)) := by
 refine Spec_ofD 35 [.tmp 2] Try.func6 rfl rfl rfl (by kernel_rfl) (by simp) ?_
 refine W_eqf ?_
 unfold law_SysUses at hm
 refine W_rg [0, 2] ?_
 refine W_seq_k fun k1 hk1 => ?_
 refine W_regF [4] fun k kp hk hp => ?_
 refine go ?_
 obtain ⟨y1, hc1, hm⟩ := bd hm
 refine RP (fun _ => law_sysBegun0_ok  _ hc1) ?_
 refine RunRest_ops ?_
 refine go ?_
 refine hk _ _ ?_
 clear hk hp k kp
 by_cases h2 : y1 = true
 ·rw [if_pos h2] at hm
  refine W_condf rfl (by rw [show y1 = true from (h2)]; rfl) ?_
  refine W_skip ?_
  refine KThen_n (hk1 _ _ ?_)
  refine W_seq_k fun k2 hk2 => ?_
  refine W_joinM (S := Bool) (V := Unit) [5, 6, 7, 8, 9, 10, 11, 12, 13, 14, 15] (fun b2 _ => [(15, .c (.bool b2))]) (fun b2 _ => [.box [.int .i64 p1.op, .int .i64 p1.k, .int .i64 p1.out_, .int .i64 p1.n, .tree 1 (p1.a.map (eK .i64)), .tree 4 (p1.e.map TPush.enc)]]) (fun b2 => law_SysUses_j1 p1 b2 = some r) ?_ ?_
  ·skip
   refine W_regionG fun k kp hk hp => ?_
   refine RunRest_cut 5 ?_
   refine go ?_
   by_cases h11 : (p1.a.length : Int) > 500
   ·rw [if_pos h11] at hm
    have h11b : decide ((p1.a.length : Int) > 500) = true := decide_eq_true h11
    refine RunRest_ops ?_
    refine gox h11b ?_
    refine hk _ _ ?_
    clear hk hp k kp
    refine KJoinM_n true () hm ?_
    exact ls
   ·rw [if_neg h11] at hm
    have h11b : decide ((p1.a.length : Int) > 500) = false := decide_eq_false h11
    refine RunRest_ops ?_
    refine gox h11b ?_
    refine hk _ _ ?_
    clear hk hp k kp
    refine KJoinM_n (decide ((p1.e.length : Int) > 500)) () hm ?_
    exact ls
  ·rintro b2 _ hm
   replace hm : law_SysUses_j1 p1 b2 = some r := hm
   refine W_eqm ?_
   unfold law_SysUses_j1 at hm
   by_cases h3 : b2 = true
   ·rw [if_pos h3] at hm
    refine W_condt rfl (h3) ?_
    refine W_rg [1, 15] ?_
    refine W_ret ?_
    refine KThen_r ?_
    refine KBody_ret [] ?_
    obtain rfl := Option.some.inj hm
    exact en
   ·rw [if_neg h3] at hm
    refine W_condf rfl (Bool.eq_false_iff.2 h3) ?_
    refine W_skip ?_
    refine KThen_n (hk2 _ _ ?_)
    refine W_rg [15, 16] ?_
    obtain ⟨⟨hg4ax, hg4ay⟩, hm⟩ := gd hm
    refine W_rg [17, 18, 19, 20] ?_
    refine W_eqa [.box [.int .i64 p1.op, .int .i64 p1.k, .int .i64 p1.out_, .int .i64 p1.n, .tree 1 (p1.a.map (eK .i64)), .tree 4 (p1.e.map TPush.enc)], .box [.int .i64 p1.op, .int .i64 p1.k, .int .i64 p1.out_, .int .i64 p1.n, .osl 2 0 0 p1.a.length, .tree 4 (p1.e.map TPush.enc)], .arr 1 0 3 (p1.a.map (eK .i64))] ?_
    obtain ⟨⟨hg5ax, hg5ay⟩, hm⟩ := gd hm
    refine W_rg [21, 22, 23, 24] ?_
    refine W_eqa [.box [.int .i64 p1.op, .int .i64 p1.k, .int .i64 p1.out_, .int .i64 p1.n, .tree 1 (p1.a.map (eK .i64)), .tree 4 (p1.e.map TPush.enc)], .box [.int .i64 p1.op, .int .i64 p1.k, .int .i64 p1.out_, .int .i64 p1.n, .osl 2 0 0 p1.a.length, .osl 3 0 0 p1.e.length], .arr 1 0 3 (p1.a.map (eK .i64)), .arr 4 0 106 (p1.e.map TPush.enc)] ?_
    refine W_anyTF [1, 3, 25, 26, 27, 28, 29, 30, 31, 32, 33, 34] (by kernel_rfl) [0, 1, 0, 7, 15, 31, 63, 63, 255, 511, 1023] [false, false, false, true, true, true, false, false, true, true, true] (by kernel_rfl) fun k hk => ?_
    refine TR_ops ?_
    refine ga ?_
    obtain ⟨y3, hc6, hm⟩ := bd hm
    refine AnyCall_atT (σ2 := [.box [.int .i64 p1.op, .int .i64 p1.k, .int .i64 p1.out_, .int .i64 p1.n, .tree 1 (p1.a.map (eK .i64)), .tree 4 (p1.e.map TPush.enc)], .box [.int .i64 p1.op, .int .i64 p1.k, .int .i64 p1.out_, .int .i64 p1.n, .osl 2 0 0 p1.a.length, .osl 3 0 0 p1.e.length], .arr 1 0 3 (p1.a.map (eK .i64)), .arr 4 0 106 (p1.e.map TPush.enc)]) (res := .c (.tree 1 (y3.map (eK .i64)))) ⟨_, _, _, _, [2, 3], sys_Uses_2_ok p1.op p1.k p1.out_ p1.n p1.a p1.e 0 0 _ hc6, by simp, by simp, rfl, rfl, by first | trivial | (simp [bX, eK, eB, eS, eL, s_cap, psUnder, PV.under, CV.under, obsBelow, OB.under, cvsBelow]; done), by first | trivial | (simp [bX, eK, eB, eS, eL, s_cap, psUnder, PV.under, CV.under, obsBelow, OB.under, cvsBelow]; done), fun q τ hq _ => by obtain ⟨rfl, rfl⟩ := hq; exact ⟨rfl, rfl⟩, fun _ _ h => h.elim⟩ (by first | trivial | exact dst_ok rfl) (by first | trivial | (intro _; first | trivial | simp [need]) | simp [need]) (by first | exact .inl rfl | exact .inr (by simp only [extB]; and_intros <;> first | rfl | trivial)) ?_
    refine TR_ops ?_
    refine ga ?_
    obtain ⟨y4, hc7, hm⟩ := bd hm
    refine AnyCall_pureT (fun _ => ref_Uses_ok p1 _ hc7) (by first | trivial | exact dst_ok rfl) (by first | trivial | (intro _; first | trivial | simp [need]) | simp [need]) rfl (fun _ => rfl) ?_
    refine TR_ops ?_
    refine ga ?_
    obtain ⟨y5, hc8, hm⟩ := bd hm
    refine AnyCall_pureT (fun _ => ref_SameInts_ok y3 y4 _ hc8) (by first | trivial | exact dst_ok rfl) (by first | trivial | (intro _; first | trivial | simp [need]) | simp [need]) rfl (fun _ => rfl) ?_
    by_cases h9 : y5 = true
    ·rw [if_pos h9] at hm
     have h9b : y5 = true := h9
     refine TR_ops ?_
     refine gax h9b ?_
     obtain ⟨y6, hc10, hm⟩ := bd hm
     refine AnyCall_atT (σ2 := [.box [.int .i64 p1.op, .int .i64 p1.k, .int .i64 p1.out_, .int .i64 p1.n, .tree 1 (p1.a.map (eK .i64)), .tree 4 (p1.e.map TPush.enc)], .box [.int .i64 p1.op, .int .i64 p1.k, .int .i64 p1.out_, .int .i64 p1.n, .osl 2 0 0 p1.a.length, .osl 3 0 0 p1.e.length], .arr 1 0 3 (p1.a.map (eK .i64)), .arr 4 0 106 (p1.e.map TPush.enc)]) (res := .c (.bool y6)) ⟨_, _, _, _, [2, 3], ref_SameRule_ok p1.op p1.k p1.out_ p1.n p1 p1.a p1.e 0 0 _ hc10, by simp, by simp, rfl, rfl, by first | trivial | (simp [bX, eK, eB, eS, eL, s_cap, psUnder, PV.under, CV.under, obsBelow, OB.under, cvsBelow]; done), by first | trivial | (simp [bX, eK, eB, eS, eL, s_cap, psUnder, PV.under, CV.under, obsBelow, OB.under, cvsBelow]; done), fun q τ hq _ => by obtain ⟨rfl, rfl⟩ := hq; exact ⟨rfl, rfl⟩, fun _ _ h => h.elim⟩ (by first | trivial | exact dst_ok rfl) (by first | trivial | (intro _; first | trivial | simp [need]) | simp [need]) (by first | exact .inl rfl | exact .inr (by simp only [extB]; and_intros <;> first | rfl | trivial)) ?_
     refine TR_ops ?_
     refine gax h9b ?_
     refine hk _ _ ?_
     clear hk k
     refine W_ret ?_
     refine KBody_ret [] ?_
     obtain rfl := Option.some.inj hm
     exact en
    ·rw [if_neg h9] at hm
     have h9b : y5 = false := Bool.eq_false_iff.2 h9
     refine TR_ops ?_
     refine gax h9b ?_
     refine hk _ _ ?_
     clear hk k
     refine W_ret ?_
     refine KBody_ret [] ?_
     obtain rfl := Option.some.inj hm
     exact en
 ·rw [if_neg h2] at hm
  refine W_condt rfl (by rw [show y1 = false from (Bool.eq_false_iff.2 h2)]; rfl) ?_
  refine W_rg [1, 5] ?_
  refine W_ret ?_
  refine KThen_r ?_
  refine KBody_ret [] ?_
  obtain rfl := Option.some.inj hm
  exact en
end Pam
