/- the walk of ref_Apply, printed by a program of ours -/
import Derived.Test.YtkdminbbajdjpaaBase3
import Derived.Test.YtkdminbbajdjpaaLoopRowsFun1
import Derived.Test.YtkdminbbajdjpaaLoopRowsWalk1
set_option linter.all false
namespace Pam
open Go Go.Proofs
set_option maxRecDepth 100000 in
set_option maxHeartbeats 1000000 in
theorem ref_Apply_ok (p1 : Int) (p2 : Int) (p3 : Int) (r : Int) (hm : ref_Apply p1 p2 p3 = some r) : SpecF Try.prog 87 [.c (.int .i64 p1), .c (.int .i64 p2), .c (.int .i64 p3)] (.c (.int .i64 r)) := by
 refine Spec_ofD 106 [.tmp 6] Try.func87 rfl rfl rfl (by kernel_rfl) (by simp) ?_
 refine W_eqf ?_
 unfold ref_Apply at hm
 refine W_rg [6] ?_
 refine W_rg [] ?_
 refine W_joinM (S := Bool) (V := Unit) [0, 1, 2, 6, 7, 8, 9, 10, 11, 12, 13, 14, 15, 16, 17, 18, 19, 20, 21, 22, 23, 24, 25, 26, 27, 28, 29, 30, 31, 32, 33, 34, 35, 36, 37, 38, 39, 40, 41, 42, 43, 44, 45, 46, 47, 48, 49, 50, 51, 52, 53, 54, 55, 56, 57, 58, 59, 60, 61, 62, 63, 64, 65, 66, 67, 68, 69, 70, 71, 72, 73, 74, 75, 76, 77, 78, 79, 80, 81, 82, 83, 84, 85, 86, 87, 88, 89, 90, 91, 92, 93, 94, 95, 96, 97, 98, 99, 100, 101, 102, 103, 104] (fun b1 _ => [(7, .c (.bool b1))]) (fun b1 _ => []) (fun b1 => ref_Apply_j1 b1 = some r) ?_ ?_
 ·skip
  refine W_rg [0] ?_
  refine W_block ?_
  refine W_rg [10] ?_
  by_cases h2 : p1 = 1
  ·rw [if_pos h2] at hm
   refine W_condt rfl (beq_iff_eq.2 h2) ?_
   refine W_rg [1, 2, 7, 8, 9, 11, 12, 13] ?_
   refine W_ret ?_
   refine KBlock_r ?_
   refine KJoinM_r ?_
   refine KBody_ret [] ?_
   obtain rfl := Option.some.inj hm
   exact en
  ·rw [if_neg h2] at hm
   refine W_condf rfl (beq_eq_false_iff_ne.2 h2) ?_
   refine W_rg [9, 15] ?_
   by_cases h3 : p1 = 2
   ·rw [if_pos h3] at hm
    refine W_condt rfl (beq_iff_eq.2 h3) ?_
    refine W_rg [1, 2, 7, 8, 14, 16, 17, 18] ?_
    refine W_ret ?_
    refine KBlock_r ?_
    refine KJoinM_r ?_
    refine KBody_ret [] ?_
    obtain rfl := Option.some.inj hm
    exact en
   ·rw [if_neg h3] at hm
    refine W_condf rfl (beq_eq_false_iff_ne.2 h3) ?_
    refine W_rg [14, 20] ?_
    by_cases h4 : p1 = 3
    ·rw [if_pos h4] at hm
     refine W_condt rfl (beq_iff_eq.2 h4) ?_
     refine W_rg [1, 2, 7, 8, 19, 21, 22, 23] ?_
     refine W_ret ?_
     refine KBlock_r ?_
     refine KJoinM_r ?_
     refine KBody_ret [] ?_
     obtain rfl := Option.some.inj hm
     exact en
    ·rw [if_neg h4] at hm
     refine W_condf rfl (beq_eq_false_iff_ne.2 h4) ?_
     refine W_rg [19, 25] ?_
     by_cases h5 : p1 = 13
     ·rw [if_pos h5] at hm
      refine W_condt rfl (beq_iff_eq.2 h5) ?_
      refine W_rg [1, 2, 7, 8, 24, 26, 27] ?_
      refine W_ret ?_
      refine KBlock_r ?_
      refine KJoinM_r ?_
      refine KBody_ret [] ?_
      obtain rfl := Option.some.inj hm
      exact en
     ·rw [if_neg h5] at hm
      refine W_condf rfl (beq_eq_false_iff_ne.2 h5) ?_
      refine W_rg [24, 29] ?_
      by_cases h6 : p1 = 4
      ·rw [if_pos h6] at hm
       refine W_condt rfl (beq_iff_eq.2 h6) ?_
       refine W_seq_k fun k2 hk2 => ?_
       refine W_rg [7, 8, 28, 30] ?_
       by_cases h7 : p3 = 0
       ·rw [if_pos h7] at hm
        refine W_condt rfl (beq_iff_eq.2 h7) ?_
        refine W_rg [1, 2, 31] ?_
        refine W_ret ?_
        refine KThen_r ?_
        refine KBlock_r ?_
        refine KJoinM_r ?_
        refine KBody_ret [] ?_
        obtain rfl := Option.some.inj hm
        exact en
       ·rw [if_neg h7] at hm
        refine W_condf rfl (beq_eq_false_iff_ne.2 h7) ?_
        refine W_skip ?_
        refine KThen_n (hk2 _ _ ?_)
        refine W_seq_k fun k3 hk3 => ?_
        refine W_rg [31, 32] ?_
        by_cases h8 : p3 = (-1)
        ·rw [if_pos h8] at hm
         refine W_condt rfl (beq_iff_eq.2 h8) ?_
         refine W_rg [1, 2, 33, 34, 35] ?_
         refine W_ret ?_
         refine KThen_r ?_
         refine KBlock_r ?_
         refine KJoinM_r ?_
         refine KBody_ret [] ?_
         obtain rfl := Option.some.inj hm
         exact en
        ·rw [if_neg h8] at hm
         refine W_condf rfl (beq_eq_false_iff_ne.2 h8) ?_
         refine W_skip ?_
         refine KThen_n (hk3 _ _ ?_)
         obtain ⟨hg9a, hm⟩ := gd hm
         refine W_rg [1, 2, 33, 36, 37, 38] ?_
         refine W_ret ?_
         refine KBlock_r ?_
         refine KJoinM_r ?_
         refine KBody_ret [] ?_
         obtain rfl := Option.some.inj hm
         exact en
      ·rw [if_neg h6] at hm
       refine W_condf rfl (beq_eq_false_iff_ne.2 h6) ?_
       refine W_rg [28, 40] ?_
       by_cases h10 : p1 = 5
       ·rw [if_pos h10] at hm
        refine W_condt rfl (beq_iff_eq.2 h10) ?_
        refine W_seq_k fun k4 hk4 => ?_
        by_cases h11 : p3 = 0
        ·rw [if_pos h11] at hm
         have h11b : (p3 == 0) = true := beq_iff_eq.2 h11
         refine W_rgx h11b [7, 8, 39, 41, 42, 43, 44, 45] ?_
         refine W_condt rfl rfl ?_
         refine W_rg [1, 2, 46] ?_
         refine W_ret ?_
         refine KThen_r ?_
         refine KBlock_r ?_
         refine KJoinM_r ?_
         refine KBody_ret [] ?_
         obtain rfl := Option.some.inj hm
         exact en
        ·rw [if_neg h11] at hm
         have h11b : (p3 == 0) = false := beq_eq_false_iff_ne.2 h11
         refine W_rgx h11b [7, 8, 39, 41, 42, 43, 44, 45] ?_
         by_cases h12 : p3 = (-1)
         ·rw [if_pos h12] at hm
          refine W_condt rfl (beq_iff_eq.2 h12) ?_
          refine W_rg [1, 2, 46] ?_
          refine W_ret ?_
          refine KThen_r ?_
          refine KBlock_r ?_
          refine KJoinM_r ?_
          refine KBody_ret [] ?_
          obtain rfl := Option.some.inj hm
          exact en
         ·rw [if_neg h12] at hm
          refine W_condf rfl (beq_eq_false_iff_ne.2 h12) ?_
          refine W_skip ?_
          refine KThen_n (hk4 _ _ ?_)
          obtain ⟨hg13a, hm⟩ := gd hm
          refine W_rg [1, 2, 46, 47, 48, 49, 50, 51, 52, 53] ?_
          refine W_ret ?_
          refine KBlock_r ?_
          refine KJoinM_r ?_
          refine KBody_ret [] ?_
          obtain rfl := Option.some.inj hm
          exact en
       ·rw [if_neg h10] at hm
        refine W_condf rfl (beq_eq_false_iff_ne.2 h10) ?_
        refine W_rg [39, 55] ?_
        by_cases h14 : p1 = 6
        ·rw [if_pos h14] at hm
         refine W_condt rfl (beq_iff_eq.2 h14) ?_
         refine W_seq_k fun k5 hk5 => ?_
         refine W_rg [7, 8, 54, 56, 57] ?_
         by_cases h15 : p3 < p2
         ·rw [if_pos h15] at hm
          refine W_condt rfl (decide_eq_true h15) ?_
          refine W_rg [1, 2, 58, 59] ?_
          refine W_ret ?_
          refine KThen_r ?_
          refine KBlock_r ?_
          refine KJoinM_r ?_
          refine KBody_ret [] ?_
          obtain rfl := Option.some.inj hm
          exact en
         ·rw [if_neg h15] at hm
          refine W_condf rfl (decide_eq_false h15) ?_
          refine W_skip ?_
          refine KThen_n (hk5 _ _ ?_)
          refine W_rg [1, 2, 58, 60] ?_
          refine W_ret ?_
          refine KBlock_r ?_
          refine KJoinM_r ?_
          refine KBody_ret [] ?_
          obtain rfl := Option.some.inj hm
          exact en
        ·rw [if_neg h14] at hm
         refine W_condf rfl (beq_eq_false_iff_ne.2 h14) ?_
         refine W_rg [54, 62] ?_
         by_cases h16 : p1 = 7
         ·rw [if_pos h16] at hm
          refine W_condt rfl (beq_iff_eq.2 h16) ?_
          refine W_seq_k fun k6 hk6 => ?_
          refine W_rg [7, 8, 61, 63, 64] ?_
          by_cases h17 : p3 > p2
          ·rw [if_pos h17] at hm
           refine W_condt rfl (decide_eq_true h17) ?_
           refine W_rg [1, 2, 65, 66] ?_
           refine W_ret ?_
           refine KThen_r ?_
           refine KBlock_r ?_
           refine KJoinM_r ?_
           refine KBody_ret [] ?_
           obtain rfl := Option.some.inj hm
           exact en
          ·rw [if_neg h17] at hm
           refine W_condf rfl (decide_eq_false h17) ?_
           refine W_skip ?_
           refine KThen_n (hk6 _ _ ?_)
           refine W_rg [1, 2, 65, 67] ?_
           refine W_ret ?_
           refine KBlock_r ?_
           refine KJoinM_r ?_
           refine KBody_ret [] ?_
           obtain rfl := Option.some.inj hm
           exact en
         ·rw [if_neg h16] at hm
          refine W_condf rfl (beq_eq_false_iff_ne.2 h16) ?_
          refine W_rg [61, 69] ?_
          by_cases h18 : p1 = 8
          ·rw [if_pos h18] at hm
           refine W_condt rfl (beq_iff_eq.2 h18) ?_
           refine W_rn ?_
           refine KBlock_n ?_
           refine KJoinM_n (decide (p2 < p3)) () hm ?_
           exact ls
          ·rw [if_neg h18] at hm
           refine W_condf rfl (beq_eq_false_iff_ne.2 h18) ?_
           refine W_rg [68, 74] ?_
           by_cases h19 : p1 = 9
           ·rw [if_pos h19] at hm
            refine W_condt rfl (beq_iff_eq.2 h19) ?_
            refine W_rn ?_
            refine KBlock_n ?_
            refine KJoinM_n (p2 == p3) () hm ?_
            exact ls
           ·rw [if_neg h19] at hm
            refine W_condf rfl (beq_eq_false_iff_ne.2 h19) ?_
            refine W_rg [73, 79] ?_
            by_cases h20 : p1 = 10
            ·rw [if_pos h20] at hm
             refine W_condt rfl (beq_iff_eq.2 h20) ?_
             by_cases h21 : ¬ p2 = 0
             ·rw [if_pos h21] at hm
              have h21b : (p2 != 0) = true := bne_iff_ne.2 h21
              refine W_rnx h21b ?_
              refine KBlock_n ?_
              refine KJoinM_n (p3 != 0) () hm ?_
              exact ls
             ·rw [if_neg h21] at hm
              have h21b : (p2 != 0) = false := bne_eq_false_iff_eq.2 (Decidable.not_not.1 h21)
              refine W_rnx h21b ?_
              refine KBlock_n ?_
              refine KJoinM_n false () hm ?_
              exact ls
            ·rw [if_neg h20] at hm
             refine W_condf rfl (beq_eq_false_iff_ne.2 h20) ?_
             refine W_rg [78, 87] ?_
             by_cases h22 : p1 = 11
             ·rw [if_pos h22] at hm
              refine W_condt rfl (beq_iff_eq.2 h22) ?_
              by_cases h23 : ¬ p2 = 0
              ·rw [if_pos h23] at hm
               have h23b : (p2 != 0) = true := bne_iff_ne.2 h23
               refine W_rnx h23b ?_
               refine KBlock_n ?_
               refine KJoinM_n true () hm ?_
               exact ls
              ·rw [if_neg h23] at hm
               have h23b : (p2 != 0) = false := bne_eq_false_iff_eq.2 (Decidable.not_not.1 h23)
               refine W_rnx h23b ?_
               refine KBlock_n ?_
               refine KJoinM_n (p3 != 0) () hm ?_
               exact ls
             ·rw [if_neg h22] at hm
              refine W_condf rfl (beq_eq_false_iff_ne.2 h22) ?_
              refine W_rg [86, 95] ?_
              by_cases h24 : p1 = 12
              ·rw [if_pos h24] at hm
               refine W_condt rfl (beq_iff_eq.2 h24) ?_
               refine W_rn ?_
               refine KBlock_n ?_
               refine KJoinM_n (!((p2 == 0) == (p3 == 0))) () hm ?_
               exact ls
              ·rw [if_neg h24] at hm
               refine W_condf rfl (beq_eq_false_iff_ne.2 h24) ?_
               refine W_rg [2, 8, 94, 102] ?_
               by_cases h25 : p1 = 14
               ·rw [if_pos h25] at hm
                refine W_condt rfl (beq_iff_eq.2 h25) ?_
                refine W_rn ?_
                refine KBlock_n ?_
                refine KJoinM_n (p2 == 0) () hm ?_
                exact ls
               ·rw [if_neg h25] at hm
                refine W_condf rfl (beq_eq_false_iff_ne.2 h25) ?_
                refine W_skip ?_
                refine KBlock_n ?_
                refine KJoinM_n false () hm ?_
                exact ls
 ·rintro b1 _ hm
  replace hm : ref_Apply_j1 b1 = some r := hm
  refine W_eqm ?_
  unfold ref_Apply_j1 at hm
  refine W_seq_k fun k1 hk1 => ?_
  refine W_rg [7] ?_
  by_cases h1 : b1 = true
  ·rw [if_pos h1] at hm
   refine W_condt rfl (h1) ?_
   refine W_rg [105] ?_
   refine W_ret ?_
   refine KThen_r ?_
   refine KBody_ret [] ?_
   obtain rfl := Option.some.inj hm
   exact en
  ·rw [if_neg h1] at hm
   refine W_condf rfl (Bool.eq_false_iff.2 h1) ?_
   refine W_skip ?_
   refine KThen_n (hk1 _ _ ?_)
   refine W_rg [105] ?_
   refine W_ret ?_
   refine KBody_ret [] ?_
   obtain rfl := Option.some.inj hm
   exact en
end Pam

/- the walk of ref_cellAt, printed by a program of ours -/
namespace Pam
open Go Go.Proofs
set_option maxRecDepth 100000 in
set_option maxHeartbeats 1000000 in
theorem ref_cellAt_ok (p1 : Nat) (p2 : Nat) (p3 : Int) (p4 : Int) (p5 : List Int) (v0_ : Nat) (r : Int) (hm : ref_cellAt p1 p2 p3 p4 p5 = some r) : Spec Try.prog 133 [.c (.osl 0 v0_ p2 p1), .c (.int .i64 p3), .c (.int .i64 p4)] [.arr 1 v0_ 2 (p5.map (eK .i64))] (fun p σ => (p = .c (.int .i64 r) ∧ σ = [.arr 1 v0_ 2 (p5.map (eK .i64))])) (fun _ _ => False) := by
 refine Spec_ofD 20 [.tmp 6] Try.func133 rfl rfl rfl (by kernel_rfl) (by simp) ?_
 refine W_eqf ?_
 unfold ref_cellAt at hm
 refine W_rg [6] ?_
 refine W_seq_k fun k1 hk1 => ?_
 by_cases h1 : p3 ≥ 0
 ·rw [if_pos h1] at hm
  have h1b : decide (p3 ≥ 0) = true := decide_eq_true h1
  refine W_rgx h1b [7, 8, 9, 10, 11, 12, 13] ?_
  by_cases h2 : p3 < (p1 : Int)
  ·rw [if_pos h2] at hm
   refine W_condt rfl (decide_eq_true h2) ?_
   obtain ⟨⟨hg3a, hg3b⟩, hm⟩ := gd hm
   refine W_rgx (em (eK .i64) p5 (p2 + p3.toNat)) [0, 1, 2, 14, 15, 16, 17, 18] ?_
   refine W_ret ?_
   refine KThen_r ?_
   refine KBody_ret [.arr 1 v0_ 2 (p5.map (eK .i64))] ?_
   obtain rfl := Option.some.inj hm
   exact en
  ·rw [if_neg h2] at hm
   refine W_condf rfl (decide_eq_false h2) ?_
   refine W_skip ?_
   refine KThen_n (hk1 _ _ ?_)
   refine W_rg [0, 1, 2, 14, 19] ?_
   refine W_ret ?_
   refine KBody_ret [.arr 1 v0_ 2 (p5.map (eK .i64))] ?_
   obtain rfl := Option.some.inj hm
   exact en
 ·rw [if_neg h1] at hm
  have h1b : decide (p3 ≥ 0) = false := decide_eq_false h1
  refine W_rgx h1b [7, 8, 9, 10, 11, 12, 13] ?_
  refine W_condf rfl rfl ?_
  refine W_skip ?_
  refine KThen_n (hk1 _ _ ?_)
  refine W_rg [0, 1, 2, 14, 19] ?_
  refine W_ret ?_
  refine KBody_ret [.arr 1 v0_ 2 (p5.map (eK .i64))] ?_
  obtain rfl := Option.some.inj hm
  exact en
end Pam

/- the walk of ref_Looping_part, printed by a program of ours -/
namespace Pam
open Go Go.Proofs
set_option maxRecDepth 100000 in
set_option maxHeartbeats 1000000 in
theorem ref_Looping_part_b_ok (rcf : (List TPush) → Int → Int → Int → (List Int) → (List Int) → (List TLoop) → (List Int) → Option (Int × Int)) (hrec : ∀ (p1 : List TPush) (p2 : Int) (p3 : Int) (p4 : Int) (p5 : List Int) (p6 : List Int) (p7 : List TLoop) (p8 : List Int) (v1_ : Nat) (r : (Int × Int)), rcf p1 p2 p3 p4 p5 p6 p7 p8 = some r → Spec Try.prog 119 [.c (.optr 0 0), .c (.tree 4 (p1.map TPush.enc)), .c (.int .i64 p2), .c (.int .i64 p3)] [.box [.int .i64 p4, .tree 1 (p5.map (eK .i64)), .tree 1 (p6.map (eK .i64)), .tree 6 (p7.map TLoop.enc), .osl 1 v1_ 0 p8.length], .arr 1 v1_ 2 (p8.map (eK .i64))] (fun p σ => (p = .t [.c (.int .i64 r.1), .c (.int .i64 r.2)] ∧ σ = [.box [.int .i64 p4, .tree 1 (p5.map (eK .i64)), .tree 1 (p6.map (eK .i64)), .tree 6 (p7.map TLoop.enc), .osl 1 v1_ 0 p8.length], .arr 1 v1_ 2 (p8.map (eK .i64))])) (fun _ _ => False)) (p1 : List TPush) (p2 : Int) (p3 : Int) (p4 : Int) (p5 : List Int) (p6 : List Int) (p7 : List TLoop) (p8 : List Int) (v1_ : Nat) (r : (Int × Int)) (hm : ref_Looping_part_b rcf p1 p2 p3 p4 p5 p6 p7 p8 = some r) : Spec Try.prog 119 [.c (.optr 0 0), .c (.tree 4 (p1.map TPush.enc)), .c (.int .i64 p2), .c (.int .i64 p3)] [.box [.int .i64 p4, .tree 1 (p5.map (eK .i64)), .tree 1 (p6.map (eK .i64)), .tree 6 (p7.map TLoop.enc), .osl 1 v1_ 0 p8.length], .arr 1 v1_ 2 (p8.map (eK .i64))] (fun p σ => (p = .t [.c (.int .i64 r.1), .c (.int .i64 r.2)] ∧ σ = [.box [.int .i64 p4, .tree 1 (p5.map (eK .i64)), .tree 1 (p6.map (eK .i64)), .tree 6 (p7.map TLoop.enc), .osl 1 v1_ 0 p8.length], .arr 1 v1_ 2 (p8.map (eK .i64))])) (fun _ _ => False) := by
 refine Spec_ofD 140 [.tmp 8, .tmp 9] Try.func119 rfl rfl rfl (by kernel_rfl) (by simp) ?_
 refine W_eqf ?_
 unfold ref_Looping_part_b at hm
 refine W_rg [8, 9] ?_
 obtain ⟨hg1a, hm⟩ := gd hm
 refine W_rgx (em TPush.enc p1 p2.toNat) [19, 20, 21, 22] ?_
 refine W_seq_k fun k1 hk1 => ?_
 refine W_rg [23] ?_
 refine W_block ?_
 refine W_rg [26] ?_
 by_cases h2 : ((p1.getD p2.toNat default).op) = 1
 ·rw [if_pos h2] at hm
  refine W_condt rfl (beq_iff_eq.2 h2) ?_
  refine W_rg [0, 1, 2, 3, 10, 24, 25, 27, 28, 29, 30] ?_
  refine W_ret ?_
  refine KBlock_r ?_
  refine KThen_r ?_
  refine KBody_ret [.box [.int .i64 p4, .tree 1 (p5.map (eK .i64)), .tree 1 (p6.map (eK .i64)), .tree 6 (p7.map TLoop.enc), .osl 1 v1_ 0 p8.length], .arr 1 v1_ 2 (p8.map (eK .i64))] ?_
  obtain rfl := Option.some.inj hm
  exact en
 ·rw [if_neg h2] at hm
  refine W_condf rfl (beq_eq_false_iff_ne.2 h2) ?_
  refine W_rg [25, 32] ?_
  by_cases h3 : ((p1.getD p2.toNat default).op) = 2
  ·rw [if_pos h3] at hm
   refine W_condt rfl (beq_iff_eq.2 h3) ?_
   obtain ⟨hg4a, hm⟩ := gd hm
   refine W_agx (em (eK .i64) p8 (((p1.getD p2.toNat default).v).toNat)) [0, 1, 2, 3, 10, 24, 31, 33, 34, 35, 36, 37, 38, 39, 40, 41, 42] [0, 1, 3, 7, 0, 16, 63, 127, 0, 256, 255, 2047] [false, false, false, false, false, false, false, false, false, false, false, true] ?_
   refine W_ret ?_
   refine KBlock_r ?_
   refine KThen_r ?_
   refine KBody_ret [.box [.int .i64 p4, .tree 1 (p5.map (eK .i64)), .tree 1 (p6.map (eK .i64)), .tree 6 (p7.map TLoop.enc), .osl 1 v1_ 0 p8.length], .arr 1 v1_ 2 (p8.map (eK .i64))] ?_
   obtain rfl := Option.some.inj hm
   exact en
  ·rw [if_neg h3] at hm
   refine W_condf rfl (beq_eq_false_iff_ne.2 h3) ?_
   refine W_rg [31, 44] ?_
   by_cases h5 : ((p1.getD p2.toNat default).op) = 3
   ·rw [if_pos h5] at hm
    refine W_condt rfl (beq_iff_eq.2 h5) ?_
    obtain ⟨hg6a, hm⟩ := gd hm
    refine W_agx (em (eK .i64) p8 ((IntKind.wrap .i64 (((p1.getD p2.toNat default).v) + p3)).toNat)) [0, 1, 2, 3, 10, 24, 43, 45, 46, 47, 48, 49, 50, 51, 52, 53, 54, 55, 56] [0, 1, 3, 7, 0, 16, 0, 112, 255, 511, 0, 1024, 1023, 8191] [false, false, false, false, false, false, false, false, false, false, false, false, false, true] ?_
    refine W_ret ?_
    refine KBlock_r ?_
    refine KThen_r ?_
    refine KBody_ret [.box [.int .i64 p4, .tree 1 (p5.map (eK .i64)), .tree 1 (p6.map (eK .i64)), .tree 6 (p7.map TLoop.enc), .osl 1 v1_ 0 p8.length], .arr 1 v1_ 2 (p8.map (eK .i64))] ?_
    obtain rfl := Option.some.inj hm
    exact en
   ·rw [if_neg h5] at hm
    refine W_condf rfl (beq_eq_false_iff_ne.2 h5) ?_
    refine W_rg [43, 58] ?_
    by_cases h7 : ((p1.getD p2.toNat default).op) = 4
    ·rw [if_pos h7] at hm
     refine W_condt rfl (beq_iff_eq.2 h7) ?_
     refine W_rg [0, 1, 2, 3, 10, 24, 57, 59, 60, 61, 62, 63, 64] ?_
     refine W_ret ?_
     refine KBlock_r ?_
     refine KThen_r ?_
     refine KBody_ret [.box [.int .i64 p4, .tree 1 (p5.map (eK .i64)), .tree 1 (p6.map (eK .i64)), .tree 6 (p7.map TLoop.enc), .osl 1 v1_ 0 p8.length], .arr 1 v1_ 2 (p8.map (eK .i64))] ?_
     obtain rfl := Option.some.inj hm
     exact en
    ·rw [if_neg h7] at hm
     refine W_condf rfl (beq_eq_false_iff_ne.2 h7) ?_
     refine W_rg [24, 57, 66] ?_
     by_cases h8 : ((p1.getD p2.toNat default).op) = 5
     ·rw [if_pos h8] at hm
      refine W_condt rfl (beq_iff_eq.2 h8) ?_
      refine W_regF [0, 1, 2, 3, 65, 67, 68, 69, 70, 71, 72, 73, 74, 75] fun k kp hk hp => ?_
      refine go ?_
      obtain ⟨y1, hc9, hm⟩ := bd hm
      refine RA (hrec p1 (IntKind.wrap .i64 (p2 - 1)) p3 p4 p5 p6 p7 p8 v1_ _ hc9) [0, 1] ?_
      rintro p σ' hq10 _
      obtain ⟨rfl, rfl⟩ := hq10
      refine RunRest_ops ?_
      refine go ?_
      refine hk _ _ ?_
      clear hk hp k kp
      refine W_regF [10, 11, 12, 76, 77, 78, 79, 80] fun k kp hk hp => ?_
      refine go ?_
      obtain ⟨y2, hc11, hm⟩ := bd hm
      refine RP (fun _ => ref_Apply_ok ((p1.getD p2.toNat default).k) y1.1 0 _ hc11) ?_
      refine RunRest_ops ?_
      refine go ?_
      refine hk _ _ ?_
      clear hk hp k kp
      refine W_ret ?_
      refine KBlock_r ?_
      refine KThen_r ?_
      refine KBody_ret [.box [.int .i64 p4, .tree 1 (p5.map (eK .i64)), .tree 1 (p6.map (eK .i64)), .tree 6 (p7.map TLoop.enc), .osl 1 v1_ 0 p8.length], .arr 1 v1_ 2 (p8.map (eK .i64))] ?_
      obtain rfl := Option.some.inj hm
      exact en
     ·rw [if_neg h8] at hm
      refine W_condf rfl (beq_eq_false_iff_ne.2 h8) ?_
      refine W_skip ?_
      refine KBlock_n ?_
      refine KThen_n (hk1 _ _ ?_)
      refine W_regF [2, 65, 81, 82, 83, 84, 85, 86, 87, 88, 89] fun k kp hk hp => ?_
      refine go ?_
      obtain ⟨y3, hc12, hm⟩ := bd hm
      refine RA (hrec p1 (IntKind.wrap .i64 (p2 - 1)) p3 p4 p5 p6 p7 p8 v1_ _ hc12) [0, 1] ?_
      rintro p σ' hq13 _
      obtain ⟨rfl, rfl⟩ := hq13
      refine RunRest_ops ?_
      refine go ?_
      refine hk _ _ ?_
      clear hk hp k kp
      refine W_regF [14, 90, 91, 92, 93, 94, 95, 96, 97] fun k kp hk hp => ?_
      refine go ?_
      obtain ⟨y4, hc14, hm⟩ := bd hm
      refine RA (hrec p1 y3.2 p3 p4 p5 p6 p7 p8 v1_ _ hc14) [0, 1] ?_
      rintro p σ' hq15 _
      obtain ⟨rfl, rfl⟩ := hq15
      refine RunRest_ops ?_
      refine go ?_
      refine hk _ _ ?_
      clear hk hp k kp
      refine W_seq_k fun k2 hk2 => ?_
      refine W_rg [98] ?_
      refine W_block ?_
      refine W_rg [101] ?_
      by_cases h16 : ((p1.getD p2.toNat default).op) = 6
      ·rw [if_pos h16] at hm
       refine W_condt rfl (beq_iff_eq.2 h16) ?_
       refine W_regF [0, 1, 3, 10, 13, 15, 16, 99, 100, 102, 103, 104, 105, 106, 107] fun k kp hk hp => ?_
       refine go ?_
       obtain ⟨y5, hc17, hm⟩ := bd hm
       refine RP (fun _ => ref_Apply_ok ((p1.getD p2.toNat default).k) y4.1 y3.1 _ hc17) ?_
       refine RunRest_ops ?_
       refine go ?_
       refine hk _ _ ?_
       clear hk hp k kp
       refine W_ret ?_
       refine KBlock_r ?_
       refine KThen_r ?_
       refine KBody_ret [.box [.int .i64 p4, .tree 1 (p5.map (eK .i64)), .tree 1 (p6.map (eK .i64)), .tree 6 (p7.map TLoop.enc), .osl 1 v1_ 0 p8.length], .arr 1 v1_ 2 (p8.map (eK .i64))] ?_
       obtain rfl := Option.some.inj hm
       exact en
      ·rw [if_neg h16] at hm
       refine W_condf rfl (beq_eq_false_iff_ne.2 h16) ?_
       refine W_rg [99, 100, 109] ?_
       by_cases h18 : ((p1.getD p2.toNat default).op) = 8
       ·rw [if_pos h18] at hm
        refine W_condt rfl (beq_iff_eq.2 h18) ?_
        obtain ⟨hg19a, hm⟩ := gd hm
        refine W_anyF [0, 1, 3, 10, 13, 15, 16, 108, 110, 111, 112, 113, 114, 115, 116, 117, 118, 119, 120, 121, 122, 123, 124, 125] (by kernel_rfl) [0, 1, 3, 7, 0, 16, 0, 64, 0, 256, 960, 2047, 0, 0, 16383, 0, 32767, 131071] [false, false, false, false, false, false, false, false, false, false, false, false, false, false, false, false, false, true] (by kernel_rfl) fun k hk => ?_
        refine ga ?_
        obtain ⟨y6, hc20, hm⟩ := bd hm
        refine AnyCall_at (σ2 := [.box [.int .i64 p4, .tree 1 (p5.map (eK .i64)), .tree 1 (p6.map (eK .i64)), .tree 6 (p7.map TLoop.enc), .osl 1 v1_ 0 p8.length], .arr 1 v1_ 2 (p8.map (eK .i64)), .box [.int .i64 ((p1.getD p2.toNat default).op), .int .i64 ((p1.getD p2.toNat default).k), .int .i64 ((p1.getD p2.toNat default).v), .int .i64 ((p1.getD p2.toNat default).n)]]) (res := .c (.int .i64 y6)) ⟨_, _, _, _, [1], ref_cellAt_ok (((IntKind.wrap .i64 (((p1.getD p2.toNat default).v) + ((p1.getD p2.toNat default).n))).toNat) - (((p1.getD p2.toNat default).v).toNat)) (((p1.getD p2.toNat default).v).toNat) y4.1 y3.1 p8 v1_ _ hc20, by simp, by simp, rfl, rfl, by first | trivial | (simp [bX, eK, eB, eS, eL, s_cap, psUnder, PV.under, CV.under, obsBelow, OB.under, cvsBelow]; done), by first | trivial | (simp [bX, eK, eB, eS, eL, s_cap, psUnder, PV.under, CV.under, obsBelow, OB.under, cvsBelow]; done), fun q τ hq _ => by obtain ⟨rfl, rfl⟩ := hq; exact ⟨rfl, rfl⟩, fun _ _ h => h.elim⟩ (by first | trivial | exact dst_ok rfl) (by first | trivial | (intro _; first | trivial | simp [need]) | simp [need]) (by first | exact .inl rfl | exact .inr (by simp only [extB]; and_intros <;> first | rfl | trivial)) ?_
        refine ga ?_
        refine hk _ _ ?_
        clear hk k
        refine W_ret ?_
        refine KBlock_r ?_
        refine KThen_r ?_
        refine KBody_ret [.box [.int .i64 p4, .tree 1 (p5.map (eK .i64)), .tree 1 (p6.map (eK .i64)), .tree 6 (p7.map TLoop.enc), .osl 1 v1_ 0 p8.length], .arr 1 v1_ 2 (p8.map (eK .i64))] ?_
        obtain rfl := Option.some.inj hm
        exact en
       ·rw [if_neg h18] at hm
        refine W_condf rfl (beq_eq_false_iff_ne.2 h18) ?_
        refine W_skip ?_
        refine KBlock_n ?_
        refine KThen_n (hk2 _ _ ?_)
        refine W_regF [0, 1, 3, 10, 16, 108, 126, 127, 128, 129, 130, 131, 132, 133] fun k kp hk hp => ?_
        refine go ?_
        obtain ⟨y7, hc21, hm⟩ := bd hm
        refine RA (hrec p1 y4.2 p3 p4 p5 p6 p7 p8 v1_ _ hc21) [0, 1] ?_
        rintro p σ' hq22 _
        obtain ⟨rfl, rfl⟩ := hq22
        refine RunRest_ops ?_
        refine go ?_
        refine hk _ _ ?_
        clear hk hp k kp
        refine W_seq_k fun k3 hk3 => ?_
        refine W_rg [17, 134] ?_
        by_cases h23 : ¬ y7.1 = 0
        ·rw [if_pos h23] at hm
         refine W_condt rfl (bne_iff_ne.2 h23) ?_
         refine W_rg [13, 15, 18, 135, 136, 137] ?_
         refine W_ret ?_
         refine KThen_r ?_
         refine KBody_ret [.box [.int .i64 p4, .tree 1 (p5.map (eK .i64)), .tree 1 (p6.map (eK .i64)), .tree 6 (p7.map TLoop.enc), .osl 1 v1_ 0 p8.length], .arr 1 v1_ 2 (p8.map (eK .i64))] ?_
         obtain rfl := Option.some.inj hm
         exact en
        ·rw [if_neg h23] at hm
         refine W_condf rfl (bne_eq_false_iff_eq.2 (Decidable.not_not.1 h23)) ?_
         refine W_skip ?_
         refine KThen_n (hk3 _ _ ?_)
         refine W_rg [13, 15, 18, 135, 138, 139] ?_
         refine W_ret ?_
         refine KBody_ret [.box [.int .i64 p4, .tree 1 (p5.map (eK .i64)), .tree 1 (p6.map (eK .i64)), .tree 6 (p7.map TLoop.enc), .osl 1 v1_ 0 p8.length], .arr 1 v1_ 2 (p8.map (eK .i64))] ?_
         obtain rfl := Option.some.inj hm
         exact en
theorem ref_Looping_part_ok (fuel : Nat) (p1 : List TPush) (p2 : Int) (p3 : Int) (p4 : Int) (p5 : List Int) (p6 : List Int) (p7 : List TLoop) (p8 : List Int) (v1_ : Nat) (r : (Int × Int)) (hm : ref_Looping_part fuel p1 p2 p3 p4 p5 p6 p7 p8 = some r) : Spec Try.prog 119 [.c (.optr 0 0), .c (.tree 4 (p1.map TPush.enc)), .c (.int .i64 p2), .c (.int .i64 p3)] [.box [.int .i64 p4, .tree 1 (p5.map (eK .i64)), .tree 1 (p6.map (eK .i64)), .tree 6 (p7.map TLoop.enc), .osl 1 v1_ 0 p8.length], .arr 1 v1_ 2 (p8.map (eK .i64))] (fun p σ => (p = .t [.c (.int .i64 r.1), .c (.int .i64 r.2)] ∧ σ = [.box [.int .i64 p4, .tree 1 (p5.map (eK .i64)), .tree 1 (p6.map (eK .i64)), .tree 6 (p7.map TLoop.enc), .osl 1 v1_ 0 p8.length], .arr 1 v1_ 2 (p8.map (eK .i64))])) (fun _ _ => False) := by
  have key : ∀ (n : Nat) (p1 : List TPush) (p2 : Int) (p3 : Int) (p4 : Int) (p5 : List Int) (p6 : List Int) (p7 : List TLoop) (p8 : List Int) (v1_ : Nat) (r : (Int × Int)), ref_Looping_part_k n p1 p2 p3 p4 p5 p6 p7 p8 = some r → Spec Try.prog 119 [.c (.optr 0 0), .c (.tree 4 (p1.map TPush.enc)), .c (.int .i64 p2), .c (.int .i64 p3)] [.box [.int .i64 p4, .tree 1 (p5.map (eK .i64)), .tree 1 (p6.map (eK .i64)), .tree 6 (p7.map TLoop.enc), .osl 1 v1_ 0 p8.length], .arr 1 v1_ 2 (p8.map (eK .i64))] (fun p σ => (p = .t [.c (.int .i64 r.1), .c (.int .i64 r.2)] ∧ σ = [.box [.int .i64 p4, .tree 1 (p5.map (eK .i64)), .tree 1 (p6.map (eK .i64)), .tree 6 (p7.map TLoop.enc), .osl 1 v1_ 0 p8.length], .arr 1 v1_ 2 (p8.map (eK .i64))])) (fun _ _ => False) := by
    intro n
    induction n with
    | zero =>
      intro p1 p2 p3 p4 p5 p6 p7 p8 v1_ r hm
      simp [ref_Looping_part_k] at hm
    | succ n ih =>
      intro p1 p2 p3 p4 p5 p6 p7 p8 v1_ r hm
      exact ref_Looping_part_b_ok (ref_Looping_part_k n) ih p1 p2 p3 p4 p5 p6 p7 p8 v1_ r hm
  exact key fuel p1 p2 p3 p4 p5 p6 p7 p8 v1_ r hm
end Pam

/- the walk of ref_Looping_tree, printed by a program of ours -/
namespace Pam
open Go Go.Proofs
set_option maxRecDepth 100000 in
set_option maxHeartbeats 1000000 in
theorem ref_Looping_tree_ok (fuel : Nat) (p1 : List TPush) (p2 : Int) (p3 : Int) (p4 : List Int) (p5 : List Int) (p6 : List TLoop) (p7 : List Int) (v1_ : Nat) (r : Int) (hm : ref_Looping_tree fuel p1 p2 p3 p4 p5 p6 p7 = some r) : Spec Try.prog 86 [.c (.optr 0 0), .c (.tree 4 (p1.map TPush.enc)), .c (.int .i64 p2)] [.box [.int .i64 p3, .tree 1 (p4.map (eK .i64)), .tree 1 (p5.map (eK .i64)), .tree 6 (p6.map TLoop.enc), .osl 1 v1_ 0 p7.length], .arr 1 v1_ 2 (p7.map (eK .i64))] (fun p σ => (p = .c (.int .i64 r) ∧ σ = [.box [.int .i64 p3, .tree 1 (p4.map (eK .i64)), .tree 1 (p5.map (eK .i64)), .tree 6 (p6.map TLoop.enc), .osl 1 v1_ 0 p7.length], .arr 1 v1_ 2 (p7.map (eK .i64))])) (fun _ _ => False) := by
 refine Spec_ofD 20 [.tmp 6] Try.func86 rfl rfl rfl (by kernel_rfl) (by simp) ?_
 refine W_eqf ?_
 unfold ref_Looping_tree at hm
 refine W_rg [6] ?_
 refine W_regF [0, 1, 2, 8, 9, 10, 11, 12, 13, 14, 15, 16, 17, 18] fun k kp hk hp => ?_
 refine go ?_
 obtain ⟨y1, hc1, hm⟩ := bd hm
 refine RA (ref_Looping_part_ok fuel p1 (IntKind.wrap .i64 ((p1.length : Int) - 1)) p2 p3 p4 p5 p6 p7 v1_ _ hc1) [0, 1] ?_
 rintro p σ' hq2 _
 obtain ⟨rfl, rfl⟩ := hq2
 refine RunRest_ops ?_
 refine go ?_
 refine hk _ _ ?_
 clear hk hp k kp
 refine W_rg [7, 19] ?_
 refine W_ret ?_
 refine KBody_ret [.box [.int .i64 p3, .tree 1 (p4.map (eK .i64)), .tree 1 (p5.map (eK .i64)), .tree 6 (p6.map TLoop.enc), .osl 1 v1_ 0 p7.length], .arr 1 v1_ 2 (p7.map (eK .i64))] ?_
 obtain rfl := Option.some.inj hm
 exact en
end Pam

/- the walk of ref_Looping_Row, printed by a program of ours -/
namespace Pam
open Go Go.Proofs
set_option maxRecDepth 100000 in
set_option maxHeartbeats 1000000 in
theorem ref_Looping_Row_ok (fuel : Nat) (p1 : List Int) (p2 : Int) (p3 : List Int) (p4 : List Int) (p5 : List TLoop) (p6 : List Int) (v1_ : Nat) (r : ((List Int) × (List Int))) (hm : ref_Looping_Row fuel p1 p2 p3 p4 p5 p6 = some r) : Spec Try.prog 40 [.c (.optr 0 0), .c (.tree 1 (p1.map (eK .i64)))] [.box [.int .i64 p2, .tree 1 (p3.map (eK .i64)), .tree 1 (p4.map (eK .i64)), .tree 6 (p5.map TLoop.enc), .osl 1 v1_ 0 p6.length], .arr 1 v1_ 2 (p6.map (eK .i64))] (fun p σ => (p = .c (.tree 1 (r.1.map (eK .i64))) ∧ σ = [.box [.int .i64 p2, .tree 1 (p3.map (eK .i64)), .tree 1 (p4.map (eK .i64)), .tree 6 (p5.map TLoop.enc), .osl 1 v1_ 0 r.2.length], .arr 1 v1_ 2 (r.2.map (eK .i64))])) (fun _ _ => False) := by
 refine Spec_ofD 162 [.tmp 4] Try.func40 rfl rfl rfl (by kernel_rfl) (by simp) ?_
 refine W_eqf ?_
 unfold ref_Looping_Row at hm
 refine W_rg [4] ?_
 refine W_joinM (S := (List Int)) (V := Unit) [1, 5, 13, 14, 15, 16, 17, 18, 19, 20, 21, 22, 23, 24, 25, 26, 27, 28, 29, 30, 31, 32, 33, 34, 35] (fun l2 _ => []) (fun l2 _ => [.box [.int .i64 p2, .tree 1 (p3.map (eK .i64)), .tree 1 (p4.map (eK .i64)), .tree 6 (p5.map TLoop.enc), .osl 1 v1_ 0 l2.length], .arr 1 v1_ 2 (l2.map (eK .i64))]) (fun l2 => ref_Looping_Row_j1 fuel p2 p3 p4 p5 l2 = some r) ?_ ?_
 ·skip
  refine W_rg [] ?_
  refine W_block ?_
  obtain ⟨o5, hl5, hm5⟩ := bd hm
  refine W_loopM (S := ((List Int) × Int)) (V := Unit) (O := (List Int)) [5, 13, 14, 15, 16, 17, 18, 19, 20, 21, 22, 23, 24, 25, 26, 27, 28, 29, 30, 31, 32, 33, 34, 35] (fun (l76, x77) _ => [(5, .c (.int .i64 x77))]) (fun (l76, x77) _ => [.box [.int .i64 p2, .tree 1 (p3.map (eK .i64)), .tree 1 (p4.map (eK .i64)), .tree 6 (p5.map TLoop.enc), .osl 1 v1_ 0 l76.length], .arr 1 v1_ 2 (l76.map (eK .i64))]) _ _ () hl5 ?_ ?_
  ·exact ls
  ·rintro ⟨l76, x77⟩ _ r5 hm hr5
   replace hm : ref_Looping_Row_l5 p1 p3 l76 x77 = some r5 := hm
   refine W_eqm ?_
   unfold ref_Looping_Row_l5 at hm
   refine W_seq_k fun k8 hk8 => ?_
   refine W_rg [13, 14, 15] ?_
   by_cases h25 : x77 < (p1.length : Int)
   ·rw [if_pos h25] at hm
    refine W_condt rfl (decide_eq_true h25) ?_
    refine W_skip ?_
    refine KThen_n (hk8 _ _ ?_)
    refine W_seq_k fun k9 hk9 => ?_
    refine W_block ?_
    obtain ⟨⟨hg26a, hg26b, hg26c⟩, hm⟩ := gd hm
    refine W_anx (a2 (em (eK .i64) p3 x77.toNat) (a2 (em (eK .i64) p1 x77.toNat) (em (eK .i64) l76 ((p3.getD x77.toNat default).toNat)))) [0, 1, 3, 7, 0, 16, 48, 112, 240, 0, 1008, 2032, 0, 0, 12288, 28672, 65535, 131071] [false, false, false, false, false, false, false, false, false, false, false, false, false, false, false, false, true, true] ?_
    refine KBlock_n ?_
    refine KThen_n (hk9 _ _ ?_)
    refine W_rn ?_
    refine KLoopM_n ((l76.set ((p3.getD x77.toNat default).toNat) (p1.getD x77.toNat default)), (IntKind.wrap .i64 (x77 + 1))) () hm ?_
    exact ls
   ·rw [if_neg h25] at hm
    refine W_condf rfl (decide_eq_false h25) ?_
    refine W_exit ?_
    have ho27 := out_eq hm hr5
    subst ho27
    replace hm : ref_Looping_Row_j1 fuel p2 p3 p4 p5 l76 = some r := hm5
    refine KThen_x ?_
    refine KLoopM_x ?_
    refine KBlock_hit ?_
    refine KJoinM_n l76 () hm ?_
    exact ls
 ·rintro l2 _ hm
  replace hm : ref_Looping_Row_j1 fuel p2 p3 p4 p5 l2 = some r := hm
  refine W_eqm ?_
  unfold ref_Looping_Row_j1 at hm
  refine W_joinM (S := (List Int)) (V := Unit) [6, 7, 8, 9, 10, 36, 37, 38, 39, 40, 41, 42, 43, 44, 45, 46, 47, 48, 49, 50, 51, 52, 53, 54, 55, 56, 57, 58, 59, 60, 61, 62, 63, 64, 65, 66, 67, 68, 69, 70, 71, 72, 73, 74, 75, 76, 77, 78, 79, 80, 81, 82, 83, 84, 85, 86, 87, 88, 89, 90, 91, 92, 93, 94, 95, 96, 97, 98, 99, 100, 101, 102, 103, 104, 105, 106, 107, 108, 109, 110, 111, 112, 113, 114, 115, 116, 117, 118, 119, 120, 121, 122, 123, 124, 125, 126, 127, 128, 129, 130, 131, 132, 133] (fun l4 _ => []) (fun l4 _ => [.box [.int .i64 p2, .tree 1 (p3.map (eK .i64)), .tree 1 (p4.map (eK .i64)), .tree 6 (p5.map TLoop.enc), .osl 1 v1_ 0 l4.length], .arr 1 v1_ 2 (l4.map (eK .i64))]) (fun l4 => ref_Looping_Row_j2 p4 l4 = some r) ?_ ?_
  ·skip
   refine W_rg [] ?_
   refine W_block ?_
   obtain ⟨o2, hl2, hm2⟩ := bd hm
   refine W_loopM (S := ((List Int) × Int)) (V := Unit) (O := (List Int)) [6, 7, 8, 9, 10, 36, 37, 38, 39, 40, 41, 42, 43, 44, 45, 46, 47, 48, 49, 50, 51, 52, 53, 54, 55, 56, 57, 58, 59, 60, 61, 62, 63, 64, 65, 66, 67, 68, 69, 70, 71, 72, 73, 74, 75, 76, 77, 78, 79, 80, 81, 82, 83, 84, 85, 86, 87, 88, 89, 90, 91, 92, 93, 94, 95, 96, 97, 98, 99, 100, 101, 102, 103, 104, 105, 106, 107, 108, 109, 110, 111, 112, 113, 114, 115, 116, 117, 118, 119, 120, 121, 122, 123, 124, 125, 126, 127, 128, 129, 130, 131, 132, 133] (fun (l32, x33) _ => [(6, .c (.int .i64 x33))]) (fun (l32, x33) _ => [.box [.int .i64 p2, .tree 1 (p3.map (eK .i64)), .tree 1 (p4.map (eK .i64)), .tree 6 (p5.map TLoop.enc), .osl 1 v1_ 0 l32.length], .arr 1 v1_ 2 (l32.map (eK .i64))]) _ _ () hl2 ?_ ?_
   ·exact ls
   ·rintro ⟨l32, x33⟩ _ r2 hm hr2
    replace hm : ref_Looping_Row_l2 fuel p2 p3 p4 p5 l32 x33 = some r2 := hm
    refine W_eqm ?_
    unfold ref_Looping_Row_l2 at hm
    refine W_seq_k fun k3 hk3 => ?_
    refine W_rg [36, 37, 38, 39, 40, 41, 42] ?_
    by_cases h4 : x33 < (p5.length : Int)
    ·rw [if_pos h4] at hm
     refine W_condt rfl (decide_eq_true h4) ?_
     refine W_skip ?_
     refine KThen_n (hk3 _ _ ?_)
     refine W_joinM (S := (List Int)) (V := Unit) [7, 8, 9, 10, 43, 46, 47, 48, 49, 50, 51, 52, 53, 54, 55, 56, 57, 58, 59, 60, 61, 62, 63, 64, 65, 66, 67, 68, 69, 70, 71, 72, 73, 74, 75, 76, 77, 78, 79, 80, 81, 82, 83, 84, 85, 86, 87, 88, 89, 90, 91, 92, 93, 94, 95, 96, 97, 98, 99, 100, 101, 102, 103, 104, 105, 106, 107, 108, 109, 110, 111, 112, 113, 114, 115, 116, 117, 118, 119, 120, 121, 122, 123, 124, 125, 126, 127, 128, 129, 130, 131, 132, 133] (fun l35 _ => []) (fun l35 _ => [.box [.int .i64 p2, .tree 1 (p3.map (eK .i64)), .tree 1 (p4.map (eK .i64)), .tree 6 (p5.map TLoop.enc), .osl 1 v1_ 0 l35.length], .arr 1 v1_ 2 (l35.map (eK .i64))]) (fun l35 => ref_Looping_Row_j4 x33 l35 = some r2) ?_ ?_
     ·skip
      refine W_block ?_
      obtain ⟨hg5a, hm⟩ := gd hm
      refine W_rgx (em TLoop.enc p5 x33.toNat) [43, 46, 47, 48, 49, 50, 51, 52, 53] ?_
      refine W_rg [54] ?_
      refine W_block ?_
      refine W_rg [100] ?_
      by_cases h6 : ((p5.getD x33.toNat default).op) = 1
      ·rw [if_pos h6] at hm
       refine W_condt rfl (beq_iff_eq.2 h6) ?_
       refine W_any (by kernel_rfl) [0, 1, 3, 7, 0, 16, 0, 0, 128, 448, 1023, 2047] [false, false, false, false, false, false, false, false, false, false, true, true] (by kernel_rfl) fun k hk => ?_
       refine ga ?_
       obtain ⟨y36, hc7, hm⟩ := bd hm
       refine AnyCall_at (σ2 := [.box [.int .i64 p2, .tree 1 (p3.map (eK .i64)), .tree 1 (p4.map (eK .i64)), .tree 6 (p5.map TLoop.enc), .osl 1 v1_ 0 l32.length], .arr 1 v1_ 2 (l32.map (eK .i64)), .box [.int .i64 ((p5.getD x33.toNat default).op), .int .i64 ((p5.getD x33.toNat default).k), .int .i64 ((p5.getD x33.toNat default).n), .int .i64 ((p5.getD x33.toNat default).to), .tree 4 (((p5.getD x33.toNat default).f).map TPush.enc), .tree 4 (((p5.getD x33.toNat default).e).map TPush.enc)]]) (res := .c (.int .i64 y36)) ⟨_, _, _, _, [0, 1], ref_Looping_tree_ok fuel ((p5.getD x33.toNat default).e) 0 p2 p3 p4 p5 l32 v1_ _ hc7, by simp, by simp, rfl, rfl, by first | trivial | (simp [bX, eK, eB, eS, eL, s_cap, psUnder, PV.under, CV.under, obsBelow, OB.under, cvsBelow]; done), by first | trivial | (simp [bX, eK, eB, eS, eL, s_cap, psUnder, PV.under, CV.under, obsBelow, OB.under, cvsBelow]; done), fun q τ hq _ => by obtain ⟨rfl, rfl⟩ := hq; exact ⟨rfl, rfl⟩, fun _ _ h => h.elim⟩ (by first | trivial | exact dst_ok rfl) (by first | trivial | (intro _; first | trivial | simp [need]) | simp [need]) (by first | exact .inl rfl | exact .inr (by simp only [extB]; and_intros <;> first | rfl | trivial)) ?_
       obtain ⟨hg8a, hm⟩ := gd hm
       refine gax (em (eK .i64) l32 (((p5.getD x33.toNat default).to).toNat)) ?_
       refine hk _ _ ?_
       clear hk k
       refine KBlock_n ?_
       refine KBlock_n ?_
       refine KJoinM_n (l32.set (((p5.getD x33.toNat default).to).toNat) y36) () hm ?_
       exact ls
      ·rw [if_neg h6] at hm
       refine W_condf rfl (beq_eq_false_iff_ne.2 h6) ?_
       refine W_rg [55, 99, 113] ?_
       by_cases h9 : ((p5.getD x33.toNat default).op) = 2
       ·rw [if_pos h9] at hm
        refine W_condt rfl (beq_iff_eq.2 h9) ?_
        refine W_rg [112] ?_
        refine W_block ?_
        obtain ⟨o3, hl3, hm3⟩ := bd hm
        refine W_loopM (S := ((List Int) × Int)) (V := Unit) (O := (List Int)) [8, 114, 115, 116, 117, 118, 119, 120, 121, 122, 123, 124, 125, 126, 127, 128, 129, 130, 131, 132, 133] (fun (l44, x45) _ => [(8, .c (.int .i64 x45))]) (fun (l44, x45) _ => [.box [.int .i64 p2, .tree 1 (p3.map (eK .i64)), .tree 1 (p4.map (eK .i64)), .tree 6 (p5.map TLoop.enc), .osl 1 v1_ 0 l44.length], .arr 1 v1_ 2 (l44.map (eK .i64)), .box [.int .i64 ((p5.getD x33.toNat default).op), .int .i64 ((p5.getD x33.toNat default).k), .int .i64 ((p5.getD x33.toNat default).n), .int .i64 ((p5.getD x33.toNat default).to), .tree 4 (((p5.getD x33.toNat default).f).map TPush.enc), .tree 4 (((p5.getD x33.toNat default).e).map TPush.enc)]]) _ _ () hl3 ?_ ?_
        ·exact ls
        ·rintro ⟨l44, x45⟩ _ r3 hm hr3
         replace hm : ref_Looping_Row_l3 fuel p2 p3 p4 p5 x33 l44 x45 = some r3 := hm
         refine W_eqm ?_
         unfold ref_Looping_Row_l3 at hm
         refine W_seq_k fun k4 hk4 => ?_
         refine W_rg [114, 115, 116] ?_
         by_cases h10 : x45 < ((p5.getD x33.toNat default).n)
         ·rw [if_pos h10] at hm
          refine W_condt rfl (decide_eq_true h10) ?_
          refine W_skip ?_
          refine KThen_n (hk4 _ _ ?_)
          refine W_seq_k fun k5 hk5 => ?_
          refine W_block ?_
          refine W_any (by kernel_rfl) [0, 1, 3, 7, 0, 16, 0, 112, 0, 0, 512, 0, 3840, 8191, 16383] [false, false, false, false, false, false, false, false, false, false, false, false, false, true, true] (by kernel_rfl) fun k hk => ?_
          refine ga ?_
          obtain ⟨y46, hc11, hm⟩ := bd hm
          refine AnyCall_at (σ2 := [.box [.int .i64 p2, .tree 1 (p3.map (eK .i64)), .tree 1 (p4.map (eK .i64)), .tree 6 (p5.map TLoop.enc), .osl 1 v1_ 0 l44.length], .arr 1 v1_ 2 (l44.map (eK .i64)), .box [.int .i64 ((p5.getD x33.toNat default).op), .int .i64 ((p5.getD x33.toNat default).k), .int .i64 ((p5.getD x33.toNat default).n), .int .i64 ((p5.getD x33.toNat default).to), .tree 4 (((p5.getD x33.toNat default).f).map TPush.enc), .tree 4 (((p5.getD x33.toNat default).e).map TPush.enc)]]) (res := .c (.int .i64 y46)) ⟨_, _, _, _, [0, 1], ref_Looping_tree_ok fuel ((p5.getD x33.toNat default).e) x45 p2 p3 p4 p5 l44 v1_ _ hc11, by simp, by simp, rfl, rfl, by first | trivial | (simp [bX, eK, eB, eS, eL, s_cap, psUnder, PV.under, CV.under, obsBelow, OB.under, cvsBelow]; done), by first | trivial | (simp [bX, eK, eB, eS, eL, s_cap, psUnder, PV.under, CV.under, obsBelow, OB.under, cvsBelow]; done), fun q τ hq _ => by obtain ⟨rfl, rfl⟩ := hq; exact ⟨rfl, rfl⟩, fun _ _ h => h.elim⟩ (by first | trivial | exact dst_ok rfl) (by first | trivial | (intro _; first | trivial | simp [need]) | simp [need]) (by first | exact .inl rfl | exact .inr (by simp only [extB]; and_intros <;> first | rfl | trivial)) ?_
          obtain ⟨hg12a, hm⟩ := gd hm
          refine gax (em (eK .i64) l44 ((IntKind.wrap .i64 (((p5.getD x33.toNat default).to) + x45)).toNat)) ?_
          refine hk _ _ ?_
          clear hk k
          refine KBlock_n ?_
          refine KThen_n (hk5 _ _ ?_)
          refine W_rn ?_
          refine KLoopM_n ((l44.set ((IntKind.wrap .i64 (((p5.getD x33.toNat default).to) + x45)).toNat) y46), (IntKind.wrap .i64 (x45 + 1))) () hm ?_
          exact ls
         ·rw [if_neg h10] at hm
          refine W_condf rfl (decide_eq_false h10) ?_
          refine W_exit ?_
          have ho13 := out_eq hm hr3
          subst ho13
          replace hm : ref_Looping_Row_j4 x33 l44 = some r2 := hm3
          refine KThen_x ?_
          refine KLoopM_x ?_
          refine KBlock_hit ?_
          refine KBlock_n ?_
          refine KBlock_n ?_
          refine KJoinM_n l44 () hm ?_
          exact ls
       ·rw [if_neg h9] at hm
        refine W_condf rfl (beq_eq_false_iff_ne.2 h9) ?_
        refine W_regF [56, 57, 58, 59, 112] fun k kp hk hp => ?_
        refine go ?_
        obtain ⟨y48, hc14, hm⟩ := bd hm
        refine RA (ref_Looping_tree_ok fuel ((p5.getD x33.toNat default).f) 0 p2 p3 p4 p5 l32 v1_ _ hc14) [0, 1] ?_
        rintro p σ' hq15 _
        obtain ⟨rfl, rfl⟩ := hq15
        refine RunRest_ops ?_
        refine go ?_
        refine hk _ _ ?_
        clear hk hp k kp
        refine W_joinM (S := ((List Int) × Int)) (V := Unit) [9, 10, 60, 61, 62, 63, 64, 65, 66, 67, 68, 69, 70, 71, 72, 73, 74, 75, 76, 77, 78, 79, 80, 81, 82, 83, 84, 85, 86, 87] (fun (l50, x51) _ => [(9, .c (.int .i64 x51))]) (fun (l50, x51) _ => [.box [.int .i64 p2, .tree 1 (p3.map (eK .i64)), .tree 1 (p4.map (eK .i64)), .tree 6 (p5.map TLoop.enc), .osl 1 v1_ 0 l50.length], .arr 1 v1_ 2 (l50.map (eK .i64)), .box [.int .i64 ((p5.getD x33.toNat default).op), .int .i64 ((p5.getD x33.toNat default).k), .int .i64 ((p5.getD x33.toNat default).n), .int .i64 ((p5.getD x33.toNat default).to), .tree 4 (((p5.getD x33.toNat default).f).map TPush.enc), .tree 4 (((p5.getD x33.toNat default).e).map TPush.enc)]]) (fun (l50, x51) => ref_Looping_Row_j5 p5 x33 l50 x51 = some r2) ?_ ?_
        ·skip
         refine W_rg [] ?_
         refine W_block ?_
         obtain ⟨o4, hl4, hm4⟩ := bd hm
         refine W_loopM (S := ((List Int) × Int × Int)) (V := Unit) (O := ((List Int) × Int)) [9, 10, 60, 61, 62, 63, 64, 65, 66, 67, 68, 69, 70, 71, 72, 73, 74, 75, 76, 77, 78, 79, 80, 81, 82, 83, 84, 85, 86, 87] (fun (l61, x62, x63) _ => [(9, .c (.int .i64 x62)), (10, .c (.int .i64 x63))]) (fun (l61, x62, x63) _ => [.box [.int .i64 p2, .tree 1 (p3.map (eK .i64)), .tree 1 (p4.map (eK .i64)), .tree 6 (p5.map TLoop.enc), .osl 1 v1_ 0 l61.length], .arr 1 v1_ 2 (l61.map (eK .i64)), .box [.int .i64 ((p5.getD x33.toNat default).op), .int .i64 ((p5.getD x33.toNat default).k), .int .i64 ((p5.getD x33.toNat default).n), .int .i64 ((p5.getD x33.toNat default).to), .tree 4 (((p5.getD x33.toNat default).f).map TPush.enc), .tree 4 (((p5.getD x33.toNat default).e).map TPush.enc)]]) _ _ () hl4 ?_ ?_
         ·exact ls
         ·rintro ⟨l61, x62, x63⟩ _ r4 hm hr4
          replace hm : ref_Looping_Row_l4 fuel p2 p3 p4 p5 x33 l61 x62 x63 = some r4 := hm
          refine W_eqm ?_
          unfold ref_Looping_Row_l4 at hm
          refine W_seq_k fun k6 hk6 => ?_
          refine W_rg [60, 61, 62] ?_
          by_cases h18 : x63 < ((p5.getD x33.toNat default).n)
          ·rw [if_pos h18] at hm
           refine W_condt rfl (decide_eq_true h18) ?_
           refine W_skip ?_
           refine KThen_n (hk6 _ _ ?_)
           refine W_seq_k fun k7 hk7 => ?_
           refine W_block ?_
           refine W_anyF [63, 66, 67, 68, 69, 70, 71, 72, 73, 74] (by kernel_rfl) [0, 1, 0, 0, 0, 16, 0, 120, 255, 511] [false, false, false, false, false, false, false, false, true, true] (by kernel_rfl) fun k hk => ?_
           refine ga ?_
           obtain ⟨y64, hc19, hm⟩ := bd hm
           refine AnyCall_at (σ2 := [.box [.int .i64 p2, .tree 1 (p3.map (eK .i64)), .tree 1 (p4.map (eK .i64)), .tree 6 (p5.map TLoop.enc), .osl 1 v1_ 0 l61.length], .arr 1 v1_ 2 (l61.map (eK .i64)), .box [.int .i64 ((p5.getD x33.toNat default).op), .int .i64 ((p5.getD x33.toNat default).k), .int .i64 ((p5.getD x33.toNat default).n), .int .i64 ((p5.getD x33.toNat default).to), .tree 4 (((p5.getD x33.toNat default).f).map TPush.enc), .tree 4 (((p5.getD x33.toNat default).e).map TPush.enc)]]) (res := .c (.int .i64 y64)) ⟨_, _, _, _, [0, 1], ref_Looping_tree_ok fuel ((p5.getD x33.toNat default).e) x63 p2 p3 p4 p5 l61 v1_ _ hc19, by simp, by simp, rfl, rfl, by first | trivial | (simp [bX, eK, eB, eS, eL, s_cap, psUnder, PV.under, CV.under, obsBelow, OB.under, cvsBelow]; done), by first | trivial | (simp [bX, eK, eB, eS, eL, s_cap, psUnder, PV.under, CV.under, obsBelow, OB.under, cvsBelow]; done), fun q τ hq _ => by obtain ⟨rfl, rfl⟩ := hq; exact ⟨rfl, rfl⟩, fun _ _ h => h.elim⟩ (by first | trivial | exact dst_ok rfl) (by first | trivial | (intro _; first | trivial | simp [need]) | simp [need]) (by first | exact .inl rfl | exact .inr (by simp only [extB]; and_intros <;> first | rfl | trivial)) ?_
           refine ga ?_
           obtain ⟨y65, hc20, hm⟩ := bd hm
           refine AP (fun _ => ref_Apply_ok ((p5.getD x33.toNat default).k) x62 y64 _ hc20) ?_
           refine ga ?_
           refine hk _ _ ?_
           clear hk k
           refine W_rg [75, 76] ?_
           by_cases h21 : ((p5.getD x33.toNat default).op) = 4
           ·rw [if_pos h21] at hm
            refine W_condt rfl (beq_iff_eq.2 h21) ?_
            obtain ⟨hg22a, hm⟩ := gd hm
            refine W_anx (em (eK .i64) l61 ((IntKind.wrap .i64 (((p5.getD x33.toNat default).to) + x63)).toNat)) [0, 1, 3, 7, 0, 16, 0, 112, 0, 511, 1023] [false, false, false, false, false, false, false, false, false, true, true] ?_
            refine KBlock_n ?_
            refine KThen_n (hk7 _ _ ?_)
            refine W_rn ?_
            refine KLoopM_n ((l61.set ((IntKind.wrap .i64 (((p5.getD x33.toNat default).to) + x63)).toNat) y65), y65, (IntKind.wrap .i64 (x63 + 1))) () hm ?_
            exact ls
           ·rw [if_neg h21] at hm
            refine W_condf rfl (beq_eq_false_iff_ne.2 h21) ?_
            refine W_skip ?_
            refine KBlock_n ?_
            refine KThen_n (hk7 _ _ ?_)
            refine W_rn ?_
            refine KLoopM_n (l61, y65, (IntKind.wrap .i64 (x63 + 1))) () hm ?_
            exact ls
          ·rw [if_neg h18] at hm
           refine W_condf rfl (decide_eq_false h18) ?_
           refine W_exit ?_
           have ho23 := out_eq hm hr4
           subst ho23
           replace hm : ref_Looping_Row_j5 p5 x33 l61 x62 = some r2 := hm4
           refine KThen_x ?_
           refine KLoopM_x ?_
           refine KBlock_hit ?_
           refine KJoinM_n (l61, x62) () hm ?_
           exact ls
        ·rintro ⟨l50, x51⟩ _ hm
         replace hm : ref_Looping_Row_j5 p5 x33 l50 x51 = some r2 := hm
         refine W_eqm ?_
         unfold ref_Looping_Row_j5 at hm
         refine W_rg [88, 89] ?_
         by_cases h16 : ((p5.getD x33.toNat default).op) = 3
         ·rw [if_pos h16] at hm
          refine W_condt rfl (beq_iff_eq.2 h16) ?_
          obtain ⟨hg17a, hm⟩ := gd hm
          refine W_anx (em (eK .i64) l50 (((p5.getD x33.toNat default).to).toNat)) [0, 1, 3, 7, 0, 16, 0, 127, 255] [false, false, false, false, false, false, false, true, true] ?_
          refine KBlock_n ?_
          refine KBlock_n ?_
          refine KJoinM_n (l50.set (((p5.getD x33.toNat default).to).toNat) x51) () hm ?_
          exact ls
         ·rw [if_neg h16] at hm
          refine W_condf rfl (beq_eq_false_iff_ne.2 h16) ?_
          refine W_skip ?_
          refine KBlock_n ?_
          refine KBlock_n ?_
          refine KJoinM_n l50 () hm ?_
          exact ls
     ·rintro l35 _ hm
      replace hm : ref_Looping_Row_j4 x33 l35 = some r2 := hm
      refine W_eqm ?_
      unfold ref_Looping_Row_j4 at hm
      refine W_rn ?_
      refine KLoopM_n (l35, (IntKind.wrap .i64 (x33 + 1))) () hm ?_
      exact ls
    ·rw [if_neg h4] at hm
     refine W_condf rfl (decide_eq_false h4) ?_
     refine W_exit ?_
     have ho24 := out_eq hm hr2
     subst ho24
     replace hm : ref_Looping_Row_j2 p4 l32 = some r := hm2
     refine KThen_x ?_
     refine KLoopM_x ?_
     refine KBlock_hit ?_
     refine KJoinM_n l32 () hm ?_
     exact ls
  ·rintro l4 _ hm
   replace hm : ref_Looping_Row_j2 p4 l4 = some r := hm
   refine W_eqm ?_
   unfold ref_Looping_Row_j2 at hm
   refine W_rg [] ?_
   refine W_ghost (Ghost_nil 11 1 2 (by decide) rfl (Nat.le_of_ble_eq_true rfl)) ?_
   refine W_eql ?_
   refine W_joinM (S := (List Int)) (V := Nat) [0, 11, 12, 134, 135, 136, 137, 138, 139, 140, 141, 142, 143, 144, 145, 146, 147, 148, 149, 150, 151, 152, 153, 154, 155, 156, 157, 158, 159, 160] (fun l7 v8 => [(11, .c (.osl 2 v8 0 l7.length))]) (fun l7 v8 => [.box [.int .i64 p2, .tree 1 (p3.map (eK .i64)), .tree 1 (p4.map (eK .i64)), .tree 6 (p5.map TLoop.enc), .osl 1 v1_ 0 l4.length], .arr 1 v1_ 2 (l4.map (eK .i64)), .arr 1 v8 2 (l7.map (eK .i64))]) (fun l7 => ref_Looping_Row_j3 l4 l7 = some r) ?_ ?_
   ·skip
    refine W_rg [] ?_
    refine W_block ?_
    obtain ⟨o1, hl1, hm1⟩ := bd hm
    refine W_loopM (S := ((List Int) × Int)) (V := Nat) (O := (List Int)) [11, 12, 134, 135, 136, 137, 138, 139, 140, 141, 142, 143, 144, 145, 146, 147, 148, 149, 150, 151, 152, 153, 154, 155, 156, 157, 158, 159, 160] (fun (l21, x23) v22 => [(11, .c (.osl 2 v22 0 l21.length)), (12, .c (.int .i64 x23))]) (fun (l21, x23) v22 => [.box [.int .i64 p2, .tree 1 (p3.map (eK .i64)), .tree 1 (p4.map (eK .i64)), .tree 6 (p5.map TLoop.enc), .osl 1 v1_ 0 l4.length], .arr 1 v1_ 2 (l4.map (eK .i64)), .arr 1 v22 2 (l21.map (eK .i64))]) _ _ 0 hl1 ?_ ?_
    ·exact ls
    ·rintro ⟨l21, x23⟩ v22 r1 hm hr1
     replace hm : ref_Looping_Row_l1 p4 l4 l21 x23 = some r1 := hm
     refine W_eqm ?_
     unfold ref_Looping_Row_l1 at hm
     refine W_seq_k fun k1 hk1 => ?_
     refine W_rg [134, 135, 136, 137, 138, 139, 140] ?_
     by_cases h1 : x23 < (p4.length : Int)
     ·rw [if_pos h1] at hm
      refine W_condt rfl (decide_eq_true h1) ?_
      refine W_skip ?_
      refine KThen_n (hk1 _ _ ?_)
      refine W_seq_k fun k2 hk2 => ?_
      refine W_block ?_
      obtain ⟨⟨hg2a, hg2b, ⟨hg2cx, hg2cy⟩⟩, hm⟩ := gd hm
      refine W_anx (a2 (em (eK .i64) p4 x23.toNat) (em (eK .i64) l4 ((p4.getD x23.toNat default).toNat))) [0, 0, 2, 6, 14, 0, 32, 96, 224, 480, 0, 2016, 4064, 8190, 16382, 32766, 65535, 131071] [false, false, false, false, false, false, false, false, false, false, false, false, false, false, false, false, true, true] ?_
      refine KBlock_n ?_
      refine KThen_n (hk2 _ _ ?_)
      refine W_rn ?_
      refine KLoopM_n ((l21 ++ (lit ([(l4.getD ((p4.getD x23.toNat default).toNat) default)] : List Int))), (IntKind.wrap .i64 (x23 + 1))) (v22 + 1) hm ?_
      exact ls
     ·rw [if_neg h1] at hm
      refine W_condf rfl (decide_eq_false h1) ?_
      refine W_exit ?_
      have ho3 := out_eq hm hr1
      subst ho3
      replace hm : ref_Looping_Row_j3 l4 l21 = some r := hm1
      refine KThen_x ?_
      refine KLoopM_x ?_
      refine KBlock_hit ?_
      refine KJoinM_n l21 v22 hm ?_
      exact ls
   ·rintro l7 v8 hm
    replace hm : ref_Looping_Row_j3 l4 l7 = some r := hm
    refine W_eqm ?_
    unfold ref_Looping_Row_j3 at hm
    refine W_rg [11, 161] ?_
    refine W_gh (Ghost_fr 2 rfl) ?_
    refine W_ret ?_
    refine KBody_ret [.box [.int .i64 p2, .tree 1 (p3.map (eK .i64)), .tree 1 (p4.map (eK .i64)), .tree 6 (p5.map TLoop.enc), .osl 1 v1_ 0 l4.length], .arr 1 v1_ 2 (l4.map (eK .i64))] ?_
    obtain rfl := Option.some.inj hm
    exact en
end Pam

/- the walk of slices_Clone_int64_int64, printed by a program of ours -/
namespace Pam
open Go Go.Proofs
set_option maxRecDepth 100000 in
set_option maxHeartbeats 1000000 in
theorem slices_Clone_int64_int64_ok (p1 : List Int) (v0_ : Nat) (r : (List Int)) (hm : slices_Clone_int64_int64 p1 = some r) : Spec Try.prog 88 [.c (.osl 0 v0_ 0 p1.length)] [.arr 1 v0_ 2 (p1.map (eK .i64))] (fun p σ => (p = .c (.osl 1 1 0 r.length) ∧ σ = [.arr 1 v0_ 2 (p1.map (eK .i64)), .arr 1 1 2 (r.map (eK .i64))])) (fun _ _ => False) := by
 refine Spec_ofD 8 [.tmp 2] Try.func88 rfl rfl rfl (by kernel_rfl) (by simp) ?_
 refine W_eqf ?_
 unfold slices_Clone_int64_int64 at hm
 refine W_rg [2] ?_
 refine W_seq_k fun k1 hk1 => ?_
 by_cases h1 : p1.length = 0
 ·rw [if_pos h1] at hm
  refine W_nilcaseO 0 rfl h1 rfl ?_ ?_
  ·refine W_eqn ?_
   refine W_rg [3] ?_
   refine W_condt rfl rfl ?_
   refine W_rg [0, 4] ?_
   refine W_ghost (Ghost_nil 2 1 2 (by decide) rfl (Nat.le_of_ble_eq_true rfl)) ?_
   refine W_eql ?_
   refine W_ghost (Ghost_new 1 2 (by decide)) ?_
   simp only [bZ, bL, reduceIte, ↓reduceIte, reduceCtorEq, Int.reduceToNat, Nat.reduceDiv, Nat.reduceMod, Nat.reduceLT, Nat.reduceLeDiff, Nat.reduceAdd, Nat.reduceSub, Nat.reduceMul, Nat.reduceEqDiff, Nat.reduceBEq, Nat.reduceBNe, Nat.reduceGT, List.length_cons, List.length_nil, List.length_append, List.cons_append, List.nil_append]
   refine W_gh (Ghost_mv 2 1 (by decide) rfl rfl) ?_
   refine W_gh (Ghost_dn 1 2 (by decide) (Nat.le_of_ble_eq_true rfl) (Nat.le_of_ble_eq_true rfl) rfl rfl) ?_
   refine W_ret ?_
   refine KThen_r ?_
   refine KBody_ret [.arr 1 v0_ 2 (p1.map (eK .i64)), .arr 1 1 2 ([].map (eK .i64))] ?_
   obtain rfl := Option.some.inj hm
   exact en
  ·refine W_eqn ?_
   refine W_rg [3] ?_
   refine W_condf rfl rfl ?_
   refine W_skip ?_
   refine KThen_n (hk1 _ _ ?_)
   refine W_rg [0, 4, 5, 6, 7] ?_
   refine W_eqa [.arr 1 v0_ 2 (p1.map (eK .i64)), .arr 1 1 2 ([].map (eK .i64))] ?_
   refine W_ret ?_
   refine KBody_ret [.arr 1 v0_ 2 (p1.map (eK .i64)), .arr 1 1 2 ([].map (eK .i64))] ?_
   obtain rfl := Option.some.inj hm
   exact en
 ·rw [if_neg h1] at hm
  refine W_regG [3] fun k kp hk hp => ?_
  refine RunRest_cut 1 ?_
  refine go ?_
  refine RS (Ext_eqO rfl (by first | exact .inl rfl | exact .inr rfl) (by first | rfl | (simp only [bR, bT, tab, bX, reduceIte, ↓reduceIte, reduceCtorEq, Int.reduceToNat, Nat.reduceDiv, Nat.reduceMod, Nat.reduceLT, Nat.reduceLeDiff, Nat.reduceAdd, Nat.reduceSub, Nat.reduceMul, Nat.reduceEqDiff, Nat.reduceBEq, Nat.reduceBNe, Nat.reduceGT]; done)) rfl (by first | rfl | (simp only [bR, bT, tab, bX, reduceIte, ↓reduceIte, reduceCtorEq, Int.reduceToNat, Nat.reduceDiv, Nat.reduceMod, Nat.reduceLT, Nat.reduceLeDiff, Nat.reduceAdd, Nat.reduceSub, Nat.reduceMul, Nat.reduceEqDiff, Nat.reduceBEq, Nat.reduceBNe, Nat.reduceGT]; done)) (by first | kernel_rfl | exact of_decide_eq_true (by kernel_rfl)) (by omega)) ?_
  simp only [bR, bT, tab, bX, reduceIte, ↓reduceIte, reduceCtorEq, Int.reduceToNat, Nat.reduceDiv, Nat.reduceMod, Nat.reduceLT, Nat.reduceLeDiff, Nat.reduceAdd, Nat.reduceSub, Nat.reduceMul, Nat.reduceEqDiff, Nat.reduceBEq, Nat.reduceBNe, Nat.reduceGT]
  refine RunRest_ops ?_
  refine go ?_
  refine hk _ _ ?_
  clear hk hp k kp
  refine W_condf rfl rfl ?_
  refine W_skip ?_
  refine KThen_n (hk1 _ _ ?_)
  obtain ⟨⟨hg2ax, hg2ay⟩, hm⟩ := gd hm
  refine W_rg [0, 4, 5, 6, 7] ?_
  refine W_eqa [.arr 1 v0_ 2 (p1.map (eK .i64)), .arr 1 1 2 (p1.map (eK .i64))] ?_
  refine W_ret ?_
  refine KBody_ret [.arr 1 v0_ 2 (p1.map (eK .i64)), .arr 1 1 2 (p1.map (eK .i64))] ?_
  obtain rfl := Option.some.inj hm
  exact en
end Pam

/- the walk of loop_Machine_Cells, printed by a program of ours -/
namespace Pam
open Go Go.Proofs
set_option maxRecDepth 100000 in
set_option maxHeartbeats 1000000 in
theorem loop_Machine_Cells_ok (p1 : Int) (p2 : List Int) (p3 : List Int) (p4 : List TLoop) (p5 : List Int) (v1_ : Nat) (r : (List Int)) (hm : loop_Machine_Cells p1 p2 p3 p4 p5 = some r) : Spec Try.prog 42 [.c (.optr 0 0)] [.box [.int .i64 p1, .tree 1 (p2.map (eK .i64)), .tree 1 (p3.map (eK .i64)), .tree 6 (p4.map TLoop.enc), .osl 1 v1_ 0 p5.length], .arr 1 v1_ 2 (p5.map (eK .i64))] (fun p σ => (p = .c (.tree 1 (r.map (eK .i64))) ∧ σ = [.box [.int .i64 p1, .tree 1 (p2.map (eK .i64)), .tree 1 (p3.map (eK .i64)), .tree 6 (p4.map TLoop.enc), .osl 1 v1_ 0 p5.length], .arr 1 v1_ 2 (p5.map (eK .i64))])) (fun _ _ => False) := by
 refine Spec_ofD 8 [.tmp 2] Try.func42 rfl rfl rfl (by kernel_rfl) (by simp) ?_
 refine W_eqf ?_
 unfold loop_Machine_Cells at hm
 refine W_rg [2] ?_
 refine W_regF [0, 3, 4, 5, 6, 7] fun k kp hk hp => ?_
 refine go ?_
 obtain ⟨y1, hc1, hm⟩ := bd hm
 refine RA (slices_Clone_int64_int64_ok p5 v1_ _ hc1) [1] ?_
 rintro p σ' hq2 _
 obtain ⟨rfl, rfl⟩ := hq2
 refine RunRest_ops ?_
 refine go ?_
 refine hk _ _ ?_
 clear hk hp k kp
 refine W_gh (Ghost_fr 2 rfl) ?_
 refine W_ret ?_
 refine KBody_ret [.box [.int .i64 p1, .tree 1 (p2.map (eK .i64)), .tree 1 (p3.map (eK .i64)), .tree 6 (p4.map TLoop.enc), .osl 1 v1_ 0 p5.length], .arr 1 v1_ 2 (p5.map (eK .i64))] ?_
 obtain rfl := Option.some.inj hm
 exact en
end Pam

/- the walk of ref_SameLongs_2, printed by a program of ours -/
namespace Pam
open Go Go.Proofs
set_option maxRecDepth 100000 in
set_option maxHeartbeats 1000000 in
theorem ref_SameLongs_2_ok (p1 : List Int) (p2 : List Int) (v0_ : Nat) (r : Bool) (hm : ref_SameLongs_2 p1 p2 = some r) : Spec Try.prog 41 [.c (.tree 1 (p1.map (eK .i64))), .c (.osl 0 v0_ 0 p2.length)] [.arr 1 v0_ 2 (p2.map (eK .i64))] (fun p σ => (p = .c (.bool r) ∧ σ = [.arr 1 v0_ 2 (p2.map (eK .i64))])) (fun _ _ => False) := by
 refine Spec_ofD 26 [.tmp 4] Try.func41 rfl rfl rfl (by kernel_rfl) (by simp) ?_
 refine W_eqf ?_
 unfold ref_SameLongs_2 at hm
 refine W_rg [4] ?_
 refine W_seq_k fun k1 hk1 => ?_
 refine W_rg [6, 7, 8, 9] ?_
 by_cases h1 : ¬ (p1.length : Int) = (p2.length : Int)
 ·rw [if_pos h1] at hm
  refine W_condt rfl (bne_iff_ne.2 h1) ?_
  refine W_rg [0, 1, 10] ?_
  refine W_ret ?_
  refine KThen_r ?_
  refine KBody_ret [.arr 1 v0_ 2 (p2.map (eK .i64))] ?_
  obtain rfl := Option.some.inj hm
  exact en
 ·rw [if_neg h1] at hm
  refine W_condf rfl (bne_eq_false_iff_eq.2 (Decidable.not_not.1 h1)) ?_
  refine W_skip ?_
  refine KThen_n (hk1 _ _ ?_)
  refine W_joinM (S := Unit) (V := Unit) [0, 1, 4, 5, 10, 11, 12, 13, 14, 15, 16, 17, 18, 19, 20, 21, 22, 23, 24, 25] (fun _ _ => []) (fun _ _ => [.arr 1 v0_ 2 (p2.map (eK .i64))]) (fun _ => ref_SameLongs_2_j1 = some r) ?_ ?_
  ·skip
   refine W_rg [10] ?_
   refine W_block ?_
   obtain ⟨o1, hl1, hm1⟩ := bd hm
   refine W_loopM (S := Int) (V := Unit) (O := Unit ⊕ Bool) [1, 4, 5, 11, 12, 13, 14, 15, 16, 17, 18, 19, 20, 21, 22, 23, 24, 25] (fun x3 _ => [(1, .c (.osl 0 v0_ 0 p2.length)), (5, .c (.int .i64 x3))]) (fun x3 _ => [.arr 1 v0_ 2 (p2.map (eK .i64))]) _ _ () hl1 ?_ ?_
   ·exact ls
   ·rintro x3 _ r1 hm hr1
    replace hm : ref_SameLongs_2_l1 p1 p2 x3 = some r1 := hm
    refine W_eqm ?_
    unfold ref_SameLongs_2_l1 at hm
    refine W_seq_k fun k2 hk2 => ?_
    refine W_rg [11, 12, 13] ?_
    by_cases h2 : x3 < (p1.length : Int)
    ·rw [if_pos h2] at hm
     refine W_condt rfl (decide_eq_true h2) ?_
     refine W_skip ?_
     refine KThen_n (hk2 _ _ ?_)
     refine W_seq_k fun k3 hk3 => ?_
     refine W_block ?_
     obtain ⟨⟨hg3a, hg3b⟩, hm⟩ := gd hm
     refine W_agx (a2 (em (eK .i64) p1 x3.toNat) (em (eK .i64) p2 x3.toNat)) [14, 17, 18, 19, 20, 21, 22, 23, 24] [0, 0, 3, 7, 0, 0, 48, 112, 255] [false, false, false, false, false, false, false, false, true] ?_
     by_cases h4 : ¬ (p1.getD x3.toNat default) = (p2.getD x3.toNat default)
     ·rw [if_pos h4] at hm
      refine W_condt rfl (bne_iff_ne.2 h4) ?_
      refine W_rg [0, 1, 5, 25] ?_
      have ho5 := out_eq hm hr1
      subst ho5
      replace hm : some false = some r := hm1
      refine W_ret ?_
      refine KBlock_r ?_
      refine KThen_r ?_
      refine KLoopM_r ?_
      refine KBlock_r ?_
      refine KJoinM_r ?_
      refine KBody_ret [.arr 1 v0_ 2 (p2.map (eK .i64))] ?_
      obtain rfl := Option.some.inj hm
      exact en
     ·rw [if_neg h4] at hm
      refine W_condf rfl (bne_eq_false_iff_eq.2 (Decidable.not_not.1 h4)) ?_
      refine W_skip ?_
      refine KBlock_n ?_
      refine KThen_n (hk3 _ _ ?_)
      refine W_rn ?_
      refine KLoopM_n (IntKind.wrap .i64 (x3 + 1)) () hm ?_
      exact ls
    ·rw [if_neg h2] at hm
     refine W_condf rfl (decide_eq_false h2) ?_
     refine W_exit ?_
     have ho6 := out_eq hm hr1
     subst ho6
     replace hm : ref_SameLongs_2_j1 = some r := hm1
     refine KThen_x ?_
     refine KLoopM_x ?_
     refine KBlock_hit ?_
     refine KJoinM_n () () hm ?_
     exact ls
  ·rintro _ _ hm
   replace hm : ref_SameLongs_2_j1 = some r := hm
   refine W_eqm ?_
   unfold ref_SameLongs_2_j1 at hm
   refine W_rg [] ?_
   refine W_ret ?_
   refine KBody_ret [.arr 1 v0_ 2 (p2.map (eK .i64))] ?_
   obtain rfl := Option.some.inj hm
   exact en
end Pam

/- the walk of law_LoopRows, printed by a program of ours -/
namespace Pam
open Go Go.Proofs
set_option maxRecDepth 100000 in
set_option maxHeartbeats 1000000 in
theorem law_LoopRows_ok (fuel : Nat) (p1 : TLoops) (p2 : List (List Int)) (r : Bool) (hm : law_LoopRows fuel p1 p2 = some r) : SpecF Try.prog 9 [.a [.int .i64 p1.cells, .tree 1 (p1.put.map (eK .i64)), .tree 1 (p1.get.map (eK .i64)), .tree 6 (p1.steps.map TLoop.enc)], .c (.tree 1 (p2.map (eL 1 (eK .i64))))] (.c (.bool r)) := by
 refine Spec_ofD 105 [.tmp 4] Try.func9 rfl rfl rfl (by kernel_rfl) (by simp) ?_
 refine W_eqf ?_
 unfold law_LoopRows at hm
 refine W_rg [0, 4] ?_
 refine W_seq_k fun k1 hk1 => ?_
 refine W_regF [15] fun k kp hk hp => ?_
 refine go ?_
 obtain ⟨y1, hc1, hm⟩ := bd hm
 refine RP (fun _ => law_loopBegun_ok  _ hc1) ?_
 refine RunRest_ops ?_
 refine go ?_
 refine hk _ _ ?_
 clear hk hp k kp
 by_cases h2 : y1 = true
 ·rw [if_pos h2] at hm
  refine W_condf rfl (by rw [show y1 = true from (h2)]; rfl) ?_
  refine W_skip ?_
  refine KThen_n (hk1 _ _ ?_)
  refine W_seq_k fun k2 hk2 => ?_
  refine W_regF [16, 17, 18, 19, 20, 21] fun k kp hk hp => ?_
  refine go ?_
  obtain ⟨y2, hc3, hm⟩ := bd hm
  refine RP (fun _ => ref_GreatLoops_ok p1 _ hc3) ?_
  by_cases h4 : y2 = true
  ·rw [if_pos h4] at hm
   have h4b : y2 = true := h4
   refine RunRest_ops ?_
   refine gox h4b ?_
   refine hk _ _ ?_
   clear hk hp k kp
   refine W_condt rfl rfl ?_
   refine W_rg [1, 2, 22] ?_
   refine W_ret ?_
   refine KThen_r ?_
   refine KBody_ret [] ?_
   obtain rfl := Option.some.inj hm
   exact en
  ·rw [if_neg h4] at hm
   have h4b : y2 = false := Bool.eq_false_iff.2 h4
   refine RunRest_ops ?_
   refine gox h4b ?_
   obtain ⟨y3, hc5, hm⟩ := bd hm
   refine RP (fun _ => law_rowsGreat_ok p2 _ hc5) ?_
   refine RunRest_ops ?_
   refine gox h4b ?_
   refine hk _ _ ?_
   clear hk hp k kp
   by_cases h6 : y3 = true
   ·rw [if_pos h6] at hm
    refine W_condt rfl (h6) ?_
    refine W_rg [1, 2, 22] ?_
    refine W_ret ?_
    refine KThen_r ?_
    refine KBody_ret [] ?_
    obtain rfl := Option.some.inj hm
    exact en
   ·rw [if_neg h6] at hm
    refine W_condf rfl (Bool.eq_false_iff.2 h6) ?_
    refine W_skip ?_
    refine KThen_n (hk2 _ _ ?_)
    refine W_regF [22, 23, 24] fun k kp hk hp => ?_
    refine go ?_
    obtain ⟨y4, hc7, hm⟩ := bd hm
    refine RP (fun _ => ref_CopyLoops_ok p1 _ hc7) ?_
    refine RunRest_ops ?_
    refine go ?_
    refine hk _ _ ?_
    clear hk hp k kp
    refine W_regF [25, 26] fun k kp hk hp => ?_
    refine go ?_
    obtain ⟨y5, hc8, hm⟩ := bd hm
    refine RP (fun _ => law_copyRows_ok p2 _ hc8) ?_
    refine RunRest_ops ?_
    refine go ?_
    refine hk _ _ ?_
    clear hk hp k kp
    refine W_regF [27, 28, 29, 30, 31] fun k kp hk hp => ?_
    refine go ?_
    obtain ⟨y6, hc9, hm⟩ := bd hm
    refine RA (loop_New_ok (y4)  _ hc9) [] ?_
    rintro p σ' hq10 _
    rcases y6 with y7 | y8
    ·skip
     simp only [Sum.elim_inl, Sum.elim_inr] at hm hq10
     obtain ⟨rfl, rfl⟩ := hq10
     refine RunRest_ops ?_
     refine go ?_
     refine hk _ _ ?_
     clear hk hp k kp
     refine W_regF [32, 33] fun k kp hk hp => ?_
     refine go ?_
     obtain ⟨y9, hc11, hm⟩ := bd hm
     refine RP (fun _ => ref_LoopsFault_ok p1 _ hc11) ?_
     refine RunRest_ops ?_
     refine go ?_
     refine hk _ _ ?_
     clear hk hp k kp
     refine W_seq_k fun k3 hk3 => ?_
     refine W_rg [8, 34, 35] ?_
     by_cases h12 : ((y7).code) = ((y9).code) ∧ ((y7).at_) = ((y9).at_)
     ·rw [if_pos h12] at hm
      refine W_condf rfl (by rw [show ((((y7).code) == ((y9).code)) && (((y7).at_) == ((y9).at_))) = true from (by simpa [Bool.and_eq_true] using h12)]; rfl) ?_
      refine W_skip ?_
      refine KThen_n (hk3 _ _ ?_)
      refine W_seq_k fun k4 hk4 => ?_
      refine W_rg [9, 36, 37, 38] ?_
      by_cases h13 : ¬ ((y9).code) = 0
      ·rw [if_pos h13] at hm
       refine W_condt rfl (bne_iff_ne.2 h13) ?_
       refine W_rg [1, 2, 5, 6, 7, 39] ?_
       refine W_ret ?_
       refine KThen_r ?_
       refine KBody_ret [] ?_
       obtain rfl := Option.some.inj hm
       exact en
      ·rw [if_neg h13] at hm
       refine W_condf rfl (bne_eq_false_iff_eq.2 (Decidable.not_not.1 h13)) ?_
       refine W_skip ?_
       refine KThen_n (hk4 _ _ ?_)
       refine W_regF [39, 40, 41] fun k kp hk hp => ?_
       refine go ?_
       obtain ⟨y10, hc14, hm⟩ := bd hm
       refine RA (ref_BeginLoops_ok p1  _ hc14) [] ?_
       rintro p σ' hq15 _
       obtain ⟨rfl, rfl⟩ := hq15
       refine RunRest_ops ?_
       refine go ?_
       refine hk _ _ ?_
       clear hk hp k kp
       refine W_joinM (S := Unit) (V := Unit) [4, 7, 10, 11, 12, 13, 14, 42, 43, 44, 45, 46, 47, 48, 49, 50, 51, 52, 53, 54, 55, 56, 57, 58, 59, 60, 61, 62, 63, 64, 65, 66, 67, 68, 69, 70, 71, 72, 73, 74, 75, 76, 77, 78, 79, 80, 81, 82, 83, 84, 85, 86, 87, 88, 89, 90, 91, 92, 93, 94, 95, 96] (fun _ _ => []) (fun _ _ => [.box [.int .i64 p1.cells, .tree 1 (p1.put.map (eK .i64)), .tree 1 (p1.get.map (eK .i64)), .tree 6 (p1.steps.map TLoop.enc)], .box [.int .i64 ((y4).cells), .tree 1 (((y4).put).map (eK .i64)), .tree 1 (((y4).get).map (eK .i64)), .tree 6 (((y4).steps).map TLoop.enc)], .box [.int .i64 ((y7).code), .int .i64 ((y7).at_)], .box [.int .i64 ((y9).code), .int .i64 ((y9).at_)], .box [.int .i64 y10.1, .tree 1 (y10.2.1.map (eK .i64)), .tree 1 (y10.2.2.1.map (eK .i64)), .tree 6 (y10.2.2.2.1.map TLoop.enc), .osl 5 1 0 y10.2.2.2.2.length], .arr 1 1 2 (y10.2.2.2.2.map (eK .i64))]) (fun _ => law_LoopRows_j1 p1 p2 y4 y5 = some r) ?_ ?_
       ·skip
        refine W_rg [] ?_
        refine W_block ?_
        obtain ⟨o1, hl1, hm1⟩ := bd hm
        refine W_loopM (S := Unit) (V := Unit) (O := Unit) [4, 11, 12, 13, 14, 42, 43, 44, 45, 46, 47, 48, 49, 50, 51, 52, 53, 54, 55, 56, 57, 58, 59, 60, 61, 62, 63, 64, 65, 66, 67, 68, 69, 70, 71, 72, 73, 74, 75, 76, 77, 78, 79, 80, 81, 82, 83, 84, 85, 86, 87, 88, 89, 90, 91, 92, 93, 94, 95, 96] (fun _ _ => [(11, .c (.int .i64 0))]) (fun _ _ => [.box [.int .i64 p1.cells, .tree 1 (p1.put.map (eK .i64)), .tree 1 (p1.get.map (eK .i64)), .tree 6 (p1.steps.map TLoop.enc)], .box [.int .i64 ((y4).cells), .tree 1 (((y4).put).map (eK .i64)), .tree 1 (((y4).get).map (eK .i64)), .tree 6 (((y4).steps).map TLoop.enc)], .box [.int .i64 ((y7).code), .int .i64 ((y7).at_)], .box [.int .i64 ((y9).code), .int .i64 ((y9).at_)], .box [.int .i64 y10.1, .tree 1 (y10.2.1.map (eK .i64)), .tree 1 (y10.2.2.1.map (eK .i64)), .tree 6 (y10.2.2.2.1.map TLoop.enc), .osl 5 1 0 y10.2.2.2.2.length], .arr 1 1 2 (y10.2.2.2.2.map (eK .i64))]) _ _ () hl1 ?_ ?_
        ·exact ls
        ·rintro _ _ r1 hm hr1
         replace hm : law_LoopRows_l1 p2 y5 = some r1 := hm
         refine W_eqm ?_
         unfold law_LoopRows_l1 at hm
         refine W_seq_k fun k5 hk5 => ?_
         refine W_rg [42, 43, 44] ?_
         by_cases h19 : 0 < (p2.length : Int)
         ·rw [if_pos h19] at hm
          refine W_condt rfl (decide_eq_true h19) ?_
          refine W_skip ?_
          refine KThen_n (hk5 _ _ ?_)
          refine W_seq_k fun k6 hk6 => ?_
          refine W_block ?_
          obtain ⟨hg20a, hm⟩ := gd hm
          refine W_regF [45, 48, 49, 50, 51, 52, 53, 54, 55, 56] fun k kp hk hp => ?_
          refine gox (em (eL 1 (eK .i64)) y5 0) ?_
          obtain ⟨y13, hc21, hm⟩ := bd hm
          refine RP (fun _ => loop_Machine_Row_ok (y5.getD 0 default) _ hc21) ?_
          cases hm
         ·rw [if_neg h19] at hm
          refine W_condf rfl (decide_eq_false h19) ?_
          refine W_exit ?_
          have ho22 := out_eq hm hr1
          subst ho22
          replace hm : law_LoopRows_j1 p1 p2 y4 y5 = some r := hm1
          refine KThen_x ?_
          refine KLoopM_x ?_
          refine KBlock_hit ?_
          refine KJoinM_n () () hm ?_
          exact ls
       ·rintro _ _ hm
        replace hm : law_LoopRows_j1 p1 p2 y4 y5 = some r := hm
        refine W_eqm ?_
        unfold law_LoopRows_j1 at hm
        refine W_regF [1, 2, 5, 6, 97, 98, 99, 100, 101, 102, 103, 104] fun k kp hk hp => ?_
        refine go ?_
        obtain ⟨y11, hc16, hm⟩ := bd hm
        refine RP (fun _ => ref_SameLoops_ok (y4) p1 _ hc16) ?_
        by_cases h17 : y11 = true
        ·rw [if_pos h17] at hm
         have h17b : y11 = true := h17
         refine RunRest_ops ?_
         refine gox h17b ?_
         obtain ⟨y12, hc18, hm⟩ := bd hm
         refine RP (fun _ => law_sameRows_ok y5 p2 _ hc18) ?_
         refine RunRest_ops ?_
         refine gox h17b ?_
         refine hk _ _ ?_
         clear hk hp k kp
         refine W_ret ?_
         refine KBody_ret [] ?_
         obtain rfl := Option.some.inj hm
         exact en
        ·rw [if_neg h17] at hm
         have h17b : y11 = false := Bool.eq_false_iff.2 h17
         refine RunRest_ops ?_
         refine gox h17b ?_
         refine hk _ _ ?_
         clear hk hp k kp
         refine W_ret ?_
         refine KBody_ret [] ?_
         obtain rfl := Option.some.inj hm
         exact en
     ·rw [if_neg h12] at hm
      refine W_condt rfl (by rw [show ((((y7).code) == ((y9).code)) && (((y7).at_) == ((y9).at_))) = false from (Bool.eq_false_iff.2 (fun hh => h12 (by simpa [Bool.and_eq_true] using hh)))]; rfl) ?_
      refine W_rg [1, 2, 5, 6, 7, 9, 36] ?_
      refine W_ret ?_
      refine KThen_r ?_
      refine KBody_ret [] ?_
      obtain rfl := Option.some.inj hm
      exact en
    ·skip
     simp only [Sum.elim_inl, Sum.elim_inr] at hm hq10
     obtain ⟨rfl, rfl⟩ := hq10
     refine RunRest_ops ?_
     refine go ?_
     refine hk _ _ ?_
     clear hk hp k kp
     refine W_regF [32, 33] fun k kp hk hp => ?_
     refine go ?_
     obtain ⟨y14, hc23, hm⟩ := bd hm
     refine RP (fun _ => ref_LoopsFault_ok p1 _ hc23) ?_
     refine RunRest_ops ?_
     refine go ?_
     refine hk _ _ ?_
     clear hk hp k kp
     refine W_seq_k fun k7 hk7 => ?_
     refine W_rg [8, 34, 35] ?_
     by_cases h24 : ((y8.1).code) = ((y14).code) ∧ ((y8.1).at_) = ((y14).at_)
     ·rw [if_pos h24] at hm
      refine W_condf rfl (by rw [show ((((y8.1).code) == ((y14).code)) && (((y8.1).at_) == ((y14).at_))) = true from (by simpa [Bool.and_eq_true] using h24)]; rfl) ?_
      refine W_skip ?_
      refine KThen_n (hk7 _ _ ?_)
      refine W_seq_k fun k8 hk8 => ?_
      refine W_rg [9, 36, 37, 38] ?_
      by_cases h25 : ¬ ((y14).code) = 0
      ·rw [if_pos h25] at hm
       refine W_condt rfl (bne_iff_ne.2 h25) ?_
       refine W_rg [1, 2, 5, 6, 7, 39] ?_
       refine W_ret ?_
       refine KThen_r ?_
       refine KBody_ret [] ?_
       obtain rfl := Option.some.inj hm
       exact en
      ·rw [if_neg h25] at hm
       refine W_condf rfl (bne_eq_false_iff_eq.2 (Decidable.not_not.1 h25)) ?_
       refine W_skip ?_
       refine KThen_n (hk8 _ _ ?_)
       refine W_regF [39, 40, 41] fun k kp hk hp => ?_
       refine go ?_
       obtain ⟨y15, hc26, hm⟩ := bd hm
       refine RA (ref_BeginLoops_ok p1  _ hc26) [] ?_
       rintro p σ' hq27 _
       obtain ⟨rfl, rfl⟩ := hq27
       refine RunRest_ops ?_
       refine go ?_
       refine hk _ _ ?_
       clear hk hp k kp
       refine W_joinM (S := ((List Int) × (List Int))) (V := Unit) [4, 7, 10, 11, 12, 13, 14, 42, 43, 44, 45, 46, 47, 48, 49, 50, 51, 52, 53, 54, 55, 56, 57, 58, 59, 60, 61, 62, 63, 64, 65, 66, 67, 68, 69, 70, 71, 72, 73, 74, 75, 76, 77, 78, 79, 80, 81, 82, 83, 84, 85, 86, 87, 88, 89, 90, 91, 92, 93, 94, 95, 96] (fun (l18, l19) _ => []) (fun (l18, l19) _ => [.box [.int .i64 p1.cells, .tree 1 (p1.put.map (eK .i64)), .tree 1 (p1.get.map (eK .i64)), .tree 6 (p1.steps.map TLoop.enc)], .box [.int .i64 ((y4).cells), .tree 1 (((y4).put).map (eK .i64)), .tree 1 (((y4).get).map (eK .i64)), .tree 6 (((y4).steps).map TLoop.enc)], .box [.int .i64 y8.2.1, .tree 1 (y8.2.2.1.map (eK .i64)), .tree 1 (y8.2.2.2.1.map (eK .i64)), .tree 6 (y8.2.2.2.2.1.map TLoop.enc), .osl 4 1 0 l18.length], .box [.int .i64 y8.2.2.2.2.2.1, .int .i64 y8.2.2.2.2.2.2.1], .arr 1 1 2 (l18.map (eK .i64)), .box [.int .i64 ((y8.1).code), .int .i64 ((y8.1).at_)], .box [.int .i64 ((y14).code), .int .i64 ((y14).at_)], .box [.int .i64 y15.1, .tree 1 (y15.2.1.map (eK .i64)), .tree 1 (y15.2.2.1.map (eK .i64)), .tree 6 (y15.2.2.2.1.map TLoop.enc), .osl 8 1 0 l19.length], .arr 1 1 2 (l19.map (eK .i64))]) (fun (l18, l19) => law_LoopRows_j2 p1 p2 y4 y5 l18 l19 = some r) ?_ ?_
       ·skip
        refine W_rg [] ?_
        refine W_block ?_
        obtain ⟨o2, hl2, hm2⟩ := bd hm
        refine W_loopM (S := ((List Int) × (List Int) × Int)) (V := Unit) (O := ((List Int) × (List Int)) ⊕ Bool) [4, 11, 12, 13, 14, 42, 43, 44, 45, 46, 47, 48, 49, 50, 51, 52, 53, 54, 55, 56, 57, 58, 59, 60, 61, 62, 63, 64, 65, 66, 67, 68, 69, 70, 71, 72, 73, 74, 75, 76, 77, 78, 79, 80, 81, 82, 83, 84, 85, 86, 87, 88, 89, 90, 91, 92, 93, 94, 95, 96] (fun (l34, l35, x36) _ => [(11, .c (.int .i64 x36))]) (fun (l34, l35, x36) _ => [.box [.int .i64 p1.cells, .tree 1 (p1.put.map (eK .i64)), .tree 1 (p1.get.map (eK .i64)), .tree 6 (p1.steps.map TLoop.enc)], .box [.int .i64 ((y4).cells), .tree 1 (((y4).put).map (eK .i64)), .tree 1 (((y4).get).map (eK .i64)), .tree 6 (((y4).steps).map TLoop.enc)], .box [.int .i64 y8.2.1, .tree 1 (y8.2.2.1.map (eK .i64)), .tree 1 (y8.2.2.2.1.map (eK .i64)), .tree 6 (y8.2.2.2.2.1.map TLoop.enc), .osl 4 1 0 l34.length], .box [.int .i64 y8.2.2.2.2.2.1, .int .i64 y8.2.2.2.2.2.2.1], .arr 1 1 2 (l34.map (eK .i64)), .box [.int .i64 ((y8.1).code), .int .i64 ((y8.1).at_)], .box [.int .i64 ((y14).code), .int .i64 ((y14).at_)], .box [.int .i64 y15.1, .tree 1 (y15.2.1.map (eK .i64)), .tree 1 (y15.2.2.1.map (eK .i64)), .tree 6 (y15.2.2.2.1.map TLoop.enc), .osl 8 1 0 l35.length], .arr 1 1 2 (l35.map (eK .i64))]) _ _ () hl2 ?_ ?_
        ·exact ls
        ·rintro ⟨l34, l35, x36⟩ _ r2 hm hr2
         replace hm : law_LoopRows_l2 fuel p1 p2 y5 y8 y15 l34 l35 x36 = some r2 := hm
         refine W_eqm ?_
         unfold law_LoopRows_l2 at hm
         refine W_seq_k fun k9 hk9 => ?_
         refine W_rg [42, 43, 44] ?_
         by_cases h31 : x36 < (p2.length : Int)
         ·rw [if_pos h31] at hm
          refine W_condt rfl (decide_eq_true h31) ?_
          refine W_skip ?_
          refine KThen_n (hk9 _ _ ?_)
          refine W_seq_k fun k10 hk10 => ?_
          refine W_block ?_
          obtain ⟨hg32a, hm⟩ := gd hm
          refine W_regF [45, 48, 49, 50, 51, 52, 53, 54, 55, 56] fun k kp hk hp => ?_
          refine gox (em (eL 1 (eK .i64)) y5 x36.toNat) ?_
          obtain ⟨y37, hc33, hm⟩ := bd hm
          refine RA (loop_Machine_Row_2_ok (y5.getD x36.toNat default) y8.2.1 y8.2.2.1 y8.2.2.2.1 y8.2.2.2.2.1 l34 1 _ hc33) [2, 4] ?_
          rintro p σ' hq34 _
          obtain ⟨rfl, rfl⟩ := hq34
          refine RunRest_ops ?_
          refine go ?_
          refine hk _ _ ?_
          clear hk hp k kp
          refine W_joinM (S := (List Int)) (V := Unit) [4, 12, 13, 14, 57, 58, 59, 60, 61, 62, 63, 64, 65, 66, 67, 68, 69, 70, 71, 72, 73, 74, 75, 76, 77, 78, 79, 80, 81, 82, 83, 84, 85, 86, 87, 88] (fun l39 _ => []) (fun l39 _ => [.box [.int .i64 p1.cells, .tree 1 (p1.put.map (eK .i64)), .tree 1 (p1.get.map (eK .i64)), .tree 6 (p1.steps.map TLoop.enc)], .box [.int .i64 ((y4).cells), .tree 1 (((y4).put).map (eK .i64)), .tree 1 (((y4).get).map (eK .i64)), .tree 6 (((y4).steps).map TLoop.enc)], .box [.int .i64 y8.2.1, .tree 1 (y8.2.2.1.map (eK .i64)), .tree 1 (y8.2.2.2.1.map (eK .i64)), .tree 6 (y8.2.2.2.2.1.map TLoop.enc), .osl 4 1 0 y37.2.2.length], .box [.int .i64 y8.2.2.2.2.2.1, .int .i64 y8.2.2.2.2.2.2.1], .arr 1 1 2 (y37.2.2.map (eK .i64)), .box [.int .i64 ((y8.1).code), .int .i64 ((y8.1).at_)], .box [.int .i64 ((y14).code), .int .i64 ((y14).at_)], .box [.int .i64 y15.1, .tree 1 (y15.2.1.map (eK .i64)), .tree 1 (y15.2.2.1.map (eK .i64)), .tree 6 (y15.2.2.2.1.map TLoop.enc), .osl 8 1 0 l39.length], .arr 1 1 2 (l39.map (eK .i64)), .box [.int .i64 ((y37.2.1).code), .int .i64 ((y37.2.1).at_)]]) (fun l39 => law_LoopRows_j3 y8 x36 y37 l39 = some r2) ?_ ?_
          ·skip
           obtain ⟨hg39a, hm⟩ := gd hm
           refine W_agx (em (eL 1 (eK .i64)) p2 x36.toNat) [57, 58, 59, 60, 61, 62, 63, 64] [0, 0, 3, 7, 15, 0, 32, 96, 255] [false, false, false, false, false, false, false, false, true] ?_
           by_cases h40 : ¬ ((p2.getD x36.toNat default).length : Int) = (p1.put.length : Int)
           ·rw [if_pos h40] at hm
            refine W_condt rfl (bne_iff_ne.2 h40) ?_
            by_cases h41 : ((y37.2.1).code) = 17 ∧ ((y37.2.1).at_) = (-1)
            ·rw [if_pos h41] at hm
             have h41b : ((((y37.2.1).code) == 17) && (((y37.2.1).at_) == (-1))) = true := by simpa [Bool.and_eq_true] using h41
             have h41c : (!((((y37.2.1).code) == 17) && (((y37.2.1).at_) == (-1)))) = false := by rw [h41b]; rfl
             refine W_rgx (a2 h41b h41c) [12, 13, 65, 66, 67, 68, 69, 70, 71, 72] ?_
             by_cases h42 : ¬ (y37.1.length : Int) = 0
             ·rw [if_pos h42] at hm
              refine W_condt rfl (bne_iff_ne.2 h42) ?_
              refine W_rg [1, 2, 5, 6, 7, 10, 11, 73] ?_
              have ho43 := out_eq hm hr2
              subst ho43
              replace hm : some false = some r := hm2
              refine W_ret ?_
              refine KJoinM_r ?_
              refine KBlock_r ?_
              refine KThen_r ?_
              refine KLoopM_r ?_
              refine KBlock_r ?_
              refine KJoinM_r ?_
              refine KBody_ret [] ?_
              obtain rfl := Option.some.inj hm
              exact en
             ·rw [if_neg h42] at hm
              refine W_condf rfl (bne_eq_false_iff_eq.2 (Decidable.not_not.1 h42)) ?_
              refine W_skip ?_
              refine KJoinM_n l35 () hm ?_
              exact ls
            ·rw [if_neg h41] at hm
             have h41b : ((((y37.2.1).code) == 17) && (((y37.2.1).at_) == (-1))) = false := Bool.eq_false_iff.2 (fun hh => h41 (by simpa [Bool.and_eq_true] using hh))
             have h41c : (!((((y37.2.1).code) == 17) && (((y37.2.1).at_) == (-1)))) = true := by rw [h41b]; rfl
             refine W_rgx (a2 h41b h41c) [12, 13, 65, 66, 67, 68, 69, 70, 71, 72] ?_
             refine W_condt rfl rfl ?_
             refine W_rg [1, 2, 5, 6, 7, 10, 11, 73] ?_
             have ho44 := out_eq hm hr2
             subst ho44
             replace hm : some false = some r := hm2
             refine W_ret ?_
             refine KJoinM_r ?_
             refine KBlock_r ?_
             refine KThen_r ?_
             refine KLoopM_r ?_
             refine KBlock_r ?_
             refine KJoinM_r ?_
             refine KBody_ret [] ?_
             obtain rfl := Option.some.inj hm
             exact en
           ·rw [if_neg h40] at hm
            refine W_condf rfl (bne_eq_false_iff_eq.2 (Decidable.not_not.1 h40)) ?_
            refine W_regF [65, 74, 75, 76, 77, 78, 79] fun k kp hk hp => ?_
            refine gox (em (eL 1 (eK .i64)) p2 x36.toNat) ?_
            obtain ⟨y42, hc45, hm⟩ := bd hm
            refine RA (ref_Looping_Row_ok fuel (p2.getD x36.toNat default) y15.1 y15.2.1 y15.2.2.1 y15.2.2.2.1 l35 1 _ hc45) [7, 8] ?_
            rintro p σ' hq46 _
            obtain ⟨rfl, rfl⟩ := hq46
            refine RunRest_ops ?_
            refine go ?_
            refine hk _ _ ?_
            clear hk hp k kp
            by_cases h47 : ¬ ((y37.2.1).code) = 0
            ·rw [if_pos h47] at hm
             have h47b : (((y37.2.1).code) != 0) = true := bne_iff_ne.2 h47
             refine W_rgx h47b [12, 13, 14, 80, 81, 82, 83, 84, 85, 86, 87] ?_
             refine W_condt rfl rfl ?_
             refine W_rg [1, 2, 5, 6, 7, 10, 11, 88] ?_
             have ho48 := out_eq hm hr2
             subst ho48
             replace hm : some false = some r := hm2
             refine W_ret ?_
             refine KJoinM_r ?_
             refine KBlock_r ?_
             refine KThen_r ?_
             refine KLoopM_r ?_
             refine KBlock_r ?_
             refine KJoinM_r ?_
             refine KBody_ret [] ?_
             obtain rfl := Option.some.inj hm
             exact en
            ·rw [if_neg h47] at hm
             have h47b : (((y37.2.1).code) != 0) = false := bne_eq_false_iff_eq.2 (Decidable.not_not.1 h47)
             refine W_regF [12, 13, 14, 80, 81, 82, 83, 84, 85, 86, 87] fun k kp hk hp => ?_
             refine gox h47b ?_
             obtain ⟨y43, hc49, hm⟩ := bd hm
             refine RP (fun _ => ref_SameLongs_ok y37.1 y42.1 _ hc49) ?_
             refine RunRest_ops ?_
             refine gox h47b ?_
             refine hk _ _ ?_
             clear hk hp k kp
             by_cases h50 : y43 = true
             ·rw [if_pos h50] at hm
              refine W_condf rfl (by rw [show y43 = true from (h50)]; rfl) ?_
              refine W_skip ?_
              refine KJoinM_n y42.2 () hm ?_
              exact ls
             ·rw [if_neg h50] at hm
              refine W_condt rfl (by rw [show y43 = false from (Bool.eq_false_iff.2 h50)]; rfl) ?_
              refine W_rg [1, 2, 5, 6, 7, 10, 11, 88] ?_
              have ho51 := out_eq hm hr2
              subst ho51
              replace hm : some false = some r := hm2
              refine W_ret ?_
              refine KJoinM_r ?_
              refine KBlock_r ?_
              refine KThen_r ?_
              refine KLoopM_r ?_
              refine KBlock_r ?_
              refine KJoinM_r ?_
              refine KBody_ret [] ?_
              obtain rfl := Option.some.inj hm
              exact en
          ·rintro l39 _ hm
           replace hm : law_LoopRows_j3 y8 x36 y37 l39 = some r2 := hm
           refine W_eqm ?_
           unfold law_LoopRows_j3 at hm
           refine W_anyF [89, 90, 91, 92, 93, 94, 95] (by kernel_rfl) [0, 1, 0, 4, 12, 28, 63, 127] [false, false, false, false, false, false, true, true] (by kernel_rfl) fun k hk => ?_
           refine ga ?_
           obtain ⟨y40, hc35, hm⟩ := bd hm
           refine AnyCall_at (σ2 := [.box [.int .i64 p1.cells, .tree 1 (p1.put.map (eK .i64)), .tree 1 (p1.get.map (eK .i64)), .tree 6 (p1.steps.map TLoop.enc)], .box [.int .i64 ((y4).cells), .tree 1 (((y4).put).map (eK .i64)), .tree 1 (((y4).get).map (eK .i64)), .tree 6 (((y4).steps).map TLoop.enc)], .box [.int .i64 y8.2.1, .tree 1 (y8.2.2.1.map (eK .i64)), .tree 1 (y8.2.2.2.1.map (eK .i64)), .tree 6 (y8.2.2.2.2.1.map TLoop.enc), .osl 4 1 0 y37.2.2.length], .box [.int .i64 y8.2.2.2.2.2.1, .int .i64 y8.2.2.2.2.2.2.1], .arr 1 1 2 (y37.2.2.map (eK .i64)), .box [.int .i64 ((y8.1).code), .int .i64 ((y8.1).at_)], .box [.int .i64 ((y14).code), .int .i64 ((y14).at_)], .box [.int .i64 y15.1, .tree 1 (y15.2.1.map (eK .i64)), .tree 1 (y15.2.2.1.map (eK .i64)), .tree 6 (y15.2.2.2.1.map TLoop.enc), .osl 8 1 0 l39.length], .arr 1 1 2 (l39.map (eK .i64)), .box [.int .i64 ((y37.2.1).code), .int .i64 ((y37.2.1).at_)]]) (res := .c (.tree 1 (y40.map (eK .i64)))) ⟨_, _, _, _, [2, 4], loop_Machine_Cells_ok y8.2.1 y8.2.2.1 y8.2.2.2.1 y8.2.2.2.2.1 y37.2.2 1 _ hc35, by simp, by simp, rfl, rfl, by first | trivial | (simp [bX, eK, eB, eS, eL, s_cap, psUnder, PV.under, CV.under, obsBelow, OB.under, cvsBelow]; done), by first | trivial | (simp [bX, eK, eB, eS, eL, s_cap, psUnder, PV.under, CV.under, obsBelow, OB.under, cvsBelow]; done), fun q τ hq _ => by obtain ⟨rfl, rfl⟩ := hq; exact ⟨rfl, rfl⟩, fun _ _ h => h.elim⟩ (by first | trivial | exact dst_ok rfl) (by first | trivial | (intro _; first | trivial | simp [need]) | simp [need]) (by first | exact .inl rfl | exact .inr (by simp only [extB]; and_intros <;> first | rfl | trivial)) ?_
           refine ga ?_
           obtain ⟨y41, hc36, hm⟩ := bd hm
           refine AnyCall_at (σ2 := [.box [.int .i64 p1.cells, .tree 1 (p1.put.map (eK .i64)), .tree 1 (p1.get.map (eK .i64)), .tree 6 (p1.steps.map TLoop.enc)], .box [.int .i64 ((y4).cells), .tree 1 (((y4).put).map (eK .i64)), .tree 1 (((y4).get).map (eK .i64)), .tree 6 (((y4).steps).map TLoop.enc)], .box [.int .i64 y8.2.1, .tree 1 (y8.2.2.1.map (eK .i64)), .tree 1 (y8.2.2.2.1.map (eK .i64)), .tree 6 (y8.2.2.2.2.1.map TLoop.enc), .osl 4 1 0 y37.2.2.length], .box [.int .i64 y8.2.2.2.2.2.1, .int .i64 y8.2.2.2.2.2.2.1], .arr 1 1 2 (y37.2.2.map (eK .i64)), .box [.int .i64 ((y8.1).code), .int .i64 ((y8.1).at_)], .box [.int .i64 ((y14).code), .int .i64 ((y14).at_)], .box [.int .i64 y15.1, .tree 1 (y15.2.1.map (eK .i64)), .tree 1 (y15.2.2.1.map (eK .i64)), .tree 6 (y15.2.2.2.1.map TLoop.enc), .osl 8 1 0 l39.length], .arr 1 1 2 (l39.map (eK .i64)), .box [.int .i64 ((y37.2.1).code), .int .i64 ((y37.2.1).at_)]]) (res := .c (.bool y41)) ⟨_, _, _, _, [8], ref_SameLongs_2_ok y40 l39 1 _ hc36, by simp, by simp, rfl, rfl, by first | trivial | (simp [bX, eK, eB, eS, eL, s_cap, psUnder, PV.under, CV.under, obsBelow, OB.under, cvsBelow]; done), by first | trivial | (simp [bX, eK, eB, eS, eL, s_cap, psUnder, PV.under, CV.under, obsBelow, OB.under, cvsBelow]; done), fun q τ hq _ => by obtain ⟨rfl, rfl⟩ := hq; exact ⟨rfl, rfl⟩, fun _ _ h => h.elim⟩ (by first | trivial | exact dst_ok rfl) (by first | trivial | (intro _; first | trivial | simp [need]) | simp [need]) (by first | exact .inl rfl | exact .inr (by simp only [extB]; and_intros <;> first | rfl | trivial)) ?_
           refine ga ?_
           refine hk _ _ ?_
           clear hk k
           by_cases h37 : y41 = true
           ·rw [if_pos h37] at hm
            refine W_condf rfl (by rw [show y41 = true from (h37)]; rfl) ?_
            refine W_skip ?_
            refine KBlock_n ?_
            refine KThen_n (hk10 _ _ ?_)
            refine W_rn ?_
            refine KLoopM_n (y37.2.2, l39, (IntKind.wrap .i64 (x36 + 1))) () hm ?_
            exact ls
           ·rw [if_neg h37] at hm
            refine W_condt rfl (by rw [show y41 = false from (Bool.eq_false_iff.2 h37)]; rfl) ?_
            refine W_rg [1, 2, 5, 6, 7, 10, 11, 96] ?_
            have ho38 := out_eq hm hr2
            subst ho38
            replace hm : some false = some r := hm2
            refine W_ret ?_
            refine KBlock_r ?_
            refine KThen_r ?_
            refine KLoopM_r ?_
            refine KBlock_r ?_
            refine KJoinM_r ?_
            refine KBody_ret [] ?_
            obtain rfl := Option.some.inj hm
            exact en
         ·rw [if_neg h31] at hm
          refine W_condf rfl (decide_eq_false h31) ?_
          refine W_exit ?_
          have ho52 := out_eq hm hr2
          subst ho52
          replace hm : law_LoopRows_j2 p1 p2 y4 y5 l34 l35 = some r := hm2
          refine KThen_x ?_
          refine KLoopM_x ?_
          refine KBlock_hit ?_
          refine KJoinM_n (l34, l35) () hm ?_
          exact ls
       ·rintro ⟨l18, l19⟩ _ hm
        replace hm : law_LoopRows_j2 p1 p2 y4 y5 l18 l19 = some r := hm
        refine W_eqm ?_
        unfold law_LoopRows_j2 at hm
        refine W_regF [1, 2, 5, 6, 97, 98, 99, 100, 101, 102, 103, 104] fun k kp hk hp => ?_
        refine go ?_
        obtain ⟨y20, hc28, hm⟩ := bd hm
        refine RP (fun _ => ref_SameLoops_ok (y4) p1 _ hc28) ?_
        by_cases h29 : y20 = true
        ·rw [if_pos h29] at hm
         have h29b : y20 = true := h29
         refine RunRest_ops ?_
         refine gox h29b ?_
         obtain ⟨y21, hc30, hm⟩ := bd hm
         refine RP (fun _ => law_sameRows_ok y5 p2 _ hc30) ?_
         refine RunRest_ops ?_
         refine gox h29b ?_
         refine hk _ _ ?_
         clear hk hp k kp
         refine W_ret ?_
         refine KBody_ret [] ?_
         obtain rfl := Option.some.inj hm
         exact en
        ·rw [if_neg h29] at hm
         have h29b : y20 = false := Bool.eq_false_iff.2 h29
         refine RunRest_ops ?_
         refine gox h29b ?_
         refine hk _ _ ?_
         clear hk hp k kp
         refine W_ret ?_
         refine KBody_ret [] ?_
         obtain rfl := Option.some.inj hm
         exact en
     ·rw [if_neg h24] at hm
      refine W_condt rfl (by rw [show ((((y8.1).code) == ((y14).code)) && (((y8.1).at_) == ((y14).at_))) = false from (Bool.eq_false_iff.2 (fun hh => h24 (by simpa [Bool.and_eq_true] using hh)))]; rfl) ?_
      refine W_rg [1, 2, 5, 6, 7, 9, 36] ?_
      refine W_ret ?_
      refine KThen_r ?_
      refine KBody_ret [] ?_
      obtain rfl := Option.some.inj hm
      exact en
 ·rw [if_neg h2] at hm
  refine W_condt rfl (by rw [show y1 = false from (Bool.eq_false_iff.2 h2)]; rfl) ?_
  refine W_rg [1, 2, 16] ?_
  refine W_ret ?_
  refine KThen_r ?_
  refine KBody_ret [] ?_
  obtain rfl := Option.some.inj hm
  exact en
end Pam
