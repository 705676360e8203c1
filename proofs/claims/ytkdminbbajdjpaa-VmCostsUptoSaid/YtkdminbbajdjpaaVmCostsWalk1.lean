/- the walk of kinds_Op, printed by a program of ours -/
import Derived.Test.YtkdminbbajdjpaaBase3
import Derived.Test.YtkdminbbajdjpaaVmCostsFun1
set_option linter.all false
namespace Pam
open Go Go.Proofs
set_option maxRecDepth 100000 in
set_option maxHeartbeats 1000000 in
theorem kinds_Op_ok (p1 : Int) (r : (Int × Int × Int)) (hm : kinds_Op p1 = some r) : SpecF Try.prog 105 [.c (.int .i64 p1)] (.t [.c (.int .u8 r.1), .c (.int .u8 r.2.1), .c (.int .i64 r.2.2)]) := by
 refine Spec_ofD 32 [.tmp 2, .tmp 3, .tmp 4] Try.func105 rfl rfl rfl (by kernel_rfl) (by simp) ?_
 refine W_eqf ?_
 unfold kinds_Op at hm
 refine W_rg [2, 3, 4] ?_
 refine W_seq_k fun k1 hk1 => ?_
 refine W_block ?_
 by_cases h1 : p1 ≥ 1
 ·rw [if_pos h1] at hm
  have h1b : decide (p1 ≥ 1) = true := decide_eq_true h1
  refine W_rgx h1b [6, 7, 8, 9, 10, 11] ?_
  by_cases h2 : p1 ≤ 7
  ·rw [if_pos h2] at hm
   refine W_condt rfl (decide_eq_true h2) ?_
   refine W_rg [0, 5] ?_
   refine W_ret ?_
   refine KBlock_r ?_
   refine KThen_r ?_
   refine KBody_ret [] ?_
   obtain rfl := Option.some.inj hm
   exact en
  ·rw [if_neg h2] at hm
   refine W_condf rfl (decide_eq_false h2) ?_
   by_cases h3 : p1 = 8
   ·rw [if_pos h3] at hm
    have h3b : (p1 == 8) = true := beq_iff_eq.2 h3
    refine W_rgx h3b [5, 13, 14, 15, 16, 17, 18] ?_
    refine W_condt rfl rfl ?_
    refine W_rg [0, 12] ?_
    refine W_ret ?_
    refine KBlock_r ?_
    refine KThen_r ?_
    refine KBody_ret [] ?_
    obtain rfl := Option.some.inj hm
    exact en
   ·rw [if_neg h3] at hm
    have h3b : (p1 == 8) = false := beq_eq_false_iff_ne.2 h3
    refine W_rgx h3b [5, 13, 14, 15, 16, 17, 18] ?_
    by_cases h4 : p1 = 9
    ·rw [if_pos h4] at hm
     refine W_condt rfl (beq_iff_eq.2 h4) ?_
     refine W_rg [0, 12] ?_
     refine W_ret ?_
     refine KBlock_r ?_
     refine KThen_r ?_
     refine KBody_ret [] ?_
     obtain rfl := Option.some.inj hm
     exact en
    ·rw [if_neg h4] at hm
     refine W_condf rfl (beq_eq_false_iff_ne.2 h4) ?_
     by_cases h5 : p1 ≥ 10
     ·rw [if_pos h5] at hm
      have h5b : decide (p1 ≥ 10) = true := decide_eq_true h5
      refine W_rgx h5b [12, 20, 21, 22, 23, 24, 25] ?_
      by_cases h6 : p1 ≤ 12
      ·rw [if_pos h6] at hm
       refine W_condt rfl (decide_eq_true h6) ?_
       refine W_rg [0, 19] ?_
       refine W_ret ?_
       refine KBlock_r ?_
       refine KThen_r ?_
       refine KBody_ret [] ?_
       obtain rfl := Option.some.inj hm
       exact en
      ·rw [if_neg h6] at hm
       refine W_condf rfl (decide_eq_false h6) ?_
       refine W_rg [19, 27, 28] ?_
       by_cases h7 : p1 = 13
       ·rw [if_pos h7] at hm
        refine W_condt rfl (beq_iff_eq.2 h7) ?_
        refine W_rg [0, 26] ?_
        refine W_ret ?_
        refine KBlock_r ?_
        refine KThen_r ?_
        refine KBody_ret [] ?_
        obtain rfl := Option.some.inj hm
        exact en
       ·rw [if_neg h7] at hm
        refine W_condf rfl (beq_eq_false_iff_ne.2 h7) ?_
        refine W_rg [0, 26, 30, 31] ?_
        by_cases h8 : p1 = 14
        ·rw [if_pos h8] at hm
         refine W_condt rfl (beq_iff_eq.2 h8) ?_
         refine W_rg [29] ?_
         refine W_ret ?_
         refine KBlock_r ?_
         refine KThen_r ?_
         refine KBody_ret [] ?_
         obtain rfl := Option.some.inj hm
         exact en
        ·rw [if_neg h8] at hm
         refine W_condf rfl (beq_eq_false_iff_ne.2 h8) ?_
         refine W_skip ?_
         refine KBlock_n ?_
         refine KThen_n (hk1 _ _ ?_)
         refine W_rg [29] ?_
         refine W_ret ?_
         refine KBody_ret [] ?_
         obtain rfl := Option.some.inj hm
         exact en
     ·rw [if_neg h5] at hm
      have h5b : decide (p1 ≥ 10) = false := decide_eq_false h5
      refine W_rgx h5b [12, 20, 21, 22, 23, 24, 25] ?_
      refine W_condf rfl rfl ?_
      refine W_rg [19, 27, 28] ?_
      by_cases h9 : p1 = 13
      ·rw [if_pos h9] at hm
       refine W_condt rfl (beq_iff_eq.2 h9) ?_
       refine W_rg [0, 26] ?_
       refine W_ret ?_
       refine KBlock_r ?_
       refine KThen_r ?_
       refine KBody_ret [] ?_
       obtain rfl := Option.some.inj hm
       exact en
      ·rw [if_neg h9] at hm
       refine W_condf rfl (beq_eq_false_iff_ne.2 h9) ?_
       refine W_rg [0, 26, 30, 31] ?_
       by_cases h10 : p1 = 14
       ·rw [if_pos h10] at hm
        refine W_condt rfl (beq_iff_eq.2 h10) ?_
        refine W_rg [29] ?_
        refine W_ret ?_
        refine KBlock_r ?_
        refine KThen_r ?_
        refine KBody_ret [] ?_
        obtain rfl := Option.some.inj hm
        exact en
       ·rw [if_neg h10] at hm
        refine W_condf rfl (beq_eq_false_iff_ne.2 h10) ?_
        refine W_skip ?_
        refine KBlock_n ?_
        refine KThen_n (hk1 _ _ ?_)
        refine W_rg [29] ?_
        refine W_ret ?_
        refine KBody_ret [] ?_
        obtain rfl := Option.some.inj hm
        exact en
 ·rw [if_neg h1] at hm
  have h1b : decide (p1 ≥ 1) = false := decide_eq_false h1
  refine W_rgx h1b [6, 7, 8, 9, 10, 11] ?_
  refine W_condf rfl rfl ?_
  by_cases h11 : p1 = 8
  ·rw [if_pos h11] at hm
   have h11b : (p1 == 8) = true := beq_iff_eq.2 h11
   refine W_rgx h11b [5, 13, 14, 15, 16, 17, 18] ?_
   refine W_condt rfl rfl ?_
   refine W_rg [0, 12] ?_
   refine W_ret ?_
   refine KBlock_r ?_
   refine KThen_r ?_
   refine KBody_ret [] ?_
   obtain rfl := Option.some.inj hm
   exact en
  ·rw [if_neg h11] at hm
   have h11b : (p1 == 8) = false := beq_eq_false_iff_ne.2 h11
   refine W_rgx h11b [5, 13, 14, 15, 16, 17, 18] ?_
   by_cases h12 : p1 = 9
   ·rw [if_pos h12] at hm
    refine W_condt rfl (beq_iff_eq.2 h12) ?_
    refine W_rg [0, 12] ?_
    refine W_ret ?_
    refine KBlock_r ?_
    refine KThen_r ?_
    refine KBody_ret [] ?_
    obtain rfl := Option.some.inj hm
    exact en
   ·rw [if_neg h12] at hm
    refine W_condf rfl (beq_eq_false_iff_ne.2 h12) ?_
    by_cases h13 : p1 ≥ 10
    ·rw [if_pos h13] at hm
     have h13b : decide (p1 ≥ 10) = true := decide_eq_true h13
     refine W_rgx h13b [12, 20, 21, 22, 23, 24, 25] ?_
     by_cases h14 : p1 ≤ 12
     ·rw [if_pos h14] at hm
      refine W_condt rfl (decide_eq_true h14) ?_
      refine W_rg [0, 19] ?_
      refine W_ret ?_
      refine KBlock_r ?_
      refine KThen_r ?_
      refine KBody_ret [] ?_
      obtain rfl := Option.some.inj hm
      exact en
     ·rw [if_neg h14] at hm
      refine W_condf rfl (decide_eq_false h14) ?_
      refine W_rg [19, 27, 28] ?_
      by_cases h15 : p1 = 13
      ·rw [if_pos h15] at hm
       refine W_condt rfl (beq_iff_eq.2 h15) ?_
       refine W_rg [0, 26] ?_
       refine W_ret ?_
       refine KBlock_r ?_
       refine KThen_r ?_
       refine KBody_ret [] ?_
       obtain rfl := Option.some.inj hm
       exact en
      ·rw [if_neg h15] at hm
       refine W_condf rfl (beq_eq_false_iff_ne.2 h15) ?_
       refine W_rg [0, 26, 30, 31] ?_
       by_cases h16 : p1 = 14
       ·rw [if_pos h16] at hm
        refine W_condt rfl (beq_iff_eq.2 h16) ?_
        refine W_rg [29] ?_
        refine W_ret ?_
        refine KBlock_r ?_
        refine KThen_r ?_
        refine KBody_ret [] ?_
        obtain rfl := Option.some.inj hm
        exact en
       ·rw [if_neg h16] at hm
        refine W_condf rfl (beq_eq_false_iff_ne.2 h16) ?_
        refine W_skip ?_
        refine KBlock_n ?_
        refine KThen_n (hk1 _ _ ?_)
        refine W_rg [29] ?_
        refine W_ret ?_
        refine KBody_ret [] ?_
        obtain rfl := Option.some.inj hm
        exact en
    ·rw [if_neg h13] at hm
     have h13b : decide (p1 ≥ 10) = false := decide_eq_false h13
     refine W_rgx h13b [12, 20, 21, 22, 23, 24, 25] ?_
     refine W_condf rfl rfl ?_
     refine W_rg [19, 27, 28] ?_
     by_cases h17 : p1 = 13
     ·rw [if_pos h17] at hm
      refine W_condt rfl (beq_iff_eq.2 h17) ?_
      refine W_rg [0, 26] ?_
      refine W_ret ?_
      refine KBlock_r ?_
      refine KThen_r ?_
      refine KBody_ret [] ?_
      obtain rfl := Option.some.inj hm
      exact en
     ·rw [if_neg h17] at hm
      refine W_condf rfl (beq_eq_false_iff_ne.2 h17) ?_
      refine W_rg [0, 26, 30, 31] ?_
      by_cases h18 : p1 = 14
      ·rw [if_pos h18] at hm
       refine W_condt rfl (beq_iff_eq.2 h18) ?_
       refine W_rg [29] ?_
       refine W_ret ?_
       refine KBlock_r ?_
       refine KThen_r ?_
       refine KBody_ret [] ?_
       obtain rfl := Option.some.inj hm
       exact en
      ·rw [if_neg h18] at hm
       refine W_condf rfl (beq_eq_false_iff_ne.2 h18) ?_
       refine W_skip ?_
       refine KBlock_n ?_
       refine KThen_n (hk1 _ _ ?_)
       refine W_rg [29] ?_
       refine W_ret ?_
       refine KBody_ret [] ?_
       obtain rfl := Option.some.inj hm
       exact en
end Pam

/- the walk of code_judge_reg_1, printed by a program of ours -/
namespace Pam
open Go Go.Proofs
set_option maxRecDepth 100000 in
set_option maxHeartbeats 1000000 in
theorem code_judge_reg_1_ok (p1 : Int) (p2 : Tjudge) (r : Bool) (hm : code_judge_reg_1 p1 p2 = some r) : Spec Try.prog 129 [.c (.int .i64 p1), .c (.optr 0 0)] [.box [.int .i64 p2.m_.cells, .int .i64 p2.m_.regs, .int .i64 p2.m_.cost, .tree 1 (p2.m_.put.map (eK .i64)), .tree 1 (p2.m_.bools.map (eK .i64)), .tree 1 (p2.m_.get.map (eK .i64)), .tree 6 (p2.m_.code.map TIns.enc)]] (fun p σ => (p = .c (.bool r) ∧ σ = [.box [.int .i64 p2.m_.cells, .int .i64 p2.m_.regs, .int .i64 p2.m_.cost, .tree 1 (p2.m_.put.map (eK .i64)), .tree 1 (p2.m_.bools.map (eK .i64)), .tree 1 (p2.m_.get.map (eK .i64)), .tree 6 (p2.m_.code.map TIns.enc)]])) (fun _ _ => False) := by
 refine Spec_ofD 13 [.tmp 3] Try.func129 rfl rfl rfl (by kernel_rfl) (by simp) ?_
 refine W_eqf ?_
 unfold code_judge_reg_1 at hm
 refine W_rg [3] ?_
 by_cases h1 : p1 < 0
 ·rw [if_pos h1] at hm
  have h1b : decide (p1 < 0) = true := decide_eq_true h1
  refine W_rgx h1b [0, 1, 4, 5, 6, 7, 8, 9, 10, 11, 12] ?_
  refine W_ret ?_
  refine KBody_ret [.box [.int .i64 p2.m_.cells, .int .i64 p2.m_.regs, .int .i64 p2.m_.cost, .tree 1 (p2.m_.put.map (eK .i64)), .tree 1 (p2.m_.bools.map (eK .i64)), .tree 1 (p2.m_.get.map (eK .i64)), .tree 6 (p2.m_.code.map TIns.enc)]] ?_
  obtain rfl := Option.some.inj hm
  exact en
 ·rw [if_neg h1] at hm
  have h1b : decide (p1 < 0) = false := decide_eq_false h1
  refine W_rgx h1b [0, 1, 4, 5, 6, 7, 8, 9, 10, 11, 12] ?_
  refine W_ret ?_
  refine KBody_ret [.box [.int .i64 p2.m_.cells, .int .i64 p2.m_.regs, .int .i64 p2.m_.cost, .tree 1 (p2.m_.put.map (eK .i64)), .tree 1 (p2.m_.bools.map (eK .i64)), .tree 1 (p2.m_.get.map (eK .i64)), .tree 6 (p2.m_.code.map TIns.enc)]] ?_
  obtain rfl := Option.some.inj hm
  exact en
end Pam

/- the walk of slices_IndexFunc_int_int, printed by a program of ours -/
namespace Pam
open Go Go.Proofs
set_option maxRecDepth 100000 in
set_option maxHeartbeats 1000000 in
theorem slices_IndexFunc_int_int_ok (p1 : List Int) (p2 : Tjudge) (r : Int) (hm : slices_IndexFunc_int_int p1 p2 = some r) : Spec Try.prog 136 [.c (.tree 1 (p1.map (eK .i64))), .c (.fn 129 [.optr 0 0])] [.box [.int .i64 p2.m_.cells, .int .i64 p2.m_.regs, .int .i64 p2.m_.cost, .tree 1 (p2.m_.put.map (eK .i64)), .tree 1 (p2.m_.bools.map (eK .i64)), .tree 1 (p2.m_.get.map (eK .i64)), .tree 6 (p2.m_.code.map TIns.enc)]] (fun p σ => (p = .c (.int .i64 r) ∧ σ = [.box [.int .i64 p2.m_.cells, .int .i64 p2.m_.regs, .int .i64 p2.m_.cost, .tree 1 (p2.m_.put.map (eK .i64)), .tree 1 (p2.m_.bools.map (eK .i64)), .tree 1 (p2.m_.get.map (eK .i64)), .tree 6 (p2.m_.code.map TIns.enc)]])) (fun _ _ => False) := by
 refine Spec_ofD 19 [.tmp 4] Try.func136 rfl rfl rfl (by kernel_rfl) (by simp) ?_
 refine W_eqf ?_
 unfold slices_IndexFunc_int_int at hm
 refine W_rg [4] ?_
 refine W_joinM (S := Unit) (V := Unit) [0, 1, 4, 5, 6, 7, 8, 9, 10, 11, 12, 13, 14, 15, 16, 17, 18] (fun _ _ => []) (fun _ _ => [.box [.int .i64 p2.m_.cells, .int .i64 p2.m_.regs, .int .i64 p2.m_.cost, .tree 1 (p2.m_.put.map (eK .i64)), .tree 1 (p2.m_.bools.map (eK .i64)), .tree 1 (p2.m_.get.map (eK .i64)), .tree 6 (p2.m_.code.map TIns.enc)]]) (fun _ => slices_IndexFunc_int_int_j1 = some r) ?_ ?_
 ·skip
  refine W_rg [6] ?_
  refine W_block ?_
  obtain ⟨o1, hl1, hm1⟩ := bd hm
  refine W_loopM (S := Int) (V := Unit) (O := Unit ⊕ Int) [4, 5, 8, 9, 10, 11, 12, 13, 14, 15, 16, 17, 18] (fun x3 _ => [(8, .c (.int .i64 x3))]) (fun x3 _ => [.box [.int .i64 p2.m_.cells, .int .i64 p2.m_.regs, .int .i64 p2.m_.cost, .tree 1 (p2.m_.put.map (eK .i64)), .tree 1 (p2.m_.bools.map (eK .i64)), .tree 1 (p2.m_.get.map (eK .i64)), .tree 6 (p2.m_.code.map TIns.enc)]]) _ _ () hl1 ?_ ?_
  ·exact ls
  ·rintro x3 _ r1 hm hr1
   replace hm : slices_IndexFunc_int_int_l1 p1 p2 x3 = some r1 := hm
   refine W_eqm ?_
   unfold slices_IndexFunc_int_int_l1 at hm
   refine W_rg [] ?_
   refine W_seq_k fun k1 hk1 => ?_
   by_cases h1 : x3 < (p1.length : Int)
   ·rw [if_pos h1] at hm
    refine W_condt rfl (decide_eq_true h1) ?_
    refine W_skip ?_
    refine KThen_n (hk1 _ _ ?_)
    refine W_seq_k fun k2 hk2 => ?_
    refine W_block ?_
    refine W_rg [9, 10] ?_
    obtain ⟨hg2a, hm⟩ := gd hm
    refine W_regF [11, 12, 13, 14, 15] fun k kp hk hp => ?_
    refine gox (em (eK .i64) p1 x3.toNat) ?_
    obtain ⟨y4, hc3, hm⟩ := bd hm
    refine RA (code_judge_reg_1_ok (p1.getD x3.toNat default) p2  _ hc3) [0] ?_
    rintro p σ' hq4 _
    obtain ⟨rfl, rfl⟩ := hq4
    refine RunRest_ops ?_
    refine gox (em (eK .i64) p1 x3.toNat) ?_
    refine hk _ _ ?_
    clear hk hp k kp
    by_cases h5 : y4 = true
    ·rw [if_pos h5] at hm
     refine W_condt rfl (h5) ?_
     refine W_rg [0, 1, 5, 7, 8, 16, 17] ?_
     have ho6 := out_eq hm hr1
     subst ho6
     replace hm : some x3 = some r := hm1
     refine W_ret ?_
     refine KBlock_r ?_
     refine KThen_r ?_
     refine KLoopM_r ?_
     refine KBlock_r ?_
     refine KJoinM_r ?_
     refine KBody_ret [.box [.int .i64 p2.m_.cells, .int .i64 p2.m_.regs, .int .i64 p2.m_.cost, .tree 1 (p2.m_.put.map (eK .i64)), .tree 1 (p2.m_.bools.map (eK .i64)), .tree 1 (p2.m_.get.map (eK .i64)), .tree 6 (p2.m_.code.map TIns.enc)]] ?_
     obtain rfl := Option.some.inj hm
     exact en
    ·rw [if_neg h5] at hm
     refine W_condf rfl (Bool.eq_false_iff.2 h5) ?_
     refine W_skip ?_
     refine KBlock_n ?_
     refine KThen_n (hk2 _ _ ?_)
     refine W_rn ?_
     refine KLoopM_n (IntKind.wrap .i64 (x3 + 1)) () hm ?_
     exact ls
   ·rw [if_neg h1] at hm
    refine W_condf rfl (decide_eq_false h1) ?_
    refine W_exit ?_
    have ho7 := out_eq hm hr1
    subst ho7
    replace hm : slices_IndexFunc_int_int_j1 = some r := hm1
    refine KThen_x ?_
    refine KLoopM_x ?_
    refine KBlock_hit ?_
    refine KJoinM_n () () hm ?_
    exact ls
 ·rintro _ _ hm
  replace hm : slices_IndexFunc_int_int_j1 = some r := hm
  refine W_eqm ?_
  unfold slices_IndexFunc_int_int_j1 at hm
  refine W_rg [] ?_
  refine W_ret ?_
  refine KBody_ret [.box [.int .i64 p2.m_.cells, .int .i64 p2.m_.regs, .int .i64 p2.m_.cost, .tree 1 (p2.m_.put.map (eK .i64)), .tree 1 (p2.m_.bools.map (eK .i64)), .tree 1 (p2.m_.get.map (eK .i64)), .tree 6 (p2.m_.code.map TIns.enc)]] ?_
  obtain rfl := Option.some.inj hm
  exact en
end Pam

/- the walk of slices_ContainsFunc_int_int, printed by a program of ours -/
namespace Pam
open Go Go.Proofs
set_option maxRecDepth 100000 in
set_option maxHeartbeats 1000000 in
theorem slices_ContainsFunc_int_int_ok (p1 : List Int) (p2 : Tjudge) (r : Bool) (hm : slices_ContainsFunc_int_int p1 p2 = some r) : Spec Try.prog 128 [.c (.tree 1 (p1.map (eK .i64))), .c (.fn 129 [.optr 0 0])] [.box [.int .i64 p2.m_.cells, .int .i64 p2.m_.regs, .int .i64 p2.m_.cost, .tree 1 (p2.m_.put.map (eK .i64)), .tree 1 (p2.m_.bools.map (eK .i64)), .tree 1 (p2.m_.get.map (eK .i64)), .tree 6 (p2.m_.code.map TIns.enc)]] (fun p σ => (p = .c (.bool r) ∧ σ = [.box [.int .i64 p2.m_.cells, .int .i64 p2.m_.regs, .int .i64 p2.m_.cost, .tree 1 (p2.m_.put.map (eK .i64)), .tree 1 (p2.m_.bools.map (eK .i64)), .tree 1 (p2.m_.get.map (eK .i64)), .tree 6 (p2.m_.code.map TIns.enc)]])) (fun _ _ => False) := by
 refine Spec_ofD 9 [.tmp 4] Try.func128 rfl rfl rfl (by kernel_rfl) (by simp) ?_
 refine W_eqf ?_
 unfold slices_ContainsFunc_int_int at hm
 refine W_rg [4] ?_
 refine W_regF [0, 1, 5, 6, 7, 8] fun k kp hk hp => ?_
 refine go ?_
 obtain ⟨y1, hc1, hm⟩ := bd hm
 refine RA (slices_IndexFunc_int_int_ok p1 p2  _ hc1) [0] ?_
 rintro p σ' hq2 _
 obtain ⟨rfl, rfl⟩ := hq2
 refine RunRest_ops ?_
 refine go ?_
 refine hk _ _ ?_
 clear hk hp k kp
 refine W_ret ?_
 refine KBody_ret [.box [.int .i64 p2.m_.cells, .int .i64 p2.m_.regs, .int .i64 p2.m_.cost, .tree 1 (p2.m_.put.map (eK .i64)), .tree 1 (p2.m_.bools.map (eK .i64)), .tree 1 (p2.m_.get.map (eK .i64)), .tree 6 (p2.m_.code.map TIns.enc)]] ?_
 obtain rfl := Option.some.inj hm
 exact en
end Pam

/- the walk of code_judge_reg, printed by a program of ours -/
namespace Pam
open Go Go.Proofs
set_option maxRecDepth 100000 in
set_option maxHeartbeats 1000000 in
theorem code_judge_reg_ok (p1 : Tjudge) (p2 : List Int) (r : Bool) (hm : code_judge_reg p1 p2 = some r) : SpecF Try.prog 106 [.a [.int .i64 p1.m_.cells, .int .i64 p1.m_.regs, .int .i64 p1.m_.cost, .tree 1 (p1.m_.put.map (eK .i64)), .tree 1 (p1.m_.bools.map (eK .i64)), .tree 1 (p1.m_.get.map (eK .i64)), .tree 6 (p1.m_.code.map TIns.enc)], .c (.tree 1 (p2.map (eK .i64)))] (.c (.bool r)) := by
 refine Spec_ofD 9 [.tmp 4] Try.func106 rfl rfl rfl (by kernel_rfl) (by simp) ?_
 refine W_eqf ?_
 unfold code_judge_reg at hm
 refine W_rg [0, 4] ?_
 refine W_regF [1, 2, 5, 6, 7, 8] fun k kp hk hp => ?_
 refine go ?_
 obtain ⟨y1, hc1, hm⟩ := bd hm
 refine RA (slices_ContainsFunc_int_int_ok p2 p1  _ hc1) [0] ?_
 rintro p σ' hq2 _
 obtain ⟨rfl, rfl⟩ := hq2
 refine RunRest_ops ?_
 refine go ?_
 refine hk _ _ ?_
 clear hk hp k kp
 refine W_ret ?_
 refine KBody_ret [] ?_
 obtain rfl := Option.some.inj hm
 exact en
end Pam

/- the walk of code_judge_cells, printed by a program of ours -/
namespace Pam
open Go Go.Proofs
set_option maxRecDepth 100000 in
set_option maxHeartbeats 1000000 in
theorem code_judge_cells_ok (p1 : Tjudge) (p2 : Int) (p3 : Int) (r : Bool) (hm : code_judge_cells p1 p2 p3 = some r) : SpecF Try.prog 107 [.a [.int .i64 p1.m_.cells, .int .i64 p1.m_.regs, .int .i64 p1.m_.cost, .tree 1 (p1.m_.put.map (eK .i64)), .tree 1 (p1.m_.bools.map (eK .i64)), .tree 1 (p1.m_.get.map (eK .i64)), .tree 6 (p1.m_.code.map TIns.enc)], .c (.int .i64 p2), .c (.int .i64 p3)] (.c (.bool r)) := by
 refine Spec_ofD 29 [.tmp 6] Try.func107 rfl rfl rfl (by kernel_rfl) (by simp) ?_
 refine W_eqf ?_
 unfold code_judge_cells at hm
 refine W_rg [0, 6] ?_
 by_cases h1 : p3 ≥ 1
 ·rw [if_pos h1] at hm
  have h1b : decide (p3 ≥ 1) = true := decide_eq_true h1
  by_cases h2 : p3 ≤ p1.m_.cells
  ·rw [if_pos h2] at hm
   have h2b : decide (p3 ≤ p1.m_.cells) = true := decide_eq_true h2
   by_cases h3 : p2 ≥ 0
   ·rw [if_pos h3] at hm
    have h3b : decide (p2 ≥ 0) = true := decide_eq_true h3
    refine W_rgx (a2 h1b (a2 h2b h3b)) [1, 2, 3, 7, 8, 9, 10, 11, 12, 13, 14, 15, 16, 17, 18, 19, 20, 21, 22, 23, 24, 25, 26, 27, 28] ?_
    refine W_ret ?_
    refine KBody_ret [] ?_
    obtain rfl := Option.some.inj hm
    exact en
   ·rw [if_neg h3] at hm
    have h3b : decide (p2 ≥ 0) = false := decide_eq_false h3
    refine W_rgx (a2 h1b (a2 h2b h3b)) [1, 2, 3, 7, 8, 9, 10, 11, 12, 13, 14, 15, 16, 17, 18, 19, 20, 21, 22, 23, 24, 25, 26, 27, 28] ?_
    refine W_ret ?_
    refine KBody_ret [] ?_
    obtain rfl := Option.some.inj hm
    exact en
  ·rw [if_neg h2] at hm
   have h2b : decide (p3 ≤ p1.m_.cells) = false := decide_eq_false h2
   refine W_rgx (a2 h1b h2b) [1, 2, 3, 7, 8, 9, 10, 11, 12, 13, 14, 15, 16, 17, 18, 19, 20, 21, 22, 23, 24, 25, 26, 27, 28] ?_
   refine W_ret ?_
   refine KBody_ret [] ?_
   obtain rfl := Option.some.inj hm
   exact en
 ·rw [if_neg h1] at hm
  have h1b : decide (p3 ≥ 1) = false := decide_eq_false h1
  refine W_rgx h1b [1, 2, 3, 7, 8, 9, 10, 11, 12, 13, 14, 15, 16, 17, 18, 19, 20, 21, 22, 23, 24, 25, 26, 27, 28] ?_
  refine W_ret ?_
  refine KBody_ret [] ?_
  obtain rfl := Option.some.inj hm
  exact en
end Pam

/- the walk of code_judge_fits, printed by a program of ours -/
namespace Pam
open Go Go.Proofs
set_option maxRecDepth 100000 in
set_option maxHeartbeats 1000000 in
theorem code_judge_fits_ok (p1 : Tjudge) (p2 : TIns) (r : Bool) (hm : code_judge_fits p1 p2 = some r) : SpecF Try.prog 64 [.a [.int .i64 p1.m_.cells, .int .i64 p1.m_.regs, .int .i64 p1.m_.cost, .tree 1 (p1.m_.put.map (eK .i64)), .tree 1 (p1.m_.bools.map (eK .i64)), .tree 1 (p1.m_.get.map (eK .i64)), .tree 6 (p1.m_.code.map TIns.enc)], .a [.int .i64 p2.op, .int .i64 p2.k, .int .i64 p2.r_, .int .i64 p2.a, .int .i64 p2.b, .int .i64 p2.n]] (.c (.bool r)) := by
 refine Spec_ofD 124 [.tmp 4] Try.func64 rfl rfl rfl (by kernel_rfl) (by simp) ?_
 refine W_eqf ?_
 unfold code_judge_fits at hm
 refine W_rg [0, 1, 4] ?_
 refine W_regF [5, 6, 8, 9, 10, 11, 12, 13, 14] fun k kp hk hp => ?_
 refine go ?_
 obtain ⟨y1, hc1, hm⟩ := bd hm
 refine RP (fun _ => kinds_Op_ok p2.k _ hc1) ?_
 refine RunRest_ops ?_
 refine go ?_
 refine hk _ _ ?_
 clear hk hp k kp
 refine W_seq_k fun k1 hk1 => ?_
 refine W_rg [15] ?_
 refine W_block ?_
 refine W_rg [18] ?_
 by_cases h2 : p2.op = 1
 ·rw [if_pos h2] at hm
  refine W_condt rfl (beq_iff_eq.2 h2) ?_
  refine W_regF [2, 3, 7, 16, 17, 19, 20, 21, 22, 23] fun k kp hk hp => ?_
  refine go ?_
  refine RunCall_turn (Ghost_fr 2 rfl) ?_
  simp only [bR, bT, tab, bX, reduceIte, ↓reduceIte, reduceCtorEq, Int.reduceToNat, Nat.reduceDiv, Nat.reduceMod, Nat.reduceLT, Nat.reduceLeDiff, Nat.reduceAdd, Nat.reduceSub, Nat.reduceMul, Nat.reduceEqDiff, Nat.reduceBEq, Nat.reduceBNe, Nat.reduceGT, bZ, List.replicate, List.foldr]
  repeat refine ⟨by first | omega | assumption | decide | exact all_len fun _ => rfl | (intro _; omega) | rfl | exact fun e => absurd (List.map_eq_nil_iff.1 e) (by assumption) | (and_intros <;> first | omega | assumption | decide | exact all_len fun _ => rfl), ?_⟩
  obtain ⟨y2, hc3, hm⟩ := bd hm
  refine RP (fun _ => code_judge_reg_ok p1 (lit ([p2.r_] : List Int)) _ hc3) ?_
  refine RunRest_ops ?_
  refine go ?_
  refine hk _ _ ?_
  clear hk hp k kp
  refine W_ret ?_
  refine KBlock_r ?_
  refine KThen_r ?_
  refine KBody_ret [] ?_
  obtain rfl := Option.some.inj hm
  exact en
 ·rw [if_neg h2] at hm
  refine W_condf rfl (beq_eq_false_iff_ne.2 h2) ?_
  refine W_joinM (S := Bool) (V := Unit) [17, 24, 25, 26] (fun b3 _ => [(24, .c (.bool b3))]) (fun b3 _ => [.box [.int .i64 p1.m_.cells, .int .i64 p1.m_.regs, .int .i64 p1.m_.cost, .tree 1 (p1.m_.put.map (eK .i64)), .tree 1 (p1.m_.bools.map (eK .i64)), .tree 1 (p1.m_.get.map (eK .i64)), .tree 6 (p1.m_.code.map TIns.enc)], .box [.int .i64 p2.op, .int .i64 p2.k, .int .i64 p2.r_, .int .i64 p2.a, .int .i64 p2.b, .int .i64 p2.n]]) (fun b3 => code_judge_fits_j1 p1 p2 y1 b3 = some r) ?_ ?_
  ·skip
   refine W_rg [17, 25] ?_
   by_cases h27 : p2.op = 2
   ·rw [if_pos h27] at hm
    refine W_condt rfl (beq_iff_eq.2 h27) ?_
    refine W_skip ?_
    refine KJoinM_n (p2.op == 2) () hm ?_
    exact ls
   ·rw [if_neg h27] at hm
    refine W_condf rfl (beq_eq_false_iff_ne.2 h27) ?_
    refine W_rn ?_
    refine KJoinM_n (p2.op == 4) () hm ?_
    exact ls
  ·rintro b3 _ hm
   replace hm : code_judge_fits_j1 p1 p2 y1 b3 = some r := hm
   refine W_eqm ?_
   unfold code_judge_fits_j1 at hm
   by_cases h4 : b3 = true
   ·rw [if_pos h4] at hm
    refine W_condt rfl (h4) ?_
    refine W_regF [2, 3, 7, 16, 24, 27, 28, 29, 30, 31, 32, 33, 34, 35, 36, 37] fun k kp hk hp => ?_
    refine go ?_
    refine RunCall_turn (Ghost_fr 2 rfl) ?_
    simp only [bR, bT, tab, bX, reduceIte, ↓reduceIte, reduceCtorEq, Int.reduceToNat, Nat.reduceDiv, Nat.reduceMod, Nat.reduceLT, Nat.reduceLeDiff, Nat.reduceAdd, Nat.reduceSub, Nat.reduceMul, Nat.reduceEqDiff, Nat.reduceBEq, Nat.reduceBNe, Nat.reduceGT, bZ, List.replicate, List.foldr]
    repeat refine ⟨by first | omega | assumption | decide | exact all_len fun _ => rfl | (intro _; omega) | rfl | exact fun e => absurd (List.map_eq_nil_iff.1 e) (by assumption) | (and_intros <;> first | omega | assumption | decide | exact all_len fun _ => rfl), ?_⟩
    obtain ⟨y4, hc5, hm⟩ := bd hm
    refine RP (fun _ => code_judge_reg_ok p1 (lit ([p2.r_] : List Int)) _ hc5) ?_
    by_cases h6 : y4 = true
    ·rw [if_pos h6] at hm
     have h6b : y4 = true := h6
     refine RunRest_ops ?_
     refine gox h6b ?_
     obtain ⟨y5, hc7, hm⟩ := bd hm
     refine RP (fun _ => code_judge_cells_ok p1 p2.n 1 _ hc7) ?_
     refine RunRest_ops ?_
     refine gox h6b ?_
     refine hk _ _ ?_
     clear hk hp k kp
     refine W_ret ?_
     refine KBlock_r ?_
     refine KThen_r ?_
     refine KBody_ret [] ?_
     obtain rfl := Option.some.inj hm
     exact en
    ·rw [if_neg h6] at hm
     have h6b : y4 = false := Bool.eq_false_iff.2 h6
     refine RunRest_ops ?_
     refine gox h6b ?_
     refine hk _ _ ?_
     clear hk hp k kp
     refine W_ret ?_
     refine KBlock_r ?_
     refine KThen_r ?_
     refine KBody_ret [] ?_
     obtain rfl := Option.some.inj hm
     exact en
   ·rw [if_neg h4] at hm
    refine W_condf rfl (Bool.eq_false_iff.2 h4) ?_
    refine W_joinM (S := Bool) (V := Unit) [24, 38, 39, 40] (fun b6 _ => [(38, .c (.bool b6))]) (fun b6 _ => [.box [.int .i64 p1.m_.cells, .int .i64 p1.m_.regs, .int .i64 p1.m_.cost, .tree 1 (p1.m_.put.map (eK .i64)), .tree 1 (p1.m_.bools.map (eK .i64)), .tree 1 (p1.m_.get.map (eK .i64)), .tree 6 (p1.m_.code.map TIns.enc)], .box [.int .i64 p2.op, .int .i64 p2.k, .int .i64 p2.r_, .int .i64 p2.a, .int .i64 p2.b, .int .i64 p2.n]]) (fun b6 => code_judge_fits_j2 p1 p2 y1 b6 = some r) ?_ ?_
    ·skip
     refine W_rg [24, 39] ?_
     by_cases h26 : p2.op = 3
     ·rw [if_pos h26] at hm
      refine W_condt rfl (beq_iff_eq.2 h26) ?_
      refine W_skip ?_
      refine KJoinM_n (p2.op == 3) () hm ?_
      exact ls
     ·rw [if_neg h26] at hm
      refine W_condf rfl (beq_eq_false_iff_ne.2 h26) ?_
      refine W_rn ?_
      refine KJoinM_n (p2.op == 5) () hm ?_
      exact ls
    ·rintro b6 _ hm
     replace hm : code_judge_fits_j2 p1 p2 y1 b6 = some r := hm
     refine W_eqm ?_
     unfold code_judge_fits_j2 at hm
     by_cases h8 : b6 = true
     ·rw [if_pos h8] at hm
      refine W_condt rfl (h8) ?_
      refine W_regF [2, 3, 7, 16, 38, 41, 42, 43, 44, 45, 46, 47, 48, 49, 50, 51, 52, 53, 54, 55] fun k kp hk hp => ?_
      refine go ?_
      refine RunCall_turn (Ghost_fr 2 rfl) ?_
      simp only [bR, bT, tab, bX, reduceIte, ↓reduceIte, reduceCtorEq, Int.reduceToNat, Nat.reduceDiv, Nat.reduceMod, Nat.reduceLT, Nat.reduceLeDiff, Nat.reduceAdd, Nat.reduceSub, Nat.reduceMul, Nat.reduceEqDiff, Nat.reduceBEq, Nat.reduceBNe, Nat.reduceGT, bZ, List.replicate, List.foldr]
      repeat refine ⟨by first | omega | assumption | decide | exact all_len fun _ => rfl | (intro _; omega) | rfl | exact fun e => absurd (List.map_eq_nil_iff.1 e) (by assumption) | (and_intros <;> first | omega | assumption | decide | exact all_len fun _ => rfl), ?_⟩
      obtain ⟨y7, hc9, hm⟩ := bd hm
      refine RP (fun _ => code_judge_reg_ok p1 (lit ([p2.r_, p2.a] : List Int)) _ hc9) ?_
      by_cases h10 : y7 = true
      ·rw [if_pos h10] at hm
       have h10b : y7 = true := h10
       refine RunRest_ops ?_
       refine gox h10b ?_
       obtain ⟨y8, hc11, hm⟩ := bd hm
       refine RP (fun _ => code_judge_cells_ok p1 p2.n p2.b _ hc11) ?_
       refine RunRest_ops ?_
       refine gox h10b ?_
       refine hk _ _ ?_
       clear hk hp k kp
       refine W_ret ?_
       refine KBlock_r ?_
       refine KThen_r ?_
       refine KBody_ret [] ?_
       obtain rfl := Option.some.inj hm
       exact en
      ·rw [if_neg h10] at hm
       have h10b : y7 = false := Bool.eq_false_iff.2 h10
       refine RunRest_ops ?_
       refine gox h10b ?_
       refine hk _ _ ?_
       clear hk hp k kp
       refine W_ret ?_
       refine KBlock_r ?_
       refine KThen_r ?_
       refine KBody_ret [] ?_
       obtain rfl := Option.some.inj hm
       exact en
     ·rw [if_neg h8] at hm
      refine W_condf rfl (Bool.eq_false_iff.2 h8) ?_
      refine W_rg [38, 57] ?_
      by_cases h12 : p2.op = 6
      ·rw [if_pos h12] at hm
       refine W_condt rfl (beq_iff_eq.2 h12) ?_
       refine W_regF [2, 3, 7, 16, 56, 58, 59, 60, 61, 62, 63, 64, 65, 66, 67, 68] fun k kp hk hp => ?_
       refine go ?_
       refine RunCall_turn (Ghost_fr 2 rfl) ?_
       simp only [bR, bT, tab, bX, reduceIte, ↓reduceIte, reduceCtorEq, Int.reduceToNat, Nat.reduceDiv, Nat.reduceMod, Nat.reduceLT, Nat.reduceLeDiff, Nat.reduceAdd, Nat.reduceSub, Nat.reduceMul, Nat.reduceEqDiff, Nat.reduceBEq, Nat.reduceBNe, Nat.reduceGT, bZ, List.replicate, List.foldr]
       repeat refine ⟨by first | omega | assumption | decide | exact all_len fun _ => rfl | (intro _; omega) | rfl | exact fun e => absurd (List.map_eq_nil_iff.1 e) (by assumption) | (and_intros <;> first | omega | assumption | decide | exact all_len fun _ => rfl), ?_⟩
       obtain ⟨y9, hc13, hm⟩ := bd hm
       refine RP (fun _ => code_judge_reg_ok p1 (lit ([p2.r_, p2.a] : List Int)) _ hc13) ?_
       by_cases h14 : y9 = true
       ·rw [if_pos h14] at hm
        have h14b : y9 = true := h14
        refine RunRest_ops ?_
        refine gox h14b ?_
        refine hk _ _ ?_
        clear hk hp k kp
        refine W_ret ?_
        refine KBlock_r ?_
        refine KThen_r ?_
        refine KBody_ret [] ?_
        obtain rfl := Option.some.inj hm
        exact en
       ·rw [if_neg h14] at hm
        have h14b : y9 = false := Bool.eq_false_iff.2 h14
        refine RunRest_ops ?_
        refine gox h14b ?_
        refine hk _ _ ?_
        clear hk hp k kp
        refine W_ret ?_
        refine KBlock_r ?_
        refine KThen_r ?_
        refine KBody_ret [] ?_
        obtain rfl := Option.some.inj hm
        exact en
      ·rw [if_neg h12] at hm
       refine W_condf rfl (beq_eq_false_iff_ne.2 h12) ?_
       refine W_rg [56, 70] ?_
       by_cases h15 : p2.op = 7
       ·rw [if_pos h15] at hm
        refine W_condt rfl (beq_iff_eq.2 h15) ?_
        refine W_regF [2, 3, 7, 16, 69, 71, 72, 73, 74, 75, 76, 77, 78, 79, 80, 81, 82, 83] fun k kp hk hp => ?_
        refine go ?_
        refine RunCall_turn (Ghost_fr 2 rfl) ?_
        simp only [bR, bT, tab, bX, reduceIte, ↓reduceIte, reduceCtorEq, Int.reduceToNat, Nat.reduceDiv, Nat.reduceMod, Nat.reduceLT, Nat.reduceLeDiff, Nat.reduceAdd, Nat.reduceSub, Nat.reduceMul, Nat.reduceEqDiff, Nat.reduceBEq, Nat.reduceBNe, Nat.reduceGT, bZ, List.replicate, List.foldr]
        repeat refine ⟨by first | omega | assumption | decide | exact all_len fun _ => rfl | (intro _; omega) | rfl | exact fun e => absurd (List.map_eq_nil_iff.1 e) (by assumption) | (and_intros <;> first | omega | assumption | decide | exact all_len fun _ => rfl), ?_⟩
        obtain ⟨y10, hc16, hm⟩ := bd hm
        refine RP (fun _ => code_judge_reg_ok p1 (lit ([p2.r_, p2.a, p2.b] : List Int)) _ hc16) ?_
        by_cases h17 : y10 = true
        ·rw [if_pos h17] at hm
         have h17b : y10 = true := h17
         refine RunRest_ops ?_
         refine gox h17b ?_
         refine hk _ _ ?_
         clear hk hp k kp
         refine W_ret ?_
         refine KBlock_r ?_
         refine KThen_r ?_
         refine KBody_ret [] ?_
         obtain rfl := Option.some.inj hm
         exact en
        ·rw [if_neg h17] at hm
         have h17b : y10 = false := Bool.eq_false_iff.2 h17
         refine RunRest_ops ?_
         refine gox h17b ?_
         refine hk _ _ ?_
         clear hk hp k kp
         refine W_ret ?_
         refine KBlock_r ?_
         refine KThen_r ?_
         refine KBody_ret [] ?_
         obtain rfl := Option.some.inj hm
         exact en
       ·rw [if_neg h15] at hm
        refine W_condf rfl (beq_eq_false_iff_ne.2 h15) ?_
        refine W_rg [7, 69, 85] ?_
        by_cases h18 : p2.op = 8
        ·rw [if_pos h18] at hm
         refine W_condt rfl (beq_iff_eq.2 h18) ?_
         refine W_regF [2, 3, 16, 84, 86, 87, 88, 89, 90, 91, 92, 93, 94] fun k kp hk hp => ?_
         refine go ?_
         refine RunCall_turn (Ghost_fr 2 rfl) ?_
         simp only [bR, bT, tab, bX, reduceIte, ↓reduceIte, reduceCtorEq, Int.reduceToNat, Nat.reduceDiv, Nat.reduceMod, Nat.reduceLT, Nat.reduceLeDiff, Nat.reduceAdd, Nat.reduceSub, Nat.reduceMul, Nat.reduceEqDiff, Nat.reduceBEq, Nat.reduceBNe, Nat.reduceGT, bZ, List.replicate, List.foldr]
         repeat refine ⟨by first | omega | assumption | decide | exact all_len fun _ => rfl | (intro _; omega) | rfl | exact fun e => absurd (List.map_eq_nil_iff.1 e) (by assumption) | (and_intros <;> first | omega | assumption | decide | exact all_len fun _ => rfl), ?_⟩
         obtain ⟨y11, hc19, hm⟩ := bd hm
         refine RP (fun _ => code_judge_reg_ok p1 (lit ([p2.r_, p2.a, p2.b] : List Int)) _ hc19) ?_
         refine RunRest_ops ?_
         refine go ?_
         refine hk _ _ ?_
         clear hk hp k kp
         refine W_ret ?_
         refine KBlock_r ?_
         refine KThen_r ?_
         refine KBody_ret [] ?_
         obtain rfl := Option.some.inj hm
         exact en
        ·rw [if_neg h18] at hm
         refine W_condf rfl (beq_eq_false_iff_ne.2 h18) ?_
         refine W_rg [84, 96] ?_
         by_cases h20 : p2.op = 9
         ·rw [if_pos h20] at hm
          refine W_condt rfl (beq_iff_eq.2 h20) ?_
          refine W_regF [2, 3, 16, 95, 97, 98, 99, 100, 101, 102, 103] fun k kp hk hp => ?_
          refine go ?_
          refine RunCall_turn (Ghost_fr 2 rfl) ?_
          simp only [bR, bT, tab, bX, reduceIte, ↓reduceIte, reduceCtorEq, Int.reduceToNat, Nat.reduceDiv, Nat.reduceMod, Nat.reduceLT, Nat.reduceLeDiff, Nat.reduceAdd, Nat.reduceSub, Nat.reduceMul, Nat.reduceEqDiff, Nat.reduceBEq, Nat.reduceBNe, Nat.reduceGT, bZ, List.replicate, List.foldr]
          repeat refine ⟨by first | omega | assumption | decide | exact all_len fun _ => rfl | (intro _; omega) | rfl | exact fun e => absurd (List.map_eq_nil_iff.1 e) (by assumption) | (and_intros <;> first | omega | assumption | decide | exact all_len fun _ => rfl), ?_⟩
          obtain ⟨y12, hc21, hm⟩ := bd hm
          refine RP (fun _ => code_judge_reg_ok p1 (lit ([p2.r_, p2.a] : List Int)) _ hc21) ?_
          refine RunRest_ops ?_
          refine go ?_
          refine hk _ _ ?_
          clear hk hp k kp
          refine W_ret ?_
          refine KBlock_r ?_
          refine KThen_r ?_
          refine KBody_ret [] ?_
          obtain rfl := Option.some.inj hm
          exact en
         ·rw [if_neg h20] at hm
          refine W_condf rfl (beq_eq_false_iff_ne.2 h20) ?_
          refine W_rg [16, 95, 105] ?_
          by_cases h22 : p2.op = 10
          ·rw [if_pos h22] at hm
           refine W_condt rfl (beq_iff_eq.2 h22) ?_
           refine W_regF [2, 3, 104, 106, 107, 108, 109, 110, 111, 112, 113, 114, 115, 116, 117, 118, 119, 120] fun k kp hk hp => ?_
           refine go ?_
           refine RunCall_turn (Ghost_fr 2 rfl) ?_
           simp only [bR, bT, tab, bX, reduceIte, ↓reduceIte, reduceCtorEq, Int.reduceToNat, Nat.reduceDiv, Nat.reduceMod, Nat.reduceLT, Nat.reduceLeDiff, Nat.reduceAdd, Nat.reduceSub, Nat.reduceMul, Nat.reduceEqDiff, Nat.reduceBEq, Nat.reduceBNe, Nat.reduceGT, bZ, List.replicate, List.foldr]
           repeat refine ⟨by first | omega | assumption | decide | exact all_len fun _ => rfl | (intro _; omega) | rfl | exact fun e => absurd (List.map_eq_nil_iff.1 e) (by assumption) | (and_intros <;> first | omega | assumption | decide | exact all_len fun _ => rfl), ?_⟩
           obtain ⟨y13, hc23, hm⟩ := bd hm
           refine RP (fun _ => code_judge_reg_ok p1 (lit ([p2.r_] : List Int)) _ hc23) ?_
           by_cases h24 : y13 = true
           ·rw [if_pos h24] at hm
            have h24b : y13 = true := h24
            by_cases h25 : p2.n ≥ 1
            ·rw [if_pos h25] at hm
             have h25b : decide (p2.n ≥ 1) = true := decide_eq_true h25
             refine RunRest_ops ?_
             refine gox (a2 h24b h25b) ?_
             refine hk _ _ ?_
             clear hk hp k kp
             refine W_ret ?_
             refine KBlock_r ?_
             refine KThen_r ?_
             refine KBody_ret [] ?_
             obtain rfl := Option.some.inj hm
             exact en
            ·rw [if_neg h25] at hm
             have h25b : decide (p2.n ≥ 1) = false := decide_eq_false h25
             refine RunRest_ops ?_
             refine gox (a2 h24b h25b) ?_
             refine hk _ _ ?_
             clear hk hp k kp
             refine W_ret ?_
             refine KBlock_r ?_
             refine KThen_r ?_
             refine KBody_ret [] ?_
             obtain rfl := Option.some.inj hm
             exact en
           ·rw [if_neg h24] at hm
            have h24b : y13 = false := Bool.eq_false_iff.2 h24
            refine RunRest_ops ?_
            refine gox h24b ?_
            refine hk _ _ ?_
            clear hk hp k kp
            refine W_ret ?_
            refine KBlock_r ?_
            refine KThen_r ?_
            refine KBody_ret [] ?_
            obtain rfl := Option.some.inj hm
            exact en
          ·rw [if_neg h22] at hm
           refine W_condf rfl (beq_eq_false_iff_ne.2 h22) ?_
           refine W_skip ?_
           refine KBlock_n ?_
           refine KThen_n (hk1 _ _ ?_)
           refine W_rg [2, 3, 104, 121, 122, 123] ?_
           refine W_ret ?_
           refine KBody_ret [] ?_
           obtain rfl := Option.some.inj hm
           exact en
end Pam

/- the walk of code_Cost, printed by a program of ours -/
namespace Pam
open Go Go.Proofs
set_option maxRecDepth 100000 in
set_option maxHeartbeats 1000000 in
theorem code_Cost_ok (p1 : List TIns) (r : Int) (hm : code_Cost p1 = some r) : SpecF Try.prog 20 [.c (.tree 6 (p1.map TIns.enc))] (.c (.int .i64 r)) := by
 refine Spec_ofD 47 [.tmp 2] Try.func20 rfl rfl rfl (by kernel_rfl) (by simp) ?_
 refine W_eqf ?_
 unfold code_Cost at hm
 refine W_rg [2] ?_
 refine W_rg [] ?_
 refine W_joinM (S := (Int × Int)) (V := Unit) [0, 2, 3, 4, 5, 7, 8, 9, 10, 11, 12, 13, 14, 15, 16, 17, 18, 19, 20, 21, 22, 23, 24, 25, 26, 27, 28, 29, 30, 31, 32, 33, 34, 35, 36, 37, 38, 39, 40, 41, 42, 43] (fun (x1, x2) _ => [(3, .c (.int .i64 x1)), (5, .c (.int .i64 x2))]) (fun (x1, x2) _ => []) (fun (x1, x2) => code_Cost_j1 x1 x2 = some r) ?_ ?_
 ·skip
  refine W_rg [0] ?_
  refine W_block ?_
  obtain ⟨o1, hl1, hm1⟩ := bd hm
  refine W_loopM (S := (Int × Int × Int × Int)) (V := Unit) (O := (Int × Int) ⊕ Int) [2, 3, 4, 5, 7, 10, 11, 12, 13, 14, 15, 16, 17, 18, 19, 20, 21, 22, 23, 24, 25, 26, 27, 28, 29, 30, 31, 32, 33, 34, 35, 36, 37, 38, 39, 40, 41, 42, 43] (fun (x11, x12, x13, x14) _ => [(3, .c (.int .i64 x11)), (4, .c (.int .i64 x12)), (5, .c (.int .i64 x13)), (10, .c (.int .i64 x14))]) (fun (x11, x12, x13, x14) _ => []) _ _ () hl1 ?_ ?_
  ·exact ls
  ·rintro ⟨x11, x12, x13, x14⟩ _ r1 hm hr1
   replace hm : code_Cost_l1 p1 x11 x12 x13 x14 = some r1 := hm
   refine W_eqm ?_
   unfold code_Cost_l1 at hm
   refine W_rg [] ?_
   refine W_seq_k fun k2 hk2 => ?_
   by_cases h2 : x14 < (p1.length : Int)
   ·rw [if_pos h2] at hm
    refine W_condt rfl (decide_eq_true h2) ?_
    refine W_skip ?_
    refine KThen_n (hk2 _ _ ?_)
    refine W_seq_k fun k3 hk3 => ?_
    refine W_block ?_
    obtain ⟨hg3a, hm⟩ := gd hm
    refine W_rgx (em TIns.enc p1 x14.toNat) [11, 12, 13] ?_
    refine W_rg [14, 15, 16] ?_
    refine W_rg [17] ?_
    refine W_block ?_
    refine W_rg [20] ?_
    by_cases h4 : ((p1.getD x14.toNat default).op) = 10
    ·rw [if_pos h4] at hm
     refine W_condt rfl (beq_iff_eq.2 h4) ?_
     refine W_seq_k fun k4 hk4 => ?_
     by_cases h5 : x12 > 1
     ·rw [if_pos h5] at hm
      have h5b : decide (x12 > 1) = true := decide_eq_true h5
      refine W_rgx h5b [4, 5, 18, 19, 21, 22, 23, 24, 25, 26, 27, 28, 29, 30, 31, 32, 33, 34, 35] ?_
      refine W_condt rfl rfl ?_
      refine W_rg [3, 7, 8, 9, 10, 36] ?_
      have ho6 := out_eq hm hr1
      subst ho6
      replace hm : some 0 = some r := hm1
      refine W_ret ?_
      refine KThen_r ?_
      refine KBlock_r ?_
      refine KBlock_r ?_
      refine KThen_r ?_
      refine KLoopM_r ?_
      refine KBlock_r ?_
      refine KJoinM_r ?_
      refine KBody_ret [] ?_
      obtain rfl := Option.some.inj hm
      exact en
     ·rw [if_neg h5] at hm
      have h5b : decide (x12 > 1) = false := decide_eq_false h5
      by_cases h7 : x13 > 0
      ·rw [if_pos h7] at hm
       have h7b : decide (x13 > 0) = true := decide_eq_true h7
       refine W_rgx (a2 h5b h7b) [4, 5, 18, 19, 21, 22, 23, 24, 25, 26, 27, 28, 29, 30, 31, 32, 33, 34, 35] ?_
       refine W_condt rfl rfl ?_
       refine W_rg [3, 7, 8, 9, 10, 36] ?_
       have ho8 := out_eq hm hr1
       subst ho8
       replace hm : some 0 = some r := hm1
       refine W_ret ?_
       refine KThen_r ?_
       refine KBlock_r ?_
       refine KBlock_r ?_
       refine KThen_r ?_
       refine KLoopM_r ?_
       refine KBlock_r ?_
       refine KJoinM_r ?_
       refine KBody_ret [] ?_
       obtain rfl := Option.some.inj hm
       exact en
      ·rw [if_neg h7] at hm
       have h7b : decide (x13 > 0) = false := decide_eq_false h7
       by_cases h9 : ((p1.getD x14.toNat default).n) < 1
       ·rw [if_pos h9] at hm
        have h9b : decide (((p1.getD x14.toNat default).n) < 1) = true := decide_eq_true h9
        refine W_rgx (a2 h5b (a2 h7b h9b)) [4, 5, 18, 19, 21, 22, 23, 24, 25, 26, 27, 28, 29, 30, 31, 32, 33, 34, 35] ?_
        refine W_condt rfl rfl ?_
        refine W_rg [3, 7, 8, 9, 10, 36] ?_
        have ho10 := out_eq hm hr1
        subst ho10
        replace hm : some 0 = some r := hm1
        refine W_ret ?_
        refine KThen_r ?_
        refine KBlock_r ?_
        refine KBlock_r ?_
        refine KThen_r ?_
        refine KLoopM_r ?_
        refine KBlock_r ?_
        refine KJoinM_r ?_
        refine KBody_ret [] ?_
        obtain rfl := Option.some.inj hm
        exact en
       ·rw [if_neg h9] at hm
        have h9b : decide (((p1.getD x14.toNat default).n) < 1) = false := decide_eq_false h9
        refine W_rgx (a2 h5b (a2 h7b h9b)) [4, 5, 18, 19, 21, 22, 23, 24, 25, 26, 27, 28, 29, 30, 31, 32, 33, 34, 35] ?_
        by_cases h11 : ((p1.getD x14.toNat default).n) > 300
        ·rw [if_pos h11] at hm
         refine W_condt rfl (decide_eq_true h11) ?_
         refine W_rg [3, 7, 8, 9, 10, 36] ?_
         have ho12 := out_eq hm hr1
         subst ho12
         replace hm : some 0 = some r := hm1
         refine W_ret ?_
         refine KThen_r ?_
         refine KBlock_r ?_
         refine KBlock_r ?_
         refine KThen_r ?_
         refine KLoopM_r ?_
         refine KBlock_r ?_
         refine KJoinM_r ?_
         refine KBody_ret [] ?_
         obtain rfl := Option.some.inj hm
         exact en
        ·rw [if_neg h11] at hm
         refine W_condf rfl (decide_eq_false h11) ?_
         refine W_skip ?_
         refine KThen_n (hk4 _ _ ?_)
         refine W_rn ?_
         refine KBlock_n ?_
         refine KBlock_n ?_
         refine KThen_n (hk3 _ _ ?_)
         refine W_rn ?_
         refine KLoopM_n ((IntKind.wrap .i64 (x11 + x12)), (p1.getD x14.toNat default).n, 1, (IntKind.wrap .i64 (x14 + 1))) () hm ?_
         exact ls
    ·rw [if_neg h4] at hm
     refine W_condf rfl (beq_eq_false_iff_ne.2 h4) ?_
     refine W_rg [7, 18, 19, 40] ?_
     by_cases h13 : ((p1.getD x14.toNat default).op) = 11
     ·rw [if_pos h13] at hm
      refine W_condt rfl (beq_iff_eq.2 h13) ?_
      refine W_seq_k fun k5 hk5 => ?_
      refine W_rg [4, 5, 39, 41] ?_
      by_cases h14 : x13 = 0
      ·rw [if_pos h14] at hm
       refine W_condt rfl (beq_iff_eq.2 h14) ?_
       refine W_rg [3, 8, 9, 10, 42] ?_
       have ho15 := out_eq hm hr1
       subst ho15
       replace hm : some 0 = some r := hm1
       refine W_ret ?_
       refine KThen_r ?_
       refine KBlock_r ?_
       refine KBlock_r ?_
       refine KThen_r ?_
       refine KLoopM_r ?_
       refine KBlock_r ?_
       refine KJoinM_r ?_
       refine KBody_ret [] ?_
       obtain rfl := Option.some.inj hm
       exact en
      ·rw [if_neg h14] at hm
       refine W_condf rfl (beq_eq_false_iff_ne.2 h14) ?_
       refine W_skip ?_
       refine KThen_n (hk5 _ _ ?_)
       refine W_rn ?_
       refine KBlock_n ?_
       refine KBlock_n ?_
       refine KThen_n (hk3 _ _ ?_)
       refine W_rn ?_
       refine KLoopM_n ((IntKind.wrap .i64 (x11 + x12)), 1, 0, (IntKind.wrap .i64 (x14 + 1))) () hm ?_
       exact ls
     ·rw [if_neg h13] at hm
      refine W_condf rfl (beq_eq_false_iff_ne.2 h13) ?_
      refine W_skip ?_
      refine KBlock_n ?_
      refine KBlock_n ?_
      refine KThen_n (hk3 _ _ ?_)
      refine W_rn ?_
      refine KLoopM_n ((IntKind.wrap .i64 (x11 + x12)), x12, x13, (IntKind.wrap .i64 (x14 + 1))) () hm ?_
      exact ls
   ·rw [if_neg h2] at hm
    refine W_condf rfl (decide_eq_false h2) ?_
    refine W_exit ?_
    have ho16 := out_eq hm hr1
    subst ho16
    replace hm : code_Cost_j1 x11 x13 = some r := hm1
    refine KThen_x ?_
    refine KLoopM_x ?_
    refine KBlock_hit ?_
    refine KJoinM_n (x11, x13) () hm ?_
    exact ls
 ·rintro ⟨x1, x2⟩ _ hm
  replace hm : code_Cost_j1 x1 x2 = some r := hm
  refine W_eqm ?_
  unfold code_Cost_j1 at hm
  refine W_seq_k fun k1 hk1 => ?_
  refine W_rg [5, 44] ?_
  by_cases h1 : x2 > 0
  ·rw [if_pos h1] at hm
   refine W_condt rfl (decide_eq_true h1) ?_
   refine W_rg [3, 45] ?_
   refine W_ret ?_
   refine KThen_r ?_
   refine KBody_ret [] ?_
   obtain rfl := Option.some.inj hm
   exact en
  ·rw [if_neg h1] at hm
   refine W_condf rfl (decide_eq_false h1) ?_
   refine W_skip ?_
   refine KThen_n (hk1 _ _ ?_)
   refine W_rg [3, 45, 46] ?_
   refine W_ret ?_
   refine KBody_ret [] ?_
   obtain rfl := Option.some.inj hm
   exact en
end Pam

/- the walk of code_Check, printed by a program of ours -/
namespace Pam
open Go Go.Proofs
set_option maxRecDepth 100000 in
set_option maxHeartbeats 1000000 in
theorem code_Check_ok (p1 : TImage) (r : TFault) (hm : code_Check p1 = some r) : SpecF Try.prog 18 [.a [.int .i64 p1.cells, .int .i64 p1.regs, .int .i64 p1.cost, .tree 1 (p1.put.map (eK .i64)), .tree 1 (p1.bools.map (eK .i64)), .tree 1 (p1.get.map (eK .i64)), .tree 6 (p1.code.map TIns.enc)]] (.a [.int .i64 ((r).code), .int .i64 ((r).at_)]) := by
 refine Spec_ofD 116 [.cell 2 30] Try.func18 rfl rfl rfl (by kernel_rfl) (by simp) ?_
 refine W_eqf ?_
 unfold code_Check at hm
 refine W_rg [0] ?_
 refine W_seq_k fun k1 hk1 => ?_
 by_cases h1 : p1.cells < 1
 ·rw [if_pos h1] at hm
  have h1b : decide (p1.cells < 1) = true := decide_eq_true h1
  refine W_rgx h1b [10, 11, 12, 13, 14, 15, 16, 17, 18, 19, 20, 21, 22, 23, 24, 25, 26] ?_
  refine W_condt rfl rfl ?_
  refine W_rg [1, 27, 28] ?_
  refine W_ret ?_
  refine KThen_r ?_
  refine KBody_ret [] ?_
  obtain rfl := Option.some.inj hm
  exact en
 ·rw [if_neg h1] at hm
  have h1b : decide (p1.cells < 1) = false := decide_eq_false h1
  by_cases h2 : p1.cells > 6000
  ·rw [if_pos h2] at hm
   have h2b : decide (p1.cells > 6000) = true := decide_eq_true h2
   refine W_rgx (a2 h1b h2b) [10, 11, 12, 13, 14, 15, 16, 17, 18, 19, 20, 21, 22, 23, 24, 25, 26] ?_
   refine W_condt rfl rfl ?_
   refine W_rg [1, 27, 28] ?_
   refine W_ret ?_
   refine KThen_r ?_
   refine KBody_ret [] ?_
   obtain rfl := Option.some.inj hm
   exact en
  ·rw [if_neg h2] at hm
   have h2b : decide (p1.cells > 6000) = false := decide_eq_false h2
   by_cases h3 : p1.regs < 1
   ·rw [if_pos h3] at hm
    have h3b : decide (p1.regs < 1) = true := decide_eq_true h3
    refine W_rgx (a2 h1b (a2 h2b h3b)) [10, 11, 12, 13, 14, 15, 16, 17, 18, 19, 20, 21, 22, 23, 24, 25, 26] ?_
    refine W_condt rfl rfl ?_
    refine W_rg [1, 27, 28] ?_
    refine W_ret ?_
    refine KThen_r ?_
    refine KBody_ret [] ?_
    obtain rfl := Option.some.inj hm
    exact en
   ·rw [if_neg h3] at hm
    have h3b : decide (p1.regs < 1) = false := decide_eq_false h3
    refine W_rgx (a2 h1b (a2 h2b h3b)) [10, 11, 12, 13, 14, 15, 16, 17, 18, 19, 20, 21, 22, 23, 24, 25, 26] ?_
    by_cases h4 : p1.regs > 40
    ·rw [if_pos h4] at hm
     refine W_condt rfl (decide_eq_true h4) ?_
     refine W_rg [1, 27, 28] ?_
     refine W_ret ?_
     refine KThen_r ?_
     refine KBody_ret [] ?_
     obtain rfl := Option.some.inj hm
     exact en
    ·rw [if_neg h4] at hm
     refine W_condf rfl (decide_eq_false h4) ?_
     refine W_skip ?_
     refine KThen_n (hk1 _ _ ?_)
     refine W_seq_k fun k2 hk2 => ?_
     by_cases h5 : (p1.put.length : Int) > 6000
     ·rw [if_pos h5] at hm
      have h5b : decide ((p1.put.length : Int) > 6000) = true := decide_eq_true h5
      refine W_rgx h5b [27, 29, 30, 31, 32, 33, 34, 35, 36, 37, 38, 39, 40, 41, 42, 43, 44, 45, 46, 47, 48, 49] ?_
      refine W_condt rfl rfl ?_
      refine W_rg [1, 50, 51] ?_
      refine W_ret ?_
      refine KThen_r ?_
      refine KBody_ret [] ?_
      obtain rfl := Option.some.inj hm
      exact en
     ·rw [if_neg h5] at hm
      have h5b : decide ((p1.put.length : Int) > 6000) = false := decide_eq_false h5
      by_cases h6 : (p1.bools.length : Int) > 6000
      ·rw [if_pos h6] at hm
       have h6b : decide ((p1.bools.length : Int) > 6000) = true := decide_eq_true h6
       refine W_rgx (a2 h5b h6b) [27, 29, 30, 31, 32, 33, 34, 35, 36, 37, 38, 39, 40, 41, 42, 43, 44, 45, 46, 47, 48, 49] ?_
       refine W_condt rfl rfl ?_
       refine W_rg [1, 50, 51] ?_
       refine W_ret ?_
       refine KThen_r ?_
       refine KBody_ret [] ?_
       obtain rfl := Option.some.inj hm
       exact en
      ·rw [if_neg h6] at hm
       have h6b : decide ((p1.bools.length : Int) > 6000) = false := decide_eq_false h6
       by_cases h7 : (p1.get.length : Int) > 120000
       ·rw [if_pos h7] at hm
        have h7b : decide ((p1.get.length : Int) > 120000) = true := decide_eq_true h7
        refine W_rgx (a2 h5b (a2 h6b h7b)) [27, 29, 30, 31, 32, 33, 34, 35, 36, 37, 38, 39, 40, 41, 42, 43, 44, 45, 46, 47, 48, 49] ?_
        refine W_condt rfl rfl ?_
        refine W_rg [1, 50, 51] ?_
        refine W_ret ?_
        refine KThen_r ?_
        refine KBody_ret [] ?_
        obtain rfl := Option.some.inj hm
        exact en
       ·rw [if_neg h7] at hm
        have h7b : decide ((p1.get.length : Int) > 120000) = false := decide_eq_false h7
        refine W_rgx (a2 h5b (a2 h6b h7b)) [27, 29, 30, 31, 32, 33, 34, 35, 36, 37, 38, 39, 40, 41, 42, 43, 44, 45, 46, 47, 48, 49] ?_
        by_cases h8 : (p1.code.length : Int) > 200000
        ·rw [if_pos h8] at hm
         refine W_condt rfl (decide_eq_true h8) ?_
         refine W_rg [1, 50, 51] ?_
         refine W_ret ?_
         refine KThen_r ?_
         refine KBody_ret [] ?_
         obtain rfl := Option.some.inj hm
         exact en
        ·rw [if_neg h8] at hm
         refine W_condf rfl (decide_eq_false h8) ?_
         refine W_skip ?_
         refine KThen_n (hk2 _ _ ?_)
         refine W_joinM (S := Unit) (V := Unit) [4, 6, 50, 52, 53, 54, 55, 56, 57, 58, 59, 60, 61, 62, 63, 64, 65, 66, 67, 68, 69, 70, 71, 72, 73, 74, 75, 76, 77, 78, 79, 80] (fun _ _ => []) (fun _ _ => [.box [.int .i64 p1.cells, .int .i64 p1.regs, .int .i64 p1.cost, .tree 1 (p1.put.map (eK .i64)), .tree 1 (p1.bools.map (eK .i64)), .tree 1 (p1.get.map (eK .i64)), .tree 6 (p1.code.map TIns.enc)], .box [.int .i64 0, .int .i64 0]]) (fun _ => code_Check_j1 p1 = some r) ?_ ?_
         ·skip
          refine W_rg [50, 52, 53, 54, 55, 56, 57] ?_
          refine W_eqa [.box [.int .i64 p1.cells, .int .i64 p1.regs, .int .i64 p1.cost, .tree 1 (p1.put.map (eK .i64)), .tree 1 (p1.bools.map (eK .i64)), .tree 1 (p1.get.map (eK .i64)), .tree 6 (p1.code.map TIns.enc)], .box [.int .i64 0, .int .i64 0], .arr 1 0 22 ((lit ([p1.put, p1.bools, p1.get] : List (List Int))).map (eL 1 (eK .i64)))] ?_
          refine W_block ?_
          obtain ⟨o2, hl2, hm2⟩ := bd hm
          refine W_loopM (S := Int) (V := Unit) (O := Unit ⊕ TFault) [4, 6, 58, 60, 61, 62, 63, 64, 65, 66, 67, 68, 69, 70, 71, 72, 73, 74, 75, 76, 77, 78, 79, 80] (fun x9 _ => [(58, .c (.osl 2 0 0 3)), (60, .c (.int .i64 x9))]) (fun x9 _ => [.box [.int .i64 p1.cells, .int .i64 p1.regs, .int .i64 p1.cost, .tree 1 (p1.put.map (eK .i64)), .tree 1 (p1.bools.map (eK .i64)), .tree 1 (p1.get.map (eK .i64)), .tree 6 (p1.code.map TIns.enc)], .box [.int .i64 0, .int .i64 0], .arr 1 0 22 ((lit ([p1.put, p1.bools, p1.get] : List (List Int))).map (eL 1 (eK .i64)))]) _ _ () hl2 ?_ ?_
          ·exact ls
          ·rintro x9 _ r2 hm hr2
           replace hm : code_Check_l2 p1 x9 = some r2 := hm
           refine W_eqm ?_
           unfold code_Check_l2 at hm
           refine W_rg [] ?_
           refine W_seq_k fun k6 hk6 => ?_
           by_cases h20 : x9 < (3 : Int)
           ·rw [if_pos h20] at hm
            refine W_condt rfl (decide_eq_true h20) ?_
            refine W_skip ?_
            refine KThen_n (hk6 _ _ ?_)
            refine W_joinM (S := Unit) (V := Unit) [4, 6, 58, 61, 62, 63, 64, 65, 66, 67, 68, 69, 70, 71, 72, 73, 74, 75, 76, 77, 78, 79] (fun _ _ => [(58, .c (.osl 2 0 0 3))]) (fun _ _ => [.box [.int .i64 p1.cells, .int .i64 p1.regs, .int .i64 p1.cost, .tree 1 (p1.put.map (eK .i64)), .tree 1 (p1.bools.map (eK .i64)), .tree 1 (p1.get.map (eK .i64)), .tree 6 (p1.code.map TIns.enc)], .box [.int .i64 0, .int .i64 0], .arr 1 0 22 ((lit ([p1.put, p1.bools, p1.get] : List (List Int))).map (eL 1 (eK .i64)))]) (fun _ => code_Check_j3 x9 = some r2) ?_ ?_
            ·skip
             refine W_block ?_
             obtain ⟨hg21a, hm⟩ := gd hm
             refine W_rgx (em (eL 1 (eK .i64)) (lit ([p1.put, p1.bools, p1.get] : List (List Int))) x9.toNat) [61, 62, 63] ?_
             refine W_rg [4] ?_
             refine W_block ?_
             obtain ⟨o3, hl3, hm3⟩ := bd hm
             refine W_loopM (S := Int) (V := Unit) (O := Unit ⊕ TFault) [6, 58, 66, 67, 68, 69, 70, 71, 72, 73, 74, 75, 76, 77, 78, 79] (fun x12 _ => [(58, .c (.osl 2 0 0 3)), (66, .c (.int .i64 x12))]) (fun x12 _ => [.box [.int .i64 p1.cells, .int .i64 p1.regs, .int .i64 p1.cost, .tree 1 (p1.put.map (eK .i64)), .tree 1 (p1.bools.map (eK .i64)), .tree 1 (p1.get.map (eK .i64)), .tree 6 (p1.code.map TIns.enc)], .box [.int .i64 0, .int .i64 0], .arr 1 0 22 ((lit ([p1.put, p1.bools, p1.get] : List (List Int))).map (eL 1 (eK .i64)))]) _ _ () hl3 ?_ ?_
             ·exact ls
             ·rintro x12 _ r3 hm hr3
              replace hm : code_Check_l3 p1 x9 x12 = some r3 := hm
              refine W_eqm ?_
              unfold code_Check_l3 at hm
              refine W_rg [] ?_
              refine W_seq_k fun k7 hk7 => ?_
              by_cases h22 : x12 < (((lit ([p1.put, p1.bools, p1.get] : List (List Int))).getD x9.toNat default).length : Int)
              ·rw [if_pos h22] at hm
               refine W_condt rfl (decide_eq_true h22) ?_
               refine W_skip ?_
               refine KThen_n (hk7 _ _ ?_)
               refine W_seq_k fun k8 hk8 => ?_
               refine W_block ?_
               obtain ⟨hg23a, hm⟩ := gd hm
               refine W_rgx (em (eK .i64) ((lit ([p1.put, p1.bools, p1.get] : List (List Int))).getD x9.toNat default) x12.toNat) [67, 68, 69] ?_
               by_cases h24 : (((lit ([p1.put, p1.bools, p1.get] : List (List Int))).getD x9.toNat default).getD x12.toNat default) < 0
               ·rw [if_pos h24] at hm
                have h24b : decide ((((lit ([p1.put, p1.bools, p1.get] : List (List Int))).getD x9.toNat default).getD x12.toNat default) < 0) = true := decide_eq_true h24
                refine W_rgx h24b [6, 70, 71, 72, 73, 74, 75, 76] ?_
                refine W_condt rfl rfl ?_
                refine W_rg [1, 58, 59, 60, 64, 65, 66, 77, 78] ?_
                have ho25 := out_eq hm hr3
                subst ho25
                replace hm : some (.inr (.inr (TFault.mk 16 (-1)))) = some r2 := hm3
                have ho26 := out_eq hm hr2
                subst ho26
                replace hm : some (TFault.mk 16 (-1)) = some r := hm2
                refine W_ret ?_
                refine KBlock_r ?_
                refine KThen_r ?_
                refine KLoopM_r ?_
                refine KBlock_r ?_
                refine KBlock_r ?_
                refine KJoinM_r ?_
                refine KLoopM_r ?_
                refine KBlock_r ?_
                refine KJoinM_r ?_
                refine KBody_ret [] ?_
                obtain rfl := Option.some.inj hm
                exact en
               ·rw [if_neg h24] at hm
                have h24b : decide ((((lit ([p1.put, p1.bools, p1.get] : List (List Int))).getD x9.toNat default).getD x12.toNat default) < 0) = false := decide_eq_false h24
                refine W_rgx h24b [6, 70, 71, 72, 73, 74, 75, 76] ?_
                by_cases h27 : (((lit ([p1.put, p1.bools, p1.get] : List (List Int))).getD x9.toNat default).getD x12.toNat default) ≥ p1.cells
                ·rw [if_pos h27] at hm
                 refine W_condt rfl (decide_eq_true h27) ?_
                 refine W_rg [1, 58, 59, 60, 64, 65, 66, 77, 78] ?_
                 have ho28 := out_eq hm hr3
                 subst ho28
                 replace hm : some (.inr (.inr (TFault.mk 16 (-1)))) = some r2 := hm3
                 have ho29 := out_eq hm hr2
                 subst ho29
                 replace hm : some (TFault.mk 16 (-1)) = some r := hm2
                 refine W_ret ?_
                 refine KBlock_r ?_
                 refine KThen_r ?_
                 refine KLoopM_r ?_
                 refine KBlock_r ?_
                 refine KBlock_r ?_
                 refine KJoinM_r ?_
                 refine KLoopM_r ?_
                 refine KBlock_r ?_
                 refine KJoinM_r ?_
                 refine KBody_ret [] ?_
                 obtain rfl := Option.some.inj hm
                 exact en
                ·rw [if_neg h27] at hm
                 refine W_condf rfl (decide_eq_false h27) ?_
                 refine W_skip ?_
                 refine KBlock_n ?_
                 refine KThen_n (hk8 _ _ ?_)
                 refine W_rn ?_
                 refine KLoopM_n (IntKind.wrap .i64 (x12 + 1)) () hm ?_
                 exact ls
              ·rw [if_neg h22] at hm
               refine W_condf rfl (decide_eq_false h22) ?_
               refine W_exit ?_
               have ho30 := out_eq hm hr3
               subst ho30
               replace hm : code_Check_j3 x9 = some r2 := hm3
               refine KThen_x ?_
               refine KLoopM_x ?_
               refine KBlock_hit ?_
               refine KBlock_n ?_
               refine KJoinM_n () () hm ?_
               exact ls
            ·rintro _ _ hm
             replace hm : code_Check_j3 x9 = some r2 := hm
             refine W_eqm ?_
             unfold code_Check_j3 at hm
             refine W_rn ?_
             refine KLoopM_n (IntKind.wrap .i64 (x9 + 1)) () hm ?_
             exact ls
           ·rw [if_neg h20] at hm
            refine W_condf rfl (decide_eq_false h20) ?_
            refine W_exit ?_
            have ho31 := out_eq hm hr2
            subst ho31
            replace hm : code_Check_j1 p1 = some r := hm2
            refine KThen_x ?_
            refine KLoopM_x ?_
            refine KBlock_hit ?_
            refine KJoinM_n () () hm ?_
            exact ls
         ·rintro _ _ hm
          replace hm : code_Check_j1 p1 = some r := hm
          refine W_eqm ?_
          unfold code_Check_j1 at hm
          refine W_joinM (S := Unit) (V := Unit) [7, 8, 81, 82, 83, 84, 85, 86, 87, 88, 89, 90, 91, 92, 93, 94, 95, 96] (fun _ _ => []) (fun _ _ => [.box [.int .i64 p1.cells, .int .i64 p1.regs, .int .i64 p1.cost, .tree 1 (p1.put.map (eK .i64)), .tree 1 (p1.bools.map (eK .i64)), .tree 1 (p1.get.map (eK .i64)), .tree 6 (p1.code.map TIns.enc)], .box [.int .i64 0, .int .i64 0]]) (fun _ => code_Check_j2 p1 = some r) ?_ ?_
          ·skip
           refine W_rg [81] ?_
           refine W_block ?_
           obtain ⟨o1, hl1, hm1⟩ := bd hm
           refine W_loopM (S := Int) (V := Unit) (O := Unit ⊕ TFault) [7, 8, 84, 85, 86, 87, 88, 89, 90, 91, 92, 93, 94, 95, 96] (fun x4 _ => [(84, .c (.int .i64 x4))]) (fun x4 _ => [.box [.int .i64 p1.cells, .int .i64 p1.regs, .int .i64 p1.cost, .tree 1 (p1.put.map (eK .i64)), .tree 1 (p1.bools.map (eK .i64)), .tree 1 (p1.get.map (eK .i64)), .tree 6 (p1.code.map TIns.enc)], .box [.int .i64 0, .int .i64 0]]) _ _ () hl1 ?_ ?_
           ·exact ls
           ·rintro x4 _ r1 hm hr1
            replace hm : code_Check_l1 p1 x4 = some r1 := hm
            refine W_eqm ?_
            unfold code_Check_l1 at hm
            refine W_rg [] ?_
            refine W_seq_k fun k4 hk4 => ?_
            by_cases h14 : x4 < (p1.code.length : Int)
            ·rw [if_pos h14] at hm
             refine W_condt rfl (decide_eq_true h14) ?_
             refine W_skip ?_
             refine KThen_n (hk4 _ _ ?_)
             refine W_seq_k fun k5 hk5 => ?_
             refine W_block ?_
             obtain ⟨hg15a, hm⟩ := gd hm
             refine W_rgx (em TIns.enc p1.code x4.toNat) [85, 86, 87, 88] ?_
             refine W_regF [8, 89, 90, 91, 92] fun k kp hk hp => ?_
             refine go ?_
             obtain ⟨y5, hc16, hm⟩ := bd hm
             refine RP (fun _ => code_judge_fits_ok (Tjudge.mk p1) (p1.code.getD x4.toNat default) _ hc16) ?_
             refine RunRest_ops ?_
             refine go ?_
             refine hk _ _ ?_
             clear hk hp k kp
             by_cases h17 : y5 = true
             ·rw [if_pos h17] at hm
              refine W_condf rfl (by rw [show y5 = true from (h17)]; rfl) ?_
              refine W_skip ?_
              refine KBlock_n ?_
              refine KThen_n (hk5 _ _ ?_)
              refine W_rn ?_
              refine KLoopM_n (IntKind.wrap .i64 (x4 + 1)) () hm ?_
              exact ls
             ·rw [if_neg h17] at hm
              refine W_condt rfl (by rw [show y5 = false from (Bool.eq_false_iff.2 h17)]; rfl) ?_
              refine W_rg [1, 7, 82, 83, 84, 93, 94, 95] ?_
              have ho18 := out_eq hm hr1
              subst ho18
              replace hm : some (TFault.mk 4 x4) = some r := hm1
              refine W_ret ?_
              refine KBlock_r ?_
              refine KThen_r ?_
              refine KLoopM_r ?_
              refine KBlock_r ?_
              refine KJoinM_r ?_
              refine KBody_ret [] ?_
              obtain rfl := Option.some.inj hm
              exact en
            ·rw [if_neg h14] at hm
             refine W_condf rfl (decide_eq_false h14) ?_
             refine W_exit ?_
             have ho19 := out_eq hm hr1
             subst ho19
             replace hm : code_Check_j2 p1 = some r := hm1
             refine KThen_x ?_
             refine KLoopM_x ?_
             refine KBlock_hit ?_
             refine KJoinM_n () () hm ?_
             exact ls
          ·rintro _ _ hm
           replace hm : code_Check_j2 p1 = some r := hm
           refine W_eqm ?_
           unfold code_Check_j2 at hm
           refine W_regF [97, 98, 99] fun k kp hk hp => ?_
           refine go ?_
           obtain ⟨y1, hc9, hm⟩ := bd hm
           refine RP (fun _ => code_Cost_ok p1.code _ hc9) ?_
           refine RunRest_ops ?_
           refine go ?_
           refine hk _ _ ?_
           clear hk hp k kp
           refine W_seq_k fun k3 hk3 => ?_
           by_cases h10 : y1 = 0
           ·rw [if_pos h10] at hm
            have h10b : (y1 == 0) = true := beq_iff_eq.2 h10
            by_cases h11 : (p1.code.length : Int) > 0
            ·rw [if_pos h11] at hm
             have h11b : decide ((p1.code.length : Int) > 0) = true := decide_eq_true h11
             refine W_rgx (a2 h10b h11b) [1, 9, 100, 101, 102, 103, 104, 105, 106, 107, 108, 109, 110, 111, 112] ?_
             refine W_condt rfl rfl ?_
             refine W_rg [113, 114] ?_
             refine W_ret ?_
             refine KThen_r ?_
             refine KBody_ret [] ?_
             obtain rfl := Option.some.inj hm
             exact en
            ·rw [if_neg h11] at hm
             have h11b : decide ((p1.code.length : Int) > 0) = false := decide_eq_false h11
             refine W_rgx (a2 h10b h11b) [1, 9, 100, 101, 102, 103, 104, 105, 106, 107, 108, 109, 110, 111, 112] ?_
             by_cases h12 : ¬ y1 = p1.cost
             ·rw [if_pos h12] at hm
              refine W_condt rfl (bne_iff_ne.2 h12) ?_
              refine W_rg [113, 114] ?_
              refine W_ret ?_
              refine KThen_r ?_
              refine KBody_ret [] ?_
              obtain rfl := Option.some.inj hm
              exact en
             ·rw [if_neg h12] at hm
              refine W_condf rfl (bne_eq_false_iff_eq.2 (Decidable.not_not.1 h12)) ?_
              refine W_skip ?_
              refine KThen_n (hk3 _ _ ?_)
              refine W_rg [113, 115] ?_
              refine W_ret ?_
              refine KBody_ret [] ?_
              obtain rfl := Option.some.inj hm
              exact en
           ·rw [if_neg h10] at hm
            have h10b : (y1 == 0) = false := beq_eq_false_iff_ne.2 h10
            refine W_rgx h10b [1, 9, 100, 101, 102, 103, 104, 105, 106, 107, 108, 109, 110, 111, 112] ?_
            by_cases h13 : ¬ y1 = p1.cost
            ·rw [if_pos h13] at hm
             refine W_condt rfl (bne_iff_ne.2 h13) ?_
             refine W_rg [113, 114] ?_
             refine W_ret ?_
             refine KThen_r ?_
             refine KBody_ret [] ?_
             obtain rfl := Option.some.inj hm
             exact en
            ·rw [if_neg h13] at hm
             refine W_condf rfl (bne_eq_false_iff_eq.2 (Decidable.not_not.1 h13)) ?_
             refine W_skip ?_
             refine KThen_n (hk3 _ _ ?_)
             refine W_rg [113, 115] ?_
             refine W_ret ?_
             refine KBody_ret [] ?_
             obtain rfl := Option.some.inj hm
             exact en
end Pam

/- the walk of slices_Clone_int_int, printed by a program of ours -/
namespace Pam
open Go Go.Proofs
set_option maxRecDepth 100000 in
set_option maxHeartbeats 1000000 in
theorem slices_Clone_int_int_ok (p1 : List Int) (r : (List Int)) (hm : slices_Clone_int_int p1 = some r) : Spec Try.prog 83 [.c (.tree 1 (p1.map (eK .i64)))] [] (fun p σ => (p = .c (.osl 0 1 0 r.length) ∧ σ = [.arr 1 1 3 (r.map (eK .i64))])) (fun _ _ => False) := by
 refine Spec_ofD 8 [.tmp 2] Try.func83 rfl rfl rfl (by kernel_rfl) (by simp) ?_
 refine W_eqf ?_
 unfold slices_Clone_int_int at hm
 refine W_rg [2] ?_
 refine W_seq_k fun k1 hk1 => ?_
 by_cases h1 : p1 = []
 ·rw [if_pos h1] at hm
  refine W_nilcase 0 (s := 1) (by rw [h1]; rfl) ?_ ?_
  ·refine W_eqn ?_
   refine W_rg [3] ?_
   refine W_condt rfl rfl ?_
   refine W_rg [0, 4] ?_
   refine W_ghost (Ghost_nil 2 1 3 (by decide) rfl (Nat.le_of_ble_eq_true rfl)) ?_
   refine W_eql ?_
   refine W_ghost (Ghost_new 1 3 (by decide)) ?_
   simp only [bZ, bL, reduceIte, ↓reduceIte, reduceCtorEq, Int.reduceToNat, Nat.reduceDiv, Nat.reduceMod, Nat.reduceLT, Nat.reduceLeDiff, Nat.reduceAdd, Nat.reduceSub, Nat.reduceMul, Nat.reduceEqDiff, Nat.reduceBEq, Nat.reduceBNe, Nat.reduceGT, List.length_cons, List.length_nil, List.length_append, List.cons_append, List.nil_append]
   refine W_gh (Ghost_mv 1 0 (by decide) rfl rfl) ?_
   refine W_gh (Ghost_dn 0 1 (by decide) (Nat.le_of_ble_eq_true rfl) (Nat.le_of_ble_eq_true rfl) rfl rfl) ?_
   refine W_ret ?_
   refine KThen_r ?_
   refine KBody_ret [.arr 1 1 3 ([].map (eK .i64))] ?_
   obtain rfl := Option.some.inj hm
   exact en
  ·refine W_eqn ?_
   refine W_rg [3] ?_
   refine W_condf rfl rfl ?_
   refine W_skip ?_
   refine KThen_n (hk1 _ _ ?_)
   refine W_rg [0, 4, 5, 6, 7] ?_
   refine W_eqa [.arr 1 1 3 ([].map (eK .i64))] ?_
   refine W_ret ?_
   refine KBody_ret [.arr 1 1 3 ([].map (eK .i64))] ?_
   obtain rfl := Option.some.inj hm
   exact en
 ·rw [if_neg h1] at hm
  refine W_rg [3] ?_
  refine W_condf rfl rfl ?_
  refine W_skip ?_
  refine KThen_n (hk1 _ _ ?_)
  obtain ⟨⟨hg2ax, hg2ay⟩, hm⟩ := gd hm
  refine W_rg [0, 4, 5, 6, 7] ?_
  refine W_eqa [.arr 1 1 3 (p1.map (eK .i64))] ?_
  refine W_ret ?_
  refine KBody_ret [.arr 1 1 3 (p1.map (eK .i64))] ?_
  obtain rfl := Option.some.inj hm
  exact en
end Pam

/- the walk of slices_Clone_api_Ins_api_Ins, printed by a program of ours -/
namespace Pam
open Go Go.Proofs
set_option maxRecDepth 100000 in
set_option maxHeartbeats 1000000 in
theorem slices_Clone_api_Ins_api_Ins_ok (p1 : List TIns) (r : (List TIns)) (hm : slices_Clone_api_Ins_api_Ins p1 = some r) : Spec Try.prog 90 [.c (.tree 6 (p1.map TIns.enc))] [] (fun p σ => (p = .c (.osl 0 1 0 r.length) ∧ σ = [.arr 6 1 35 (r.map TIns.enc)])) (fun _ _ => False) := by
 refine Spec_ofD 8 [.tmp 2] Try.func90 rfl rfl rfl (by kernel_rfl) (by simp) ?_
 refine W_eqf ?_
 unfold slices_Clone_api_Ins_api_Ins at hm
 refine W_rg [2] ?_
 refine W_seq_k fun k1 hk1 => ?_
 by_cases h1 : p1 = []
 ·rw [if_pos h1] at hm
  refine W_nilcase 0 (s := 6) (by rw [h1]; rfl) ?_ ?_
  ·refine W_eqn ?_
   refine W_rg [3] ?_
   refine W_condt rfl rfl ?_
   refine W_rg [0, 4] ?_
   refine W_ghost (Ghost_nil 2 6 35 (by decide) rfl (Nat.le_of_ble_eq_true rfl)) ?_
   refine W_eql ?_
   refine W_ghost (Ghost_new 6 35 (by decide)) ?_
   simp only [bZ, bL, reduceIte, ↓reduceIte, reduceCtorEq, Int.reduceToNat, Nat.reduceDiv, Nat.reduceMod, Nat.reduceLT, Nat.reduceLeDiff, Nat.reduceAdd, Nat.reduceSub, Nat.reduceMul, Nat.reduceEqDiff, Nat.reduceBEq, Nat.reduceBNe, Nat.reduceGT, List.length_cons, List.length_nil, List.length_append, List.cons_append, List.nil_append]
   refine W_gh (Ghost_mv 1 0 (by decide) rfl rfl) ?_
   refine W_gh (Ghost_dn 0 1 (by decide) (Nat.le_of_ble_eq_true rfl) (Nat.le_of_ble_eq_true rfl) rfl rfl) ?_
   refine W_ret ?_
   refine KThen_r ?_
   refine KBody_ret [.arr 6 1 35 ([].map TIns.enc)] ?_
   obtain rfl := Option.some.inj hm
   exact en
  ·refine W_eqn ?_
   refine W_rg [3] ?_
   refine W_condf rfl rfl ?_
   refine W_skip ?_
   refine KThen_n (hk1 _ _ ?_)
   refine W_rg [0, 4, 5, 6, 7] ?_
   refine W_eqa [.arr 6 1 35 ([].map TIns.enc)] ?_
   refine W_ret ?_
   refine KBody_ret [.arr 6 1 35 ([].map TIns.enc)] ?_
   obtain rfl := Option.some.inj hm
   exact en
 ·rw [if_neg h1] at hm
  refine W_rg [3] ?_
  refine W_condf rfl rfl ?_
  refine W_skip ?_
  refine KThen_n (hk1 _ _ ?_)
  obtain ⟨⟨hg2ax, hg2ay⟩, hm⟩ := gd hm
  refine W_rg [0, 4, 5, 6, 7] ?_
  refine W_eqa [.arr 6 1 35 (p1.map TIns.enc)] ?_
  refine W_ret ?_
  refine KBody_ret [.arr 6 1 35 (p1.map TIns.enc)] ?_
  obtain rfl := Option.some.inj hm
  exact en
end Pam

/- the walk of vm_New, printed by a program of ours -/
namespace Pam
open Go Go.Proofs
set_option maxRecDepth 100000 in
set_option maxHeartbeats 1000000 in
theorem vm_New_ok (p1 : TImage) (r : TFault ⊕ (TFault × Int × Int × Int × (List Int) × (List Int) × (List Int) × (List TIns) × (List Int) × Int × Int × Int × (List Int))) (hm : vm_New p1 = some r) : Spec Try.prog 46 [.a [.int .i64 p1.cells, .int .i64 p1.regs, .int .i64 p1.cost, .tree 1 (p1.put.map (eK .i64)), .tree 1 (p1.bools.map (eK .i64)), .tree 1 (p1.get.map (eK .i64)), .tree 6 (p1.code.map TIns.enc)]] [] (fun p σ => (Sum.elim (fun z => (p = .t [.c (.nilp), .a [.int .i64 ((z).code), .int .i64 ((z).at_)]] ∧ σ = [])) (fun z => (p = .t [.c (.optr 0 0), .a [.int .i64 ((z.1).code), .int .i64 ((z.1).at_)]] ∧ σ = [.box [.int .i64 z.2.1, .int .i64 z.2.2.1, .int .i64 z.2.2.2.1, .tree 1 (z.2.2.2.2.1.map (eK .i64)), .tree 1 (z.2.2.2.2.2.1.map (eK .i64)), .tree 1 (z.2.2.2.2.2.2.1.map (eK .i64)), .tree 6 (z.2.2.2.2.2.2.2.1.map TIns.enc), .osl 2 1 0 z.2.2.2.2.2.2.2.2.2.2.2.2.length, .tree 1 (z.2.2.2.2.2.2.2.2.1.map (eK .i64)), .int .i64 z.2.2.2.2.2.2.2.2.2.1], .box [.int .i64 z.2.2.2.2.2.2.2.2.2.2.1, .int .i64 z.2.2.2.2.2.2.2.2.2.2.2.1], .arr 1 1 2 (z.2.2.2.2.2.2.2.2.2.2.2.2.map (eK .i64))]))) r) (fun _ _ => False) := by
 refine Spec_ofD 34 [.tmp 2, .cell 3 30] Try.func46 rfl rfl rfl (by kernel_rfl) (by simp) ?_
 refine W_eqf ?_
 unfold vm_New at hm
 refine W_rg [0, 2] ?_
 refine W_seq_k fun k1 hk1 => ?_
 refine W_regF [5, 6] fun k kp hk hp => ?_
 refine go ?_
 obtain ⟨y1, hc1, hm⟩ := bd hm
 refine RP (fun _ => code_Check_ok p1 _ hc1) ?_
 refine RunRest_ops ?_
 refine go ?_
 refine hk _ _ ?_
 clear hk hp k kp
 refine W_rg [7, 8] ?_
 by_cases h2 : ¬ ((y1).code) = 0
 ·rw [if_pos h2] at hm
  refine W_condt rfl (bne_iff_ne.2 h2) ?_
  refine W_ag [1, 4, 9, 10] [0, 0, 3] [false, false, true] ?_
  refine W_ret ?_
  refine KThen_r ?_
  refine KBody_ret [] ?_
  obtain rfl := Option.some.inj hm
  exact en
 ·rw [if_neg h2] at hm
  refine W_condf rfl (bne_eq_false_iff_eq.2 (Decidable.not_not.1 h2)) ?_
  refine W_skip ?_
  refine KThen_n (hk1 _ _ ?_)
  refine W_anyF [4, 9, 11, 12, 13, 14, 15, 16, 17, 18, 19, 20, 21, 22, 23, 24, 25, 26] (by kernel_rfl) [0, 1, 3, 0, 8, 31, 0, 64, 255, 0, 512, 2047, 1759, 8191, 16383, 32767, 65535, 131071, 262143, 524287] [false, false, false, false, false, false, false, false, false, false, false, false, false, true, true, true, true, true, true, true] (by kernel_rfl) fun k hk => ?_
  refine ga ?_
  obtain ⟨y2, hc3, hm⟩ := bd hm
  refine AnyCall_at (σ2 := [.box [.int .i64 p1.cells, .int .i64 p1.regs, .int .i64 p1.cost, .tree 1 (p1.put.map (eK .i64)), .tree 1 (p1.bools.map (eK .i64)), .tree 1 (p1.get.map (eK .i64)), .tree 6 (p1.code.map TIns.enc)], .box [.int .i64 0, .int .i64 0], .box [.int .i64 ((y1).code), .int .i64 ((y1).at_)], .arr 1 1 3 (y2.map (eK .i64))]) (res := .c (.osl 3 1 0 y2.length)) ⟨_, _, _, _, [], slices_Clone_int_int_ok p1.put  _ hc3, by simp, by simp, rfl, rfl, by first | trivial | (simp [bX, eK, eB, eS, eL, s_cap, psUnder, PV.under, CV.under, obsBelow, OB.under, cvsBelow]; done), by first | trivial | (simp [bX, eK, eB, eS, eL, s_cap, psUnder, PV.under, CV.under, obsBelow, OB.under, cvsBelow]; done), fun q τ hq _ => by obtain ⟨rfl, rfl⟩ := hq; exact ⟨rfl, rfl⟩, fun _ _ h => h.elim⟩ (by first | trivial | exact dst_ok rfl) (by first | trivial | (intro _; first | trivial | simp [need]) | simp [need]) (by first | exact .inl rfl | exact .inr (by simp only [extB]; and_intros <;> first | rfl | trivial)) ?_
  refine ga ?_
  obtain ⟨y3, hc4, hm⟩ := bd hm
  refine AnyCall_at (σ2 := [.box [.int .i64 p1.cells, .int .i64 p1.regs, .int .i64 p1.cost, .tree 1 (p1.put.map (eK .i64)), .tree 1 (p1.bools.map (eK .i64)), .tree 1 (p1.get.map (eK .i64)), .tree 6 (p1.code.map TIns.enc)], .box [.int .i64 0, .int .i64 0], .box [.int .i64 ((y1).code), .int .i64 ((y1).at_)], .arr 1 1 3 (y2.map (eK .i64)), .arr 1 1 3 (y3.map (eK .i64))]) (res := .c (.osl 4 1 0 y3.length)) ⟨_, _, _, _, [], slices_Clone_int_int_ok p1.get  _ hc4, by simp, by simp, rfl, rfl, by first | trivial | (simp [bX, eK, eB, eS, eL, s_cap, psUnder, PV.under, CV.under, obsBelow, OB.under, cvsBelow]; done), by first | trivial | (simp [bX, eK, eB, eS, eL, s_cap, psUnder, PV.under, CV.under, obsBelow, OB.under, cvsBelow]; done), fun q τ hq _ => by obtain ⟨rfl, rfl⟩ := hq; exact ⟨rfl, rfl⟩, fun _ _ h => h.elim⟩ (by first | trivial | exact dst_ok rfl) (by first | trivial | (intro _; first | trivial | simp [need]) | simp [need]) (by first | exact .inl rfl | exact .inr (by simp only [extB]; and_intros <;> first | rfl | trivial)) ?_
  refine ga ?_
  obtain ⟨y4, hc5, hm⟩ := bd hm
  refine AnyCall_at (σ2 := [.box [.int .i64 p1.cells, .int .i64 p1.regs, .int .i64 p1.cost, .tree 1 (p1.put.map (eK .i64)), .tree 1 (p1.bools.map (eK .i64)), .tree 1 (p1.get.map (eK .i64)), .tree 6 (p1.code.map TIns.enc)], .box [.int .i64 0, .int .i64 0], .box [.int .i64 ((y1).code), .int .i64 ((y1).at_)], .arr 1 1 3 (y2.map (eK .i64)), .arr 1 1 3 (y3.map (eK .i64)), .arr 1 1 3 (y4.map (eK .i64))]) (res := .c (.osl 5 1 0 y4.length)) ⟨_, _, _, _, [], slices_Clone_int_int_ok p1.bools  _ hc5, by simp, by simp, rfl, rfl, by first | trivial | (simp [bX, eK, eB, eS, eL, s_cap, psUnder, PV.under, CV.under, obsBelow, OB.under, cvsBelow]; done), by first | trivial | (simp [bX, eK, eB, eS, eL, s_cap, psUnder, PV.under, CV.under, obsBelow, OB.under, cvsBelow]; done), fun q τ hq _ => by obtain ⟨rfl, rfl⟩ := hq; exact ⟨rfl, rfl⟩, fun _ _ h => h.elim⟩ (by first | trivial | exact dst_ok rfl) (by first | trivial | (intro _; first | trivial | simp [need]) | simp [need]) (by first | exact .inl rfl | exact .inr (by simp only [extB]; and_intros <;> first | rfl | trivial)) ?_
  refine ga ?_
  obtain ⟨y5, hc6, hm⟩ := bd hm
  refine AnyCall_at (σ2 := [.box [.int .i64 p1.cells, .int .i64 p1.regs, .int .i64 p1.cost, .tree 1 (p1.put.map (eK .i64)), .tree 1 (p1.bools.map (eK .i64)), .tree 1 (p1.get.map (eK .i64)), .tree 6 (p1.code.map TIns.enc)], .box [.int .i64 0, .int .i64 0], .box [.int .i64 ((y1).code), .int .i64 ((y1).at_)], .arr 1 1 3 (y2.map (eK .i64)), .arr 1 1 3 (y3.map (eK .i64)), .arr 1 1 3 (y4.map (eK .i64)), .arr 6 1 35 (y5.map TIns.enc)]) (res := .c (.osl 6 1 0 y5.length)) ⟨_, _, _, _, [], slices_Clone_api_Ins_api_Ins_ok p1.code  _ hc6, by simp, by simp, rfl, rfl, by first | trivial | (simp [bX, eK, eB, eS, eL, s_cap, psUnder, PV.under, CV.under, obsBelow, OB.under, cvsBelow]; done), by first | trivial | (simp [bX, eK, eB, eS, eL, s_cap, psUnder, PV.under, CV.under, obsBelow, OB.under, cvsBelow]; done), fun q τ hq _ => by obtain ⟨rfl, rfl⟩ := hq; exact ⟨rfl, rfl⟩, fun _ _ h => h.elim⟩ (by first | trivial | exact dst_ok rfl) (by first | trivial | (intro _; first | trivial | simp [need]) | simp [need]) (by first | exact .inl rfl | exact .inr (by simp only [extB]; and_intros <;> first | rfl | trivial)) ?_
  refine ga ?_
  refine hk _ _ ?_
  clear hk k
  obtain ⟨⟨hg7a, ⟨hg7bx, hg7by⟩⟩, hm⟩ := gd hm
  refine W_ag [1, 27, 28, 29, 30, 31, 32, 33] [0, 0, 2, 6, 15, 31, 0, 63, 255] [false, false, false, false, false, false, false, false, true] ?_
  refine W_eqa [.box [.int .i64 p1.cells, .int .i64 p1.regs, .int .i64 p1.cost, .osl 3 1 0 y2.length, .osl 5 1 0 y4.length, .osl 4 1 0 y3.length, .osl 6 1 0 y5.length], .box [.int .i64 0, .int .i64 0], .box [.int .i64 ((y1).code), .int .i64 ((y1).at_)], .arr 1 1 3 (y2.map (eK .i64)), .arr 1 1 3 (y3.map (eK .i64)), .arr 1 1 3 (y4.map (eK .i64)), .arr 6 1 35 (y5.map TIns.enc), .arr 1 0 2 ((List.replicate p1.cells.toNat 0).map (eK .i64)), .box [.int .i64 p1.cells, .int .i64 p1.regs, .int .i64 p1.cost, .osl 3 1 0 y2.length, .osl 5 1 0 y4.length, .osl 4 1 0 y3.length, .osl 6 1 0 y5.length, .osl 7 0 0 p1.cells.toNat, .nils, .int .i64 0]] ?_
  refine W_gh (Ghost_fr 3 rfl) ?_
  refine W_gh (Ghost_fr 5 rfl) ?_
  refine W_gh (Ghost_fr 4 rfl) ?_
  refine W_gh (Ghost_fr 6 rfl) ?_
  refine W_ghost (Ghost_ntB 8 [.int .i64 p1.cells, .int .i64 p1.regs, .int .i64 p1.cost, .tree 1 (y2.map (eK .i64)), .tree 1 (y4.map (eK .i64)), .tree 1 (y3.map (eK .i64)), .tree 6 (y5.map TIns.enc), .osl 7 0 0 p1.cells.toNat, .tree 1 ([].map (eK .i64)), .int .i64 0] rfl (by and_intros <;> trivial)) ?_
  refine W_eqE rfl (by simp only [bZ, bL, reduceIte, ↓reduceIte, reduceCtorEq, Int.reduceToNat, Nat.reduceDiv, Nat.reduceMod, Nat.reduceLT, Nat.reduceLeDiff, Nat.reduceAdd, Nat.reduceSub, Nat.reduceMul, Nat.reduceEqDiff, Nat.reduceBEq, Nat.reduceBNe, Nat.reduceGT]; rfl) ?_
  refine W_ghost (Ghost_new 1 2 (by decide)) ?_
  simp only [bZ, bL, reduceIte, ↓reduceIte, reduceCtorEq, Int.reduceToNat, Nat.reduceDiv, Nat.reduceMod, Nat.reduceLT, Nat.reduceLeDiff, Nat.reduceAdd, Nat.reduceSub, Nat.reduceMul, Nat.reduceEqDiff, Nat.reduceBEq, Nat.reduceBNe, Nat.reduceGT, List.length_cons, List.length_nil, List.length_append, List.cons_append, List.nil_append]
  refine W_gh (Ghost_mv 9 7 (by decide) rfl rfl) ?_
  refine W_gh (Ghost_dead 0 (by simp)) ?_
  refine W_gh (Ghost_dn 0 8 (by decide) (Nat.le_of_ble_eq_true rfl) (Nat.le_of_ble_eq_true rfl) rfl rfl) ?_
  refine W_gh (Ghost_dead 2 (by simp)) ?_
  refine W_gh (Ghost_dn 2 9 (by decide) (Nat.le_of_ble_eq_true rfl) (Nat.le_of_ble_eq_true rfl) rfl rfl) ?_
  refine W_ret ?_
  refine KBody_ret [.box [.int .i64 p1.cells, .int .i64 p1.regs, .int .i64 p1.cost, .tree 1 (y2.map (eK .i64)), .tree 1 (y4.map (eK .i64)), .tree 1 (y3.map (eK .i64)), .tree 6 (y5.map TIns.enc), .osl 2 1 0 p1.cells.toNat, .tree 1 ([].map (eK .i64)), .int .i64 0], .box [.int .i64 0, .int .i64 0], .arr 1 1 2 ((List.replicate p1.cells.toNat 0).map (eK .i64))] ?_
  obtain rfl := Option.some.inj hm
  exact en
end Pam

/- the walk of vm_VM_Row, printed by a program of ours -/
namespace Pam
open Go Go.Proofs
set_option maxRecDepth 100000 in
set_option maxHeartbeats 1000000 in
theorem vm_VM_Row_ok (p1 : List Int) (r : Unit) (hm : vm_VM_Row p1 = some r) : SpecF Try.prog 48 [.c (.nilp), .c (.tree 1 (p1.map (eK .i64)))] (.t []) := by
 refine Spec_ofD 129 [.tmp 4, .cell 5 30] Try.func48 rfl rfl rfl (by kernel_rfl) (by simp) ?_
 refine W_eqf ?_
 unfold vm_VM_Row at hm
 refine W_rg [4] ?_
 refine W_seq_k fun k1 hk1 => ?_
 cases hm
end Pam

/- the walk of slices_Index_int_int, printed by a program of ours -/
namespace Pam
open Go Go.Proofs
set_option maxRecDepth 100000 in
set_option maxHeartbeats 1000000 in
theorem slices_Index_int_int_ok (p1 : List Int) (p2 : Int) (r : Int) (hm : slices_Index_int_int p1 p2 = some r) : SpecF Try.prog 120 [.c (.tree 1 (p1.map (eK .i64))), .c (.int .i64 p2)] (.c (.int .i64 r)) := by
 refine Spec_ofD 19 [.tmp 4] Try.func120 rfl rfl rfl (by kernel_rfl) (by simp) ?_
 refine W_eqf ?_
 unfold slices_Index_int_int at hm
 refine W_rg [4] ?_
 refine W_joinM (S := Unit) (V := Unit) [0, 1, 4, 5, 6, 7, 8, 9, 10, 11, 12, 13, 14, 15, 16, 17, 18] (fun _ _ => []) (fun _ _ => []) (fun _ => slices_Index_int_int_j1 = some r) ?_ ?_
 ·skip
  refine W_rg [6] ?_
  refine W_block ?_
  obtain ⟨o1, hl1, hm1⟩ := bd hm
  refine W_loopM (S := Int) (V := Unit) (O := Unit ⊕ Int) [4, 5, 8, 9, 10, 11, 12, 13, 14, 15, 16, 17, 18] (fun x3 _ => [(8, .c (.int .i64 x3))]) (fun x3 _ => []) _ _ () hl1 ?_ ?_
  ·exact ls
  ·rintro x3 _ r1 hm hr1
   replace hm : slices_Index_int_int_l1 p1 p2 x3 = some r1 := hm
   refine W_eqm ?_
   unfold slices_Index_int_int_l1 at hm
   refine W_rg [] ?_
   refine W_seq_k fun k1 hk1 => ?_
   by_cases h1 : x3 < (p1.length : Int)
   ·rw [if_pos h1] at hm
    refine W_condt rfl (decide_eq_true h1) ?_
    refine W_skip ?_
    refine KThen_n (hk1 _ _ ?_)
    refine W_seq_k fun k2 hk2 => ?_
    refine W_block ?_
    refine W_rg [9, 10] ?_
    obtain ⟨hg2a, hm⟩ := gd hm
    refine W_rgx (em (eK .i64) p1 x3.toNat) [11, 12, 13, 14, 15] ?_
    by_cases h3 : p2 = (p1.getD x3.toNat default)
    ·rw [if_pos h3] at hm
     refine W_condt rfl (beq_iff_eq.2 h3) ?_
     refine W_rg [0, 1, 5, 7, 8, 16, 17] ?_
     have ho4 := out_eq hm hr1
     subst ho4
     replace hm : some x3 = some r := hm1
     refine W_ret ?_
     refine KBlock_r ?_
     refine KThen_r ?_
     refine KLoopM_r ?_
     refine KBlock_r ?_
     refine KJoinM_r ?_
     refine KBody_ret [] ?_
     obtain rfl := Option.some.inj hm
     exact en
    ·rw [if_neg h3] at hm
     refine W_condf rfl (beq_eq_false_iff_ne.2 h3) ?_
     refine W_skip ?_
     refine KBlock_n ?_
     refine KThen_n (hk2 _ _ ?_)
     refine W_rn ?_
     refine KLoopM_n (IntKind.wrap .i64 (x3 + 1)) () hm ?_
     exact ls
   ·rw [if_neg h1] at hm
    refine W_condf rfl (decide_eq_false h1) ?_
    refine W_exit ?_
    have ho5 := out_eq hm hr1
    subst ho5
    replace hm : slices_Index_int_int_j1 = some r := hm1
    refine KThen_x ?_
    refine KLoopM_x ?_
    refine KBlock_hit ?_
    refine KJoinM_n () () hm ?_
    exact ls
 ·rintro _ _ hm
  replace hm : slices_Index_int_int_j1 = some r := hm
  refine W_eqm ?_
  unfold slices_Index_int_int_j1 at hm
  refine W_rg [] ?_
  refine W_ret ?_
  refine KBody_ret [] ?_
  obtain rfl := Option.some.inj hm
  exact en
end Pam

/- the walk of slices_Contains_int_int, printed by a program of ours -/
namespace Pam
open Go Go.Proofs
set_option maxRecDepth 100000 in
set_option maxHeartbeats 1000000 in
theorem slices_Contains_int_int_ok (p1 : List Int) (p2 : Int) (r : Bool) (hm : slices_Contains_int_int p1 p2 = some r) : SpecF Try.prog 91 [.c (.tree 1 (p1.map (eK .i64))), .c (.int .i64 p2)] (.c (.bool r)) := by
 refine Spec_ofD 9 [.tmp 4] Try.func91 rfl rfl rfl (by kernel_rfl) (by simp) ?_
 refine W_eqf ?_
 unfold slices_Contains_int_int at hm
 refine W_rg [4] ?_
 refine W_regF [0, 1, 5, 6, 7, 8] fun k kp hk hp => ?_
 refine go ?_
 obtain ⟨y1, hc1, hm⟩ := bd hm
 refine RP (fun _ => slices_Index_int_int_ok p1 p2 _ hc1) ?_
 refine RunRest_ops ?_
 refine go ?_
 refine hk _ _ ?_
 clear hk hp k kp
 refine W_ret ?_
 refine KBody_ret [] ?_
 obtain rfl := Option.some.inj hm
 exact en
end Pam

/- the walk of slices_Clone_int64_int64, printed by a program of ours -/
namespace Pam
open Go Go.Proofs
set_option maxRecDepth 100000 in
set_option maxHeartbeats 1000000 in
theorem slices_Clone_int64_int64_ok (p1 : List Int) (v0_ : Nat) (r : (List Int)) (hm : slices_Clone_int64_int64 p1 = some r) : Spec Try.prog 88 [.c (.osl 0 v0_ 0 p1.length)] [.arr 1 v0_ 2 (p1.map (eK .i64))] (fun p σ => (p = .c (.osl 1 1 0 r.length) ∧ σ = [.arr 1 v0_ 2 (p1.map (eK .i64)), .arr 1 1 2 (r.map (eK .i64))])) (fun _ _ => False) := by
 refine Spec_ofD 8 [.tmp 2] Try.func88 rfl rfl rfl (by kernel_rfl) (by simp) ?_
 refine W_eqf ?_
 unfold slices_Clone_int64_int64 at hm
 refine W_rg [2] ?_
 refine W_seq_k fun k1 hk1 => ?_
 by_cases h1 : p1.length = 0
 ·rw [if_pos h1] at hm
  refine W_nilcaseO 0 rfl h1 rfl ?_ ?_
  ·refine W_eqn ?_
   refine W_rg [3] ?_
   refine W_condt rfl rfl ?_
   refine W_rg [0, 4] ?_
   refine W_ghost (Ghost_nil 2 1 2 (by decide) rfl (Nat.le_of_ble_eq_true rfl)) ?_
   refine W_eql ?_
   refine W_ghost (Ghost_new 1 2 (by decide)) ?_
   simp only [bZ, bL, reduceIte, ↓reduceIte, reduceCtorEq, Int.reduceToNat, Nat.reduceDiv, Nat.reduceMod, Nat.reduceLT, Nat.reduceLeDiff, Nat.reduceAdd, Nat.reduceSub, Nat.reduceMul, Nat.reduceEqDiff, Nat.reduceBEq, Nat.reduceBNe, Nat.reduceGT, List.length_cons, List.length_nil, List.length_append, List.cons_append, List.nil_append]
   refine W_gh (Ghost_mv 2 1 (by decide) rfl rfl) ?_
   refine W_gh (Ghost_dn 1 2 (by decide) (Nat.le_of_ble_eq_true rfl) (Nat.le_of_ble_eq_true rfl) rfl rfl) ?_
   refine W_ret ?_
   refine KThen_r ?_
   refine KBody_ret [.arr 1 v0_ 2 (p1.map (eK .i64)), .arr 1 1 2 ([].map (eK .i64))] ?_
   obtain rfl := Option.some.inj hm
   exact en
  ·refine W_eqn ?_
   refine W_rg [3] ?_
   refine W_condf rfl rfl ?_
   refine W_skip ?_
   refine KThen_n (hk1 _ _ ?_)
   refine W_rg [0, 4, 5, 6, 7] ?_
   refine W_eqa [.arr 1 v0_ 2 (p1.map (eK .i64)), .arr 1 1 2 ([].map (eK .i64))] ?_
   refine W_ret ?_
   refine KBody_ret [.arr 1 v0_ 2 (p1.map (eK .i64)), .arr 1 1 2 ([].map (eK .i64))] ?_
   obtain rfl := Option.some.inj hm
   exact en
 ·rw [if_neg h1] at hm
  refine W_regG [3] fun k kp hk hp => ?_
  refine RunRest_cut 1 ?_
  refine go ?_
  refine RS (Ext_eqO rfl (by first | exact .inl rfl | exact .inr rfl) (by first | rfl | (simp only [bR, bT, tab, bX, reduceIte, ↓reduceIte, reduceCtorEq, Int.reduceToNat, Nat.reduceDiv, Nat.reduceMod, Nat.reduceLT, Nat.reduceLeDiff, Nat.reduceAdd, Nat.reduceSub, Nat.reduceMul, Nat.reduceEqDiff, Nat.reduceBEq, Nat.reduceBNe, Nat.reduceGT]; done)) rfl (by first | rfl | (simp only [bR, bT, tab, bX, reduceIte, ↓reduceIte, reduceCtorEq, Int.reduceToNat, Nat.reduceDiv, Nat.reduceMod, Nat.reduceLT, Nat.reduceLeDiff, Nat.reduceAdd, Nat.reduceSub, Nat.reduceMul, Nat.reduceEqDiff, Nat.reduceBEq, Nat.reduceBNe, Nat.reduceGT]; done)) (by first | kernel_rfl | exact of_decide_eq_true (by kernel_rfl)) (by omega)) ?_
  simp only [bR, bT, tab, bX, reduceIte, ↓reduceIte, reduceCtorEq, Int.reduceToNat, Nat.reduceDiv, Nat.reduceMod, Nat.reduceLT, Nat.reduceLeDiff, Nat.reduceAdd, Nat.reduceSub, Nat.reduceMul, Nat.reduceEqDiff, Nat.reduceBEq, Nat.reduceBNe, Nat.reduceGT]
  refine RunRest_ops ?_
  refine go ?_
  refine hk _ _ ?_
  clear hk hp k kp
  refine W_condf rfl rfl ?_
  refine W_skip ?_
  refine KThen_n (hk1 _ _ ?_)
  obtain ⟨⟨hg2ax, hg2ay⟩, hm⟩ := gd hm
  refine W_rg [0, 4, 5, 6, 7] ?_
  refine W_eqa [.arr 1 v0_ 2 (p1.map (eK .i64)), .arr 1 1 2 (p1.map (eK .i64))] ?_
  refine W_ret ?_
  refine KBody_ret [.arr 1 v0_ 2 (p1.map (eK .i64)), .arr 1 1 2 (p1.map (eK .i64))] ?_
  obtain rfl := Option.some.inj hm
  exact en
end Pam

/- the walk of sys_divide, printed by a program of ours -/
namespace Pam
open Go Go.Proofs
set_option maxRecDepth 100000 in
set_option maxHeartbeats 1000000 in
theorem sys_divide_ok (p1 : Int) (p2 : Int) (p3 : Int) (r : Int) (hm : sys_divide p1 p2 p3 = some r) : SpecF Try.prog 131 [.c (.int .i64 p1), .c (.int .i64 p2), .c (.int .i64 p3)] (.c (.int .i64 r)) := by
 refine Spec_ofD 17 [.tmp 6] Try.func131 rfl rfl rfl (by kernel_rfl) (by simp) ?_
 refine W_eqf ?_
 unfold sys_divide at hm
 refine W_rg [6] ?_
 refine W_seq_k fun k1 hk1 => ?_
 refine W_rg [7] ?_
 by_cases h1 : p3 = 0
 ·rw [if_pos h1] at hm
  refine W_condt rfl (beq_iff_eq.2 h1) ?_
  refine W_rg [0, 1, 2, 8] ?_
  refine W_ret ?_
  refine KThen_r ?_
  refine KBody_ret [] ?_
  obtain rfl := Option.some.inj hm
  exact en
 ·rw [if_neg h1] at hm
  refine W_condf rfl (beq_eq_false_iff_ne.2 h1) ?_
  refine W_skip ?_
  refine KThen_n (hk1 _ _ ?_)
  refine W_seq_k fun k2 hk2 => ?_
  refine W_rg [0, 8, 9] ?_
  by_cases h2 : p1 = 4
  ·rw [if_pos h2] at hm
   refine W_condt rfl (beq_iff_eq.2 h2) ?_
   obtain ⟨hg3a, hm⟩ := gd hm
   refine W_rg [1, 2, 10, 11, 12, 13] ?_
   refine W_ret ?_
   refine KThen_r ?_
   refine KBody_ret [] ?_
   obtain rfl := Option.some.inj hm
   exact en
  ·rw [if_neg h2] at hm
   refine W_condf rfl (beq_eq_false_iff_ne.2 h2) ?_
   refine W_skip ?_
   refine KThen_n (hk2 _ _ ?_)
   obtain ⟨hg4a, hm⟩ := gd hm
   refine W_rg [1, 2, 10, 14, 15, 16] ?_
   refine W_ret ?_
   refine KBody_ret [] ?_
   obtain rfl := Option.some.inj hm
   exact en
end Pam

/- the walk of sys_truth, printed by a program of ours -/
namespace Pam
open Go Go.Proofs
set_option maxRecDepth 100000 in
set_option maxHeartbeats 1000000 in
theorem sys_truth_ok (p1 : Bool) (r : Int) (hm : sys_truth p1 = some r) : SpecF Try.prog 132 [.c (.bool p1)] (.c (.int .i64 r)) := by
 refine Spec_ofD 4 [.tmp 2] Try.func132 rfl rfl rfl (by kernel_rfl) (by simp) ?_
 refine W_eqf ?_
 unfold sys_truth at hm
 refine W_rg [2] ?_
 refine W_seq_k fun k1 hk1 => ?_
 refine W_rg [0] ?_
 by_cases h1 : p1 = true
 ·rw [if_pos h1] at hm
  refine W_condt rfl (h1) ?_
  refine W_rg [3] ?_
  refine W_ret ?_
  refine KThen_r ?_
  refine KBody_ret [] ?_
  obtain rfl := Option.some.inj hm
  exact en
 ·rw [if_neg h1] at hm
  refine W_condf rfl (Bool.eq_false_iff.2 h1) ?_
  refine W_skip ?_
  refine KThen_n (hk1 _ _ ?_)
  refine W_rg [3] ?_
  refine W_ret ?_
  refine KBody_ret [] ?_
  obtain rfl := Option.some.inj hm
  exact en
end Pam

/- the walk of sys_Apply, printed by a program of ours -/
namespace Pam
open Go Go.Proofs
set_option maxRecDepth 100000 in
set_option maxHeartbeats 1000000 in
theorem sys_Apply_ok (p1 : Int) (p2 : Int) (p3 : Int) (r : Int) (hm : sys_Apply p1 p2 p3 = some r) : SpecF Try.prog 118 [.c (.int .i64 p1), .c (.int .i64 p2), .c (.int .i64 p3)] (.c (.int .i64 r)) := by
 refine Spec_ofD 87 [.tmp 6] Try.func118 rfl rfl rfl (by kernel_rfl) (by simp) ?_
 refine W_eqf ?_
 unfold sys_Apply at hm
 refine W_rg [6] ?_
 refine W_seq_k fun k1 hk1 => ?_
 refine W_rg [] ?_
 refine W_block ?_
 refine W_rg [9] ?_
 by_cases h1 : p1 = 1
 ·rw [if_pos h1] at hm
  refine W_condt rfl (beq_iff_eq.2 h1) ?_
  refine W_rg [0, 1, 2, 7, 8, 10, 11, 12] ?_
  refine W_ret ?_
  refine KBlock_r ?_
  refine KThen_r ?_
  refine KBody_ret [] ?_
  obtain rfl := Option.some.inj hm
  exact en
 ·rw [if_neg h1] at hm
  refine W_condf rfl (beq_eq_false_iff_ne.2 h1) ?_
  refine W_rg [8, 14] ?_
  by_cases h2 : p1 = 2
  ·rw [if_pos h2] at hm
   refine W_condt rfl (beq_iff_eq.2 h2) ?_
   refine W_rg [0, 1, 2, 7, 13, 15, 16, 17] ?_
   refine W_ret ?_
   refine KBlock_r ?_
   refine KThen_r ?_
   refine KBody_ret [] ?_
   obtain rfl := Option.some.inj hm
   exact en
  ·rw [if_neg h2] at hm
   refine W_condf rfl (beq_eq_false_iff_ne.2 h2) ?_
   refine W_rg [13, 19] ?_
   by_cases h3 : p1 = 3
   ·rw [if_pos h3] at hm
    refine W_condt rfl (beq_iff_eq.2 h3) ?_
    refine W_rg [0, 1, 2, 7, 18, 20, 21, 22] ?_
    refine W_ret ?_
    refine KBlock_r ?_
    refine KThen_r ?_
    refine KBody_ret [] ?_
    obtain rfl := Option.some.inj hm
    exact en
   ·rw [if_neg h3] at hm
    refine W_condf rfl (beq_eq_false_iff_ne.2 h3) ?_
    refine W_joinM (S := Bool) (V := Unit) [18, 23, 24, 25] (fun b1 _ => [(23, .c (.bool b1))]) (fun b1 _ => []) (fun b1 => sys_Apply_j1 p1 p2 p3 b1 = some r) ?_ ?_
    ·skip
     refine W_rg [18, 24] ?_
     by_cases h25 : p1 = 4
     ·rw [if_pos h25] at hm
      refine W_condt rfl (beq_iff_eq.2 h25) ?_
      refine W_skip ?_
      refine KJoinM_n (p1 == 4) () hm ?_
      exact ls
     ·rw [if_neg h25] at hm
      refine W_condf rfl (beq_eq_false_iff_ne.2 h25) ?_
      refine W_rn ?_
      refine KJoinM_n (p1 == 5) () hm ?_
      exact ls
    ·rintro b1 _ hm
     replace hm : sys_Apply_j1 p1 p2 p3 b1 = some r := hm
     refine W_eqm ?_
     unfold sys_Apply_j1 at hm
     by_cases h4 : b1 = true
     ·rw [if_pos h4] at hm
      refine W_condt rfl (h4) ?_
      refine W_regF [0, 1, 2, 7, 23, 26, 27, 28, 29] fun k kp hk hp => ?_
      refine go ?_
      obtain ⟨y2, hc5, hm⟩ := bd hm
      refine RP (fun _ => sys_divide_ok p1 p2 p3 _ hc5) ?_
      refine RunRest_ops ?_
      refine go ?_
      refine hk _ _ ?_
      clear hk hp k kp
      refine W_ret ?_
      refine KBlock_r ?_
      refine KThen_r ?_
      refine KBody_ret [] ?_
      obtain rfl := Option.some.inj hm
      exact en
     ·rw [if_neg h4] at hm
      refine W_condf rfl (Bool.eq_false_iff.2 h4) ?_
      refine W_rg [0, 23, 31] ?_
      by_cases h6 : p1 = 6
      ·rw [if_pos h6] at hm
       refine W_condt rfl (beq_iff_eq.2 h6) ?_
       refine W_rg [1, 2, 7, 30, 32, 33, 34] ?_
       refine W_ret ?_
       refine KBlock_r ?_
       refine KThen_r ?_
       refine KBody_ret [] ?_
       obtain rfl := Option.some.inj hm
       exact en
      ·rw [if_neg h6] at hm
       refine W_condf rfl (beq_eq_false_iff_ne.2 h6) ?_
       refine W_rg [30, 36] ?_
       by_cases h7 : p1 = 7
       ·rw [if_pos h7] at hm
        refine W_condt rfl (beq_iff_eq.2 h7) ?_
        refine W_rg [1, 2, 7, 35, 37, 38, 39] ?_
        refine W_ret ?_
        refine KBlock_r ?_
        refine KThen_r ?_
        refine KBody_ret [] ?_
        obtain rfl := Option.some.inj hm
        exact en
       ·rw [if_neg h7] at hm
        refine W_condf rfl (beq_eq_false_iff_ne.2 h7) ?_
        refine W_rg [35, 41] ?_
        by_cases h8 : p1 = 8
        ·rw [if_pos h8] at hm
         refine W_condt rfl (beq_iff_eq.2 h8) ?_
         refine W_regF [1, 2, 7, 40, 42, 43, 44, 45] fun k kp hk hp => ?_
         refine go ?_
         obtain ⟨y3, hc9, hm⟩ := bd hm
         refine RP (fun _ => sys_truth_ok (decide (p2 < p3)) _ hc9) ?_
         refine RunRest_ops ?_
         refine go ?_
         refine hk _ _ ?_
         clear hk hp k kp
         refine W_ret ?_
         refine KBlock_r ?_
         refine KThen_r ?_
         refine KBody_ret [] ?_
         obtain rfl := Option.some.inj hm
         exact en
        ·rw [if_neg h8] at hm
         refine W_condf rfl (beq_eq_false_iff_ne.2 h8) ?_
         refine W_rg [40, 47] ?_
         by_cases h10 : p1 = 9
         ·rw [if_pos h10] at hm
          refine W_condt rfl (beq_iff_eq.2 h10) ?_
          refine W_regF [1, 2, 7, 46, 48, 49, 50, 51] fun k kp hk hp => ?_
          refine go ?_
          obtain ⟨y4, hc11, hm⟩ := bd hm
          refine RP (fun _ => sys_truth_ok (p2 == p3) _ hc11) ?_
          refine RunRest_ops ?_
          refine go ?_
          refine hk _ _ ?_
          clear hk hp k kp
          refine W_ret ?_
          refine KBlock_r ?_
          refine KThen_r ?_
          refine KBody_ret [] ?_
          obtain rfl := Option.some.inj hm
          exact en
         ·rw [if_neg h10] at hm
          refine W_condf rfl (beq_eq_false_iff_ne.2 h10) ?_
          refine W_rg [46, 53] ?_
          by_cases h12 : p1 = 10
          ·rw [if_pos h12] at hm
           refine W_condt rfl (beq_iff_eq.2 h12) ?_
           by_cases h13 : ¬ p2 = 0
           ·rw [if_pos h13] at hm
            have h13b : (p2 != 0) = true := bne_iff_ne.2 h13
            refine W_regF [1, 2, 7, 52, 54, 55, 56, 57, 58, 59, 60] fun k kp hk hp => ?_
            refine gox h13b ?_
            obtain ⟨y5, hc14, hm⟩ := bd hm
            refine RP (fun _ => sys_truth_ok (p3 != 0) _ hc14) ?_
            refine RunRest_ops ?_
            refine gox h13b ?_
            refine hk _ _ ?_
            clear hk hp k kp
            refine W_ret ?_
            refine KBlock_r ?_
            refine KThen_r ?_
            refine KBody_ret [] ?_
            obtain rfl := Option.some.inj hm
            exact en
           ·rw [if_neg h13] at hm
            have h13b : (p2 != 0) = false := bne_eq_false_iff_eq.2 (Decidable.not_not.1 h13)
            refine W_regF [1, 2, 7, 52, 54, 55, 56, 57, 58, 59, 60] fun k kp hk hp => ?_
            refine gox h13b ?_
            obtain ⟨y6, hc15, hm⟩ := bd hm
            refine RP (fun _ => sys_truth_ok false _ hc15) ?_
            refine RunRest_ops ?_
            refine gox h13b ?_
            refine hk _ _ ?_
            clear hk hp k kp
            refine W_ret ?_
            refine KBlock_r ?_
            refine KThen_r ?_
            refine KBody_ret [] ?_
            obtain rfl := Option.some.inj hm
            exact en
          ·rw [if_neg h12] at hm
           refine W_condf rfl (beq_eq_false_iff_ne.2 h12) ?_
           refine W_rg [52, 62] ?_
           by_cases h16 : p1 = 11
           ·rw [if_pos h16] at hm
            refine W_condt rfl (beq_iff_eq.2 h16) ?_
            by_cases h17 : ¬ p2 = 0
            ·rw [if_pos h17] at hm
             have h17b : (p2 != 0) = true := bne_iff_ne.2 h17
             refine W_regF [1, 2, 7, 61, 63, 64, 65, 66, 67, 68, 69] fun k kp hk hp => ?_
             refine gox h17b ?_
             obtain ⟨y7, hc18, hm⟩ := bd hm
             refine RP (fun _ => sys_truth_ok true _ hc18) ?_
             refine RunRest_ops ?_
             refine gox h17b ?_
             refine hk _ _ ?_
             clear hk hp k kp
             refine W_ret ?_
             refine KBlock_r ?_
             refine KThen_r ?_
             refine KBody_ret [] ?_
             obtain rfl := Option.some.inj hm
             exact en
            ·rw [if_neg h17] at hm
             have h17b : (p2 != 0) = false := bne_eq_false_iff_eq.2 (Decidable.not_not.1 h17)
             refine W_regF [1, 2, 7, 61, 63, 64, 65, 66, 67, 68, 69] fun k kp hk hp => ?_
             refine gox h17b ?_
             obtain ⟨y8, hc19, hm⟩ := bd hm
             refine RP (fun _ => sys_truth_ok (p3 != 0) _ hc19) ?_
             refine RunRest_ops ?_
             refine gox h17b ?_
             refine hk _ _ ?_
             clear hk hp k kp
             refine W_ret ?_
             refine KBlock_r ?_
             refine KThen_r ?_
             refine KBody_ret [] ?_
             obtain rfl := Option.some.inj hm
             exact en
           ·rw [if_neg h16] at hm
            refine W_condf rfl (beq_eq_false_iff_ne.2 h16) ?_
            refine W_rg [61, 71] ?_
            by_cases h20 : p1 = 12
            ·rw [if_pos h20] at hm
             refine W_condt rfl (beq_iff_eq.2 h20) ?_
             refine W_regF [1, 2, 7, 70, 72, 73, 74, 75, 76, 77] fun k kp hk hp => ?_
             refine go ?_
             obtain ⟨y9, hc21, hm⟩ := bd hm
             refine RP (fun _ => sys_truth_ok (!((p2 != 0) == (p3 != 0))) _ hc21) ?_
             refine RunRest_ops ?_
             refine go ?_
             refine hk _ _ ?_
             clear hk hp k kp
             refine W_ret ?_
             refine KBlock_r ?_
             refine KThen_r ?_
             refine KBody_ret [] ?_
             obtain rfl := Option.some.inj hm
             exact en
            ·rw [if_neg h20] at hm
             refine W_condf rfl (beq_eq_false_iff_ne.2 h20) ?_
             refine W_rg [2, 70, 79] ?_
             by_cases h22 : p1 = 13
             ·rw [if_pos h22] at hm
              refine W_condt rfl (beq_iff_eq.2 h22) ?_
              refine W_rg [1, 7, 78, 80, 81] ?_
              refine W_ret ?_
              refine KBlock_r ?_
              refine KThen_r ?_
              refine KBody_ret [] ?_
              obtain rfl := Option.some.inj hm
              exact en
             ·rw [if_neg h22] at hm
              refine W_condf rfl (beq_eq_false_iff_ne.2 h22) ?_
              refine W_rg [7, 78, 83] ?_
              by_cases h23 : p1 = 14
              ·rw [if_pos h23] at hm
               refine W_condt rfl (beq_iff_eq.2 h23) ?_
               refine W_regF [1, 82, 84, 85, 86] fun k kp hk hp => ?_
               refine go ?_
               obtain ⟨y10, hc24, hm⟩ := bd hm
               refine RP (fun _ => sys_truth_ok (p2 == 0) _ hc24) ?_
               refine RunRest_ops ?_
               refine go ?_
               refine hk _ _ ?_
               clear hk hp k kp
               refine W_ret ?_
               refine KBlock_r ?_
               refine KThen_r ?_
               refine KBody_ret [] ?_
               obtain rfl := Option.some.inj hm
               exact en
              ·rw [if_neg h23] at hm
               refine W_condf rfl (beq_eq_false_iff_ne.2 h23) ?_
               refine W_skip ?_
               refine KBlock_n ?_
               refine KThen_n (hk1 _ _ ?_)
               refine W_rg [1, 82] ?_
               refine W_ret ?_
               refine KBody_ret [] ?_
               obtain rfl := Option.some.inj hm
               exact en
end Pam

/- the walk of vm_VM_one, printed by a program of ours -/
namespace Pam
open Go Go.Proofs
set_option maxRecDepth 100000 in
set_option maxHeartbeats 1000000 in
theorem vm_VM_one_ok (p1 : TIns) (p2 : Int) (p3 : Int) (p4 : Int) (p5 : List Int) (p6 : List Int) (p7 : List Int) (p8 : List TIns) (p9 : Int) (p10 : List Int) (p11 : List Int) (v1_ : Nat) (v2_ : Nat) (r : (Bool × (List Int) × (List Int))) (hm : vm_VM_one p1 p2 p3 p4 p5 p6 p7 p8 p9 p10 p11 = some r) : Spec Try.prog 121 [.c (.optr 0 0), .a [.int .i64 p1.op, .int .i64 p1.k, .int .i64 p1.r_, .int .i64 p1.a, .int .i64 p1.b, .int .i64 p1.n]] [.box [.int .i64 p2, .int .i64 p3, .int .i64 p4, .tree 1 (p5.map (eK .i64)), .tree 1 (p6.map (eK .i64)), .tree 1 (p7.map (eK .i64)), .tree 6 (p8.map TIns.enc), .osl 1 v1_ 0 p10.length, .osl 2 v2_ 0 p11.length, .int .i64 p9], .arr 1 v1_ 2 (p10.map (eK .i64)), .arr 1 v2_ 2 (p11.map (eK .i64))] (fun p σ => (p = .c (.bool r.1) ∧ σ = [.box [.int .i64 p2, .int .i64 p3, .int .i64 p4, .tree 1 (p5.map (eK .i64)), .tree 1 (p6.map (eK .i64)), .tree 1 (p7.map (eK .i64)), .tree 6 (p8.map TIns.enc), .osl 1 v1_ 0 r.2.1.length, .osl 2 v2_ 0 r.2.2.length, .int .i64 p9], .arr 1 v1_ 2 (r.2.1.map (eK .i64)), .arr 1 v2_ 2 (r.2.2.map (eK .i64))])) (fun _ _ => False) := by
 refine Spec_ofD 166 [.tmp 4] Try.func121 rfl rfl rfl (by kernel_rfl) (by simp) ?_
 refine W_eqf ?_
 unfold vm_VM_one at hm
 refine W_rg [1, 4] ?_
 refine W_rg [7, 8, 9, 10] ?_
 refine W_seq_k fun k1 hk1 => ?_
 refine W_rg [11] ?_
 refine W_block ?_
 refine W_rg [14] ?_
 by_cases h1 : p1.op = 1
 ·rw [if_pos h1] at hm
  refine W_condt rfl (beq_iff_eq.2 h1) ?_
  obtain ⟨hg2a, hm⟩ := gd hm
  refine W_rnx (em (eK .i64) p11 p1.r_.toNat) ?_
  refine KBlock_n ?_
  refine KThen_n (hk1 _ _ ?_)
  refine W_rg [0, 3, 5, 12, 13, 15, 16, 17, 18, 19, 20] ?_
  refine W_eqa [.box [.int .i64 p2, .int .i64 p3, .int .i64 p4, .tree 1 (p5.map (eK .i64)), .tree 1 (p6.map (eK .i64)), .tree 1 (p7.map (eK .i64)), .tree 6 (p8.map TIns.enc), .osl 1 v1_ 0 p10.length, .osl 2 v2_ 0 p11.length, .int .i64 p9], .arr 1 v1_ 2 (p10.map (eK .i64)), .arr 1 v2_ 2 ((p11.set p1.r_.toNat p1.n).map (eK .i64)), .box [.int .i64 p1.op, .int .i64 p1.k, .int .i64 p1.r_, .int .i64 p1.a, .int .i64 p1.b, .int .i64 p1.n]] ?_
  refine W_ret ?_
  refine KBody_ret [.box [.int .i64 p2, .int .i64 p3, .int .i64 p4, .tree 1 (p5.map (eK .i64)), .tree 1 (p6.map (eK .i64)), .tree 1 (p7.map (eK .i64)), .tree 6 (p8.map TIns.enc), .osl 1 v1_ 0 p10.length, .osl 2 v2_ 0 p11.length, .int .i64 p9], .arr 1 v1_ 2 (p10.map (eK .i64)), .arr 1 v2_ 2 ((p11.set p1.r_.toNat p1.n).map (eK .i64))] ?_
  obtain rfl := Option.some.inj hm
  exact en
 ·rw [if_neg h1] at hm
  refine W_condf rfl (beq_eq_false_iff_ne.2 h1) ?_
  refine W_rg [13, 22] ?_
  by_cases h3 : p1.op = 2
  ·rw [if_pos h3] at hm
   refine W_condt rfl (beq_iff_eq.2 h3) ?_
   obtain ⟨⟨hg4a, hg4b⟩, hm⟩ := gd hm
   refine W_anx (a2 (em (eK .i64) p10 p1.n.toNat) (em (eK .i64) p11 p1.r_.toNat)) [0, 0, 2, 0, 8, 24, 56, 0, 128, 504, 1016, 2047, 4095] [false, false, false, false, false, false, false, false, false, false, false, true, true] ?_
   refine KBlock_n ?_
   refine KThen_n (hk1 _ _ ?_)
   refine W_rg [0, 3, 5, 12, 21, 23, 24, 25, 26, 27, 28, 29, 30, 31, 32, 33, 34] ?_
   refine W_eqa [.box [.int .i64 p2, .int .i64 p3, .int .i64 p4, .tree 1 (p5.map (eK .i64)), .tree 1 (p6.map (eK .i64)), .tree 1 (p7.map (eK .i64)), .tree 6 (p8.map TIns.enc), .osl 1 v1_ 0 p10.length, .osl 2 v2_ 0 p11.length, .int .i64 p9], .arr 1 v1_ 2 (p10.map (eK .i64)), .arr 1 v2_ 2 ((p11.set p1.r_.toNat (p10.getD p1.n.toNat default)).map (eK .i64)), .box [.int .i64 p1.op, .int .i64 p1.k, .int .i64 p1.r_, .int .i64 p1.a, .int .i64 p1.b, .int .i64 p1.n]] ?_
   refine W_ret ?_
   refine KBody_ret [.box [.int .i64 p2, .int .i64 p3, .int .i64 p4, .tree 1 (p5.map (eK .i64)), .tree 1 (p6.map (eK .i64)), .tree 1 (p7.map (eK .i64)), .tree 6 (p8.map TIns.enc), .osl 1 v1_ 0 p10.length, .osl 2 v2_ 0 p11.length, .int .i64 p9], .arr 1 v1_ 2 (p10.map (eK .i64)), .arr 1 v2_ 2 ((p11.set p1.r_.toNat (p10.getD p1.n.toNat default)).map (eK .i64))] ?_
   obtain rfl := Option.some.inj hm
   exact en
  ·rw [if_neg h3] at hm
   refine W_condf rfl (beq_eq_false_iff_ne.2 h3) ?_
   refine W_rg [21, 36] ?_
   by_cases h5 : p1.op = 4
   ·rw [if_pos h5] at hm
    refine W_condt rfl (beq_iff_eq.2 h5) ?_
    obtain ⟨⟨hg6a, hg6b⟩, hm⟩ := gd hm
    refine W_anx (a2 (em (eK .i64) p11 p1.r_.toNat) (em (eK .i64) p10 p1.n.toNat)) [0, 1, 3, 7, 0, 16, 0, 0, 128, 448, 960, 2047, 4095] [false, false, false, false, false, false, false, false, false, false, false, true, true] ?_
    refine KBlock_n ?_
    refine KThen_n (hk1 _ _ ?_)
    refine W_rg [0, 3, 5, 12, 35, 37, 38, 39, 40, 41, 42, 43, 44, 45, 46, 47, 48] ?_
    refine W_eqa [.box [.int .i64 p2, .int .i64 p3, .int .i64 p4, .tree 1 (p5.map (eK .i64)), .tree 1 (p6.map (eK .i64)), .tree 1 (p7.map (eK .i64)), .tree 6 (p8.map TIns.enc), .osl 1 v1_ 0 p10.length, .osl 2 v2_ 0 p11.length, .int .i64 p9], .arr 1 v1_ 2 ((p10.set p1.n.toNat (p11.getD p1.r_.toNat default)).map (eK .i64)), .arr 1 v2_ 2 (p11.map (eK .i64)), .box [.int .i64 p1.op, .int .i64 p1.k, .int .i64 p1.r_, .int .i64 p1.a, .int .i64 p1.b, .int .i64 p1.n]] ?_
    refine W_ret ?_
    refine KBody_ret [.box [.int .i64 p2, .int .i64 p3, .int .i64 p4, .tree 1 (p5.map (eK .i64)), .tree 1 (p6.map (eK .i64)), .tree 1 (p7.map (eK .i64)), .tree 6 (p8.map TIns.enc), .osl 1 v1_ 0 p10.length, .osl 2 v2_ 0 p11.length, .int .i64 p9], .arr 1 v1_ 2 ((p10.set p1.n.toNat (p11.getD p1.r_.toNat default)).map (eK .i64)), .arr 1 v2_ 2 (p11.map (eK .i64))] ?_
    obtain rfl := Option.some.inj hm
    exact en
   ·rw [if_neg h5] at hm
    refine W_condf rfl (beq_eq_false_iff_ne.2 h5) ?_
    refine W_joinM (S := Bool) (V := Unit) [5, 35, 49, 50, 51] (fun b1 _ => [(5, .c (.osl 2 v2_ 0 p11.length)), (49, .c (.bool b1))]) (fun b1 _ => [.box [.int .i64 p2, .int .i64 p3, .int .i64 p4, .tree 1 (p5.map (eK .i64)), .tree 1 (p6.map (eK .i64)), .tree 1 (p7.map (eK .i64)), .tree 6 (p8.map TIns.enc), .osl 1 v1_ 0 p10.length, .osl 2 v2_ 0 p11.length, .int .i64 p9], .arr 1 v1_ 2 (p10.map (eK .i64)), .arr 1 v2_ 2 (p11.map (eK .i64)), .box [.int .i64 p1.op, .int .i64 p1.k, .int .i64 p1.r_, .int .i64 p1.a, .int .i64 p1.b, .int .i64 p1.n]]) (fun b1 => vm_VM_one_j1 p1 p10 p11 b1 = some r) ?_ ?_
    ·skip
     refine W_rg [35, 50] ?_
     by_cases h29 : p1.op = 3
     ·rw [if_pos h29] at hm
      refine W_condt rfl (beq_iff_eq.2 h29) ?_
      refine W_skip ?_
      refine KJoinM_n (p1.op == 3) () hm ?_
      exact ls
     ·rw [if_neg h29] at hm
      refine W_condf rfl (beq_eq_false_iff_ne.2 h29) ?_
      refine W_rn ?_
      refine KJoinM_n (p1.op == 5) () hm ?_
      exact ls
    ·rintro b1 _ hm
     replace hm : vm_VM_one_j1 p1 p10 p11 b1 = some r := hm
     refine W_eqm ?_
     unfold vm_VM_one_j1 at hm
     by_cases h7 : b1 = true
     ·rw [if_pos h7] at hm
      refine W_condt rfl (h7) ?_
      obtain ⟨hg8a, hm⟩ := gd hm
      refine W_rgx (em (eK .i64) p11 p1.a.toNat) [12, 49, 52, 53, 54, 55, 56] ?_
      refine W_seq_k fun k2 hk2 => ?_
      by_cases h9 : (p11.getD p1.a.toNat default) < 0
      ·rw [if_pos h9] at hm
       have h9b : decide ((p11.getD p1.a.toNat default) < 0) = true := decide_eq_true h9
       refine W_rgx h9b [57, 58, 59, 60, 61, 62, 63] ?_
       refine W_condt rfl rfl ?_
       refine W_rg [0, 3, 5, 6, 64] ?_
       refine W_ret ?_
       refine KThen_r ?_
       refine KBlock_r ?_
       refine KThen_r ?_
       refine KBody_ret [.box [.int .i64 p2, .int .i64 p3, .int .i64 p4, .tree 1 (p5.map (eK .i64)), .tree 1 (p6.map (eK .i64)), .tree 1 (p7.map (eK .i64)), .tree 6 (p8.map TIns.enc), .osl 1 v1_ 0 p10.length, .osl 2 v2_ 0 p11.length, .int .i64 p9], .arr 1 v1_ 2 (p10.map (eK .i64)), .arr 1 v2_ 2 (p11.map (eK .i64))] ?_
       obtain rfl := Option.some.inj hm
       exact en
      ·rw [if_neg h9] at hm
       have h9b : decide ((p11.getD p1.a.toNat default) < 0) = false := decide_eq_false h9
       refine W_rgx h9b [57, 58, 59, 60, 61, 62, 63] ?_
       by_cases h10 : (p11.getD p1.a.toNat default) ≥ p1.b
       ·rw [if_pos h10] at hm
        refine W_condt rfl (decide_eq_true h10) ?_
        refine W_rg [0, 3, 5, 6, 64] ?_
        refine W_ret ?_
        refine KThen_r ?_
        refine KBlock_r ?_
        refine KThen_r ?_
        refine KBody_ret [.box [.int .i64 p2, .int .i64 p3, .int .i64 p4, .tree 1 (p5.map (eK .i64)), .tree 1 (p6.map (eK .i64)), .tree 1 (p7.map (eK .i64)), .tree 6 (p8.map TIns.enc), .osl 1 v1_ 0 p10.length, .osl 2 v2_ 0 p11.length, .int .i64 p9], .arr 1 v1_ 2 (p10.map (eK .i64)), .arr 1 v2_ 2 (p11.map (eK .i64))] ?_
        obtain rfl := Option.some.inj hm
        exact en
       ·rw [if_neg h10] at hm
        refine W_condf rfl (decide_eq_false h10) ?_
        refine W_skip ?_
        refine KThen_n (hk2 _ _ ?_)
        refine W_rg [64, 65, 66] ?_
        by_cases h11 : p1.op = 3
        ·rw [if_pos h11] at hm
         refine W_condt rfl (beq_iff_eq.2 h11) ?_
         obtain ⟨⟨hg12a, hg12b⟩, hm⟩ := gd hm
         refine W_anx (a2 (em (eK .i64) p10 ((IntKind.wrap .i64 (p1.n + (p11.getD p1.a.toNat default))).toNat)) (em (eK .i64) p11 p1.r_.toNat)) [0, 0, 2, 0, 8, 24, 56, 0, 128, 0, 896, 2040, 4088, 8191, 16383] [false, false, false, false, false, false, false, false, false, false, false, false, false, true, true] ?_
         refine KBlock_n ?_
         refine KThen_n (hk1 _ _ ?_)
         refine W_rg [0, 3, 5, 6, 67, 68, 69, 70, 71, 72, 73, 74, 75, 76, 77, 78, 79, 80, 81] ?_
         refine W_eqa [.box [.int .i64 p2, .int .i64 p3, .int .i64 p4, .tree 1 (p5.map (eK .i64)), .tree 1 (p6.map (eK .i64)), .tree 1 (p7.map (eK .i64)), .tree 6 (p8.map TIns.enc), .osl 1 v1_ 0 p10.length, .osl 2 v2_ 0 p11.length, .int .i64 p9], .arr 1 v1_ 2 (p10.map (eK .i64)), .arr 1 v2_ 2 ((p11.set p1.r_.toNat (p10.getD ((IntKind.wrap .i64 (p1.n + (p11.getD p1.a.toNat default))).toNat) default)).map (eK .i64)), .box [.int .i64 p1.op, .int .i64 p1.k, .int .i64 p1.r_, .int .i64 p1.a, .int .i64 p1.b, .int .i64 p1.n]] ?_
         refine W_ret ?_
         refine KBody_ret [.box [.int .i64 p2, .int .i64 p3, .int .i64 p4, .tree 1 (p5.map (eK .i64)), .tree 1 (p6.map (eK .i64)), .tree 1 (p7.map (eK .i64)), .tree 6 (p8.map TIns.enc), .osl 1 v1_ 0 p10.length, .osl 2 v2_ 0 p11.length, .int .i64 p9], .arr 1 v1_ 2 (p10.map (eK .i64)), .arr 1 v2_ 2 ((p11.set p1.r_.toNat (p10.getD ((IntKind.wrap .i64 (p1.n + (p11.getD p1.a.toNat default))).toNat) default)).map (eK .i64))] ?_
         obtain rfl := Option.some.inj hm
         exact en
        ·rw [if_neg h11] at hm
         refine W_condf rfl (beq_eq_false_iff_ne.2 h11) ?_
         obtain ⟨⟨hg13a, hg13b⟩, hm⟩ := gd hm
         refine W_anx (a2 (em (eK .i64) p11 p1.r_.toNat) (em (eK .i64) p10 ((IntKind.wrap .i64 (p1.n + (p11.getD p1.a.toNat default))).toNat))) [0, 1, 3, 7, 0, 16, 0, 112, 0, 0, 512, 1792, 3840, 8191, 16383] [false, false, false, false, false, false, false, false, false, false, false, false, false, true, true] ?_
         refine KBlock_n ?_
         refine KThen_n (hk1 _ _ ?_)
         refine W_rg [0, 3, 5, 6, 67, 82, 83, 84, 85, 86, 87, 88, 89, 90, 91, 92, 93, 94, 95] ?_
         refine W_eqa [.box [.int .i64 p2, .int .i64 p3, .int .i64 p4, .tree 1 (p5.map (eK .i64)), .tree 1 (p6.map (eK .i64)), .tree 1 (p7.map (eK .i64)), .tree 6 (p8.map TIns.enc), .osl 1 v1_ 0 p10.length, .osl 2 v2_ 0 p11.length, .int .i64 p9], .arr 1 v1_ 2 ((p10.set ((IntKind.wrap .i64 (p1.n + (p11.getD p1.a.toNat default))).toNat) (p11.getD p1.r_.toNat default)).map (eK .i64)), .arr 1 v2_ 2 (p11.map (eK .i64)), .box [.int .i64 p1.op, .int .i64 p1.k, .int .i64 p1.r_, .int .i64 p1.a, .int .i64 p1.b, .int .i64 p1.n]] ?_
         refine W_ret ?_
         refine KBody_ret [.box [.int .i64 p2, .int .i64 p3, .int .i64 p4, .tree 1 (p5.map (eK .i64)), .tree 1 (p6.map (eK .i64)), .tree 1 (p7.map (eK .i64)), .tree 6 (p8.map TIns.enc), .osl 1 v1_ 0 p10.length, .osl 2 v2_ 0 p11.length, .int .i64 p9], .arr 1 v1_ 2 ((p10.set ((IntKind.wrap .i64 (p1.n + (p11.getD p1.a.toNat default))).toNat) (p11.getD p1.r_.toNat default)).map (eK .i64)), .arr 1 v2_ 2 (p11.map (eK .i64))] ?_
         obtain rfl := Option.some.inj hm
         exact en
     ·rw [if_neg h7] at hm
      refine W_condf rfl (Bool.eq_false_iff.2 h7) ?_
      refine W_rg [0, 49, 97] ?_
      by_cases h14 : p1.op = 6
      ·rw [if_pos h14] at hm
       refine W_condt rfl (beq_iff_eq.2 h14) ?_
       obtain ⟨hg15a, hm⟩ := gd hm
       refine W_any (by kernel_rfl) [0, 0, 2, 0, 8, 0, 0, 64, 224, 480, 1016, 2047, 4095] [false, false, false, false, false, false, false, false, false, false, false, true, true] (by kernel_rfl) fun k hk => ?_
       refine gax (em (eK .i64) p11 p1.a.toNat) ?_
       obtain ⟨y2, hc16, hm⟩ := bd hm
       refine AP (fun _ => sys_Apply_ok p1.k (p11.getD p1.a.toNat default) 0 _ hc16) ?_
       obtain ⟨hg17a, hm⟩ := gd hm
       refine gax (em (eK .i64) p11 p1.r_.toNat) ?_
       refine hk _ _ ?_
       clear hk k
       refine KBlock_n ?_
       refine KThen_n (hk1 _ _ ?_)
       refine W_rg [3, 5, 12, 96, 98, 99, 100, 101, 102, 103, 104, 105, 106, 107, 108, 109] ?_
       refine W_eqa [.box [.int .i64 p2, .int .i64 p3, .int .i64 p4, .tree 1 (p5.map (eK .i64)), .tree 1 (p6.map (eK .i64)), .tree 1 (p7.map (eK .i64)), .tree 6 (p8.map TIns.enc), .osl 1 v1_ 0 p10.length, .osl 2 v2_ 0 p11.length, .int .i64 p9], .arr 1 v1_ 2 (p10.map (eK .i64)), .arr 1 v2_ 2 ((p11.set p1.r_.toNat y2).map (eK .i64)), .box [.int .i64 p1.op, .int .i64 p1.k, .int .i64 p1.r_, .int .i64 p1.a, .int .i64 p1.b, .int .i64 p1.n]] ?_
       refine W_ret ?_
       refine KBody_ret [.box [.int .i64 p2, .int .i64 p3, .int .i64 p4, .tree 1 (p5.map (eK .i64)), .tree 1 (p6.map (eK .i64)), .tree 1 (p7.map (eK .i64)), .tree 6 (p8.map TIns.enc), .osl 1 v1_ 0 p10.length, .osl 2 v2_ 0 p11.length, .int .i64 p9], .arr 1 v1_ 2 (p10.map (eK .i64)), .arr 1 v2_ 2 ((p11.set p1.r_.toNat y2).map (eK .i64))] ?_
       obtain rfl := Option.some.inj hm
       exact en
      ·rw [if_neg h14] at hm
       refine W_condf rfl (beq_eq_false_iff_ne.2 h14) ?_
       refine W_rg [96, 111] ?_
       by_cases h18 : p1.op = 7
       ·rw [if_pos h18] at hm
        refine W_condt rfl (beq_iff_eq.2 h18) ?_
        obtain ⟨⟨hg19a, hg19b⟩, hm⟩ := gd hm
        refine W_any (by kernel_rfl) [0, 0, 2, 0, 8, 0, 0, 64, 224, 480, 0, 0, 2048, 7168, 15360, 32760, 65535, 131071] [false, false, false, false, false, false, false, false, false, false, false, false, false, false, false, false, true, true] (by kernel_rfl) fun k hk => ?_
        refine gax (a2 (em (eK .i64) p11 p1.a.toNat) (em (eK .i64) p11 p1.b.toNat)) ?_
        obtain ⟨y3, hc20, hm⟩ := bd hm
        refine AP (fun _ => sys_Apply_ok p1.k (p11.getD p1.a.toNat default) (p11.getD p1.b.toNat default) _ hc20) ?_
        obtain ⟨hg21a, hm⟩ := gd hm
        refine gax (em (eK .i64) p11 p1.r_.toNat) ?_
        refine hk _ _ ?_
        clear hk k
        refine KBlock_n ?_
        refine KThen_n (hk1 _ _ ?_)
        refine W_rg [3, 5, 12, 110, 112, 113, 114, 115, 116, 117, 118, 119, 120, 121, 122, 123, 124, 125, 126, 127, 128] ?_
        refine W_eqa [.box [.int .i64 p2, .int .i64 p3, .int .i64 p4, .tree 1 (p5.map (eK .i64)), .tree 1 (p6.map (eK .i64)), .tree 1 (p7.map (eK .i64)), .tree 6 (p8.map TIns.enc), .osl 1 v1_ 0 p10.length, .osl 2 v2_ 0 p11.length, .int .i64 p9], .arr 1 v1_ 2 (p10.map (eK .i64)), .arr 1 v2_ 2 ((p11.set p1.r_.toNat y3).map (eK .i64)), .box [.int .i64 p1.op, .int .i64 p1.k, .int .i64 p1.r_, .int .i64 p1.a, .int .i64 p1.b, .int .i64 p1.n]] ?_
        refine W_ret ?_
        refine KBody_ret [.box [.int .i64 p2, .int .i64 p3, .int .i64 p4, .tree 1 (p5.map (eK .i64)), .tree 1 (p6.map (eK .i64)), .tree 1 (p7.map (eK .i64)), .tree 6 (p8.map TIns.enc), .osl 1 v1_ 0 p10.length, .osl 2 v2_ 0 p11.length, .int .i64 p9], .arr 1 v1_ 2 (p10.map (eK .i64)), .arr 1 v2_ 2 ((p11.set p1.r_.toNat y3).map (eK .i64))] ?_
        obtain rfl := Option.some.inj hm
        exact en
       ·rw [if_neg h18] at hm
        refine W_condf rfl (beq_eq_false_iff_ne.2 h18) ?_
        refine W_rg [110, 130] ?_
        by_cases h22 : p1.op = 8
        ·rw [if_pos h22] at hm
         refine W_condt rfl (beq_iff_eq.2 h22) ?_
         obtain ⟨hg23a, hm⟩ := gd hm
         refine W_rgx (em (eK .i64) p11 p1.r_.toNat) [12, 129, 131, 132, 133, 134, 135] ?_
         by_cases h24 : ¬ (p11.getD p1.r_.toNat default) = 0
         ·rw [if_pos h24] at hm
          refine W_condt rfl (bne_iff_ne.2 h24) ?_
          obtain ⟨hg25a, hm⟩ := gd hm
          refine W_anx (a2 (em (eK .i64) p11 p1.a.toNat) (em (eK .i64) p11 p1.r_.toNat)) [0, 0, 2, 0, 0, 16, 56, 120, 255, 511] [false, false, false, false, false, false, false, false, true, true] ?_
          refine KBlock_n ?_
          refine KThen_n (hk1 _ _ ?_)
          refine W_rg [3, 5, 136, 137, 138, 139, 140, 141, 142, 143, 144, 145] ?_
          refine W_eqa [.box [.int .i64 p2, .int .i64 p3, .int .i64 p4, .tree 1 (p5.map (eK .i64)), .tree 1 (p6.map (eK .i64)), .tree 1 (p7.map (eK .i64)), .tree 6 (p8.map TIns.enc), .osl 1 v1_ 0 p10.length, .osl 2 v2_ 0 p11.length, .int .i64 p9], .arr 1 v1_ 2 (p10.map (eK .i64)), .arr 1 v2_ 2 ((p11.set p1.r_.toNat (p11.getD p1.a.toNat default)).map (eK .i64)), .box [.int .i64 p1.op, .int .i64 p1.k, .int .i64 p1.r_, .int .i64 p1.a, .int .i64 p1.b, .int .i64 p1.n]] ?_
          refine W_ret ?_
          refine KBody_ret [.box [.int .i64 p2, .int .i64 p3, .int .i64 p4, .tree 1 (p5.map (eK .i64)), .tree 1 (p6.map (eK .i64)), .tree 1 (p7.map (eK .i64)), .tree 6 (p8.map TIns.enc), .osl 1 v1_ 0 p10.length, .osl 2 v2_ 0 p11.length, .int .i64 p9], .arr 1 v1_ 2 (p10.map (eK .i64)), .arr 1 v2_ 2 ((p11.set p1.r_.toNat (p11.getD p1.a.toNat default)).map (eK .i64))] ?_
          obtain rfl := Option.some.inj hm
          exact en
         ·rw [if_neg h24] at hm
          refine W_condf rfl (bne_eq_false_iff_eq.2 (Decidable.not_not.1 h24)) ?_
          obtain ⟨hg26a, hm⟩ := gd hm
          refine W_anx (a2 (em (eK .i64) p11 p1.b.toNat) (em (eK .i64) p11 p1.r_.toNat)) [0, 0, 2, 0, 0, 16, 56, 120, 255, 511] [false, false, false, false, false, false, false, false, true, true] ?_
          refine KBlock_n ?_
          refine KThen_n (hk1 _ _ ?_)
          refine W_rg [3, 5, 136, 146, 147, 148, 149, 150, 151, 152, 153, 154] ?_
          refine W_eqa [.box [.int .i64 p2, .int .i64 p3, .int .i64 p4, .tree 1 (p5.map (eK .i64)), .tree 1 (p6.map (eK .i64)), .tree 1 (p7.map (eK .i64)), .tree 6 (p8.map TIns.enc), .osl 1 v1_ 0 p10.length, .osl 2 v2_ 0 p11.length, .int .i64 p9], .arr 1 v1_ 2 (p10.map (eK .i64)), .arr 1 v2_ 2 ((p11.set p1.r_.toNat (p11.getD p1.b.toNat default)).map (eK .i64)), .box [.int .i64 p1.op, .int .i64 p1.k, .int .i64 p1.r_, .int .i64 p1.a, .int .i64 p1.b, .int .i64 p1.n]] ?_
          refine W_ret ?_
          refine KBody_ret [.box [.int .i64 p2, .int .i64 p3, .int .i64 p4, .tree 1 (p5.map (eK .i64)), .tree 1 (p6.map (eK .i64)), .tree 1 (p7.map (eK .i64)), .tree 6 (p8.map TIns.enc), .osl 1 v1_ 0 p10.length, .osl 2 v2_ 0 p11.length, .int .i64 p9], .arr 1 v1_ 2 (p10.map (eK .i64)), .arr 1 v2_ 2 ((p11.set p1.r_.toNat (p11.getD p1.b.toNat default)).map (eK .i64))] ?_
          obtain rfl := Option.some.inj hm
          exact en
        ·rw [if_neg h22] at hm
         refine W_condf rfl (beq_eq_false_iff_ne.2 h22) ?_
         refine W_rg [12, 129, 156] ?_
         by_cases h27 : p1.op = 9
         ·rw [if_pos h27] at hm
          refine W_condt rfl (beq_iff_eq.2 h27) ?_
          obtain ⟨⟨hg28a, hg28b⟩, hm⟩ := gd hm
          refine W_anx (a2 (em (eK .i64) p11 p1.a.toNat) (em (eK .i64) p11 p1.r_.toNat)) [0, 0, 2, 0, 0, 16, 56, 120, 255, 511] [false, false, false, false, false, false, false, false, true, true] ?_
          refine KBlock_n ?_
          refine KThen_n (hk1 _ _ ?_)
          refine W_rg [3, 5, 155, 157, 158, 159, 160, 161, 162, 163, 164, 165] ?_
          refine W_eqa [.box [.int .i64 p2, .int .i64 p3, .int .i64 p4, .tree 1 (p5.map (eK .i64)), .tree 1 (p6.map (eK .i64)), .tree 1 (p7.map (eK .i64)), .tree 6 (p8.map TIns.enc), .osl 1 v1_ 0 p10.length, .osl 2 v2_ 0 p11.length, .int .i64 p9], .arr 1 v1_ 2 (p10.map (eK .i64)), .arr 1 v2_ 2 ((p11.set p1.r_.toNat (p11.getD p1.a.toNat default)).map (eK .i64)), .box [.int .i64 p1.op, .int .i64 p1.k, .int .i64 p1.r_, .int .i64 p1.a, .int .i64 p1.b, .int .i64 p1.n]] ?_
          refine W_ret ?_
          refine KBody_ret [.box [.int .i64 p2, .int .i64 p3, .int .i64 p4, .tree 1 (p5.map (eK .i64)), .tree 1 (p6.map (eK .i64)), .tree 1 (p7.map (eK .i64)), .tree 6 (p8.map TIns.enc), .osl 1 v1_ 0 p10.length, .osl 2 v2_ 0 p11.length, .int .i64 p9], .arr 1 v1_ 2 (p10.map (eK .i64)), .arr 1 v2_ 2 ((p11.set p1.r_.toNat (p11.getD p1.a.toNat default)).map (eK .i64))] ?_
          obtain rfl := Option.some.inj hm
          exact en
         ·rw [if_neg h27] at hm
          refine W_condf rfl (beq_eq_false_iff_ne.2 h27) ?_
          refine W_skip ?_
          refine KBlock_n ?_
          refine KThen_n (hk1 _ _ ?_)
          refine W_rg [3, 5, 155] ?_
          refine W_ret ?_
          refine KBody_ret [.box [.int .i64 p2, .int .i64 p3, .int .i64 p4, .tree 1 (p5.map (eK .i64)), .tree 1 (p6.map (eK .i64)), .tree 1 (p7.map (eK .i64)), .tree 6 (p8.map TIns.enc), .osl 1 v1_ 0 p10.length, .osl 2 v2_ 0 p11.length, .int .i64 p9], .arr 1 v1_ 2 (p10.map (eK .i64)), .arr 1 v2_ 2 (p11.map (eK .i64))] ?_
          obtain rfl := Option.some.inj hm
          exact en
end Pam

/- the walk of vm_VM_run, printed by a program of ours -/
namespace Pam
open Go Go.Proofs
set_option maxRecDepth 100000 in
set_option maxHeartbeats 1000000 in
theorem vm_VM_run_ok (p1 : Int) (p2 : Int) (p3 : Int) (p4 : List Int) (p5 : List Int) (p6 : List Int) (p7 : List TIns) (p8 : List Int) (p9 : Int) (p10 : List Int) (v1_ : Nat) (r : (Int × (List Int) × Int × (List Int))) (hm : vm_VM_run p1 p2 p3 p4 p5 p6 p7 p8 p9 p10 = some r) : Spec Try.prog 92 [.c (.optr 0 0)] [.box [.int .i64 p1, .int .i64 p2, .int .i64 p3, .tree 1 (p4.map (eK .i64)), .tree 1 (p5.map (eK .i64)), .tree 1 (p6.map (eK .i64)), .tree 6 (p7.map TIns.enc), .osl 1 v1_ 0 p10.length, .tree 1 (p8.map (eK .i64)), .int .i64 p9], .arr 1 v1_ 2 (p10.map (eK .i64))] (fun p σ => (p = .c (.int .i64 r.1) ∧ σ = [.box [.int .i64 p1, .int .i64 p2, .int .i64 p3, .tree 1 (p4.map (eK .i64)), .tree 1 (p5.map (eK .i64)), .tree 1 (p6.map (eK .i64)), .tree 6 (p7.map TIns.enc), .osl 1 v1_ 0 r.2.2.2.length, .tree 1 (r.2.1.map (eK .i64)), .int .i64 r.2.2.1], .arr 1 v1_ 2 (r.2.2.2.map (eK .i64))])) (fun _ _ => False) := by
 refine Spec_ofD 84 [.tmp 2] Try.func92 rfl rfl rfl (by kernel_rfl) (by simp) ?_
 refine W_eqf ?_
 unfold vm_VM_run at hm
 refine W_rg [2] ?_
 obtain ⟨⟨hg1a, ⟨hg1bx, hg1by⟩⟩, hm⟩ := gd hm
 refine W_rg [8, 9, 10, 11, 12, 13, 14, 15, 16] ?_
 refine W_eqa [.box [.int .i64 p1, .int .i64 p2, .int .i64 p3, .tree 1 (p4.map (eK .i64)), .tree 1 (p5.map (eK .i64)), .tree 1 (p6.map (eK .i64)), .tree 6 (p7.map TIns.enc), .osl 1 v1_ 0 p10.length, .osl 2 0 0 p2.toNat, .int .i64 p9], .arr 1 v1_ 2 (p10.map (eK .i64)), .arr 1 0 2 ((List.replicate p2.toNat 0).map (eK .i64))] ?_
 refine W_rg [] ?_
 refine W_joinM (S := (Int × (List Int) × (List Int))) (V := Unit) [0, 2, 3, 4, 5, 6, 7, 17, 18, 19, 20, 21, 22, 23, 24, 25, 26, 27, 28, 29, 30, 31, 32, 33, 34, 35, 36, 37, 38, 39, 40, 41, 42, 43, 44, 45, 46, 47, 48, 49, 50, 51, 52, 53, 54, 55, 56, 57, 58, 59, 60, 61, 62, 63, 64, 65, 66, 67, 68, 69, 70, 71, 72, 73, 74, 75, 76, 77, 78, 79, 80, 81, 82, 83] (fun (x3, l4, l5) _ => []) (fun (x3, l4, l5) _ => [.box [.int .i64 p1, .int .i64 p2, .int .i64 p3, .tree 1 (p4.map (eK .i64)), .tree 1 (p5.map (eK .i64)), .tree 1 (p6.map (eK .i64)), .tree 6 (p7.map TIns.enc), .osl 1 v1_ 0 l4.length, .osl 2 0 0 l5.length, .int .i64 x3], .arr 1 v1_ 2 (l4.map (eK .i64)), .arr 1 0 2 (l5.map (eK .i64))]) (fun (x3, l4, l5) => vm_VM_run_j1 x3 l4 l5 = some r) ?_ ?_
 ·skip
  refine W_rg [] ?_
  refine W_block ?_
  obtain ⟨o1, hl1, hm1⟩ := bd hm
  refine W_loopM (S := (Int × (List Int) × (List Int) × Int × Int × Int)) (V := Unit) (O := (Int × (List Int) × (List Int)) ⊕ (Int × (List Int) × Int × (List Int))) [2, 3, 4, 5, 6, 7, 17, 18, 19, 20, 21, 22, 23, 24, 25, 26, 27, 28, 29, 30, 31, 32, 33, 34, 35, 36, 37, 38, 39, 40, 41, 42, 43, 44, 45, 46, 47, 48, 49, 50, 51, 52, 53, 54, 55, 56, 57, 58, 59, 60, 61, 62, 63, 64, 65, 66, 67, 68, 69, 70, 71, 72, 73, 74, 75, 76, 77, 78, 79, 80, 81, 82, 83] (fun (x31, l32, l33, x34, x35, x36) _ => [(3, .c (.int .i64 x34)), (4, .c (.int .i64 x35)), (5, .c (.int .i64 x36))]) (fun (x31, l32, l33, x34, x35, x36) _ => [.box [.int .i64 p1, .int .i64 p2, .int .i64 p3, .tree 1 (p4.map (eK .i64)), .tree 1 (p5.map (eK .i64)), .tree 1 (p6.map (eK .i64)), .tree 6 (p7.map TIns.enc), .osl 1 v1_ 0 l32.length, .osl 2 0 0 l33.length, .int .i64 x31], .arr 1 v1_ 2 (l32.map (eK .i64)), .arr 1 0 2 (l33.map (eK .i64))]) _ _ () hl1 ?_ ?_
  ·exact ls
  ·rintro ⟨x31, l32, l33, x34, x35, x36⟩ _ r1 hm hr1
   replace hm : vm_VM_run_l1 p1 p2 p3 p4 p5 p6 p7 x31 l32 l33 x34 x35 x36 = some r1 := hm
   refine W_eqm ?_
   unfold vm_VM_run_l1 at hm
   refine W_seq_k fun k1 hk1 => ?_
   refine W_rg [17, 18, 19, 20, 21, 22, 23] ?_
   by_cases h2 : x36 < (p7.length : Int)
   ·rw [if_pos h2] at hm
    refine W_condt rfl (decide_eq_true h2) ?_
    refine W_skip ?_
    refine KThen_n (hk1 _ _ ?_)
    refine W_seq_k fun k2 hk2 => ?_
    refine W_block ?_
    obtain ⟨hg3a, hm⟩ := gd hm
    refine W_rgx (em TIns.enc p7 x36.toNat) [24, 27, 28, 29, 30, 31, 32, 33, 34] ?_
    refine W_rg [35, 36, 37, 38, 39, 40, 41] ?_
    refine W_rg [42] ?_
    refine W_block ?_
    refine W_rg [50] ?_
    by_cases h4 : ((p7.getD x36.toNat default).op) = 10
    ·rw [if_pos h4] at hm
     refine W_condt rfl (beq_iff_eq.2 h4) ?_
     refine W_rg [43, 49, 51] ?_
     obtain ⟨hg5a, hm⟩ := gd hm
     refine W_anx (em (eK .i64) l33 (((p7.getD x36.toNat default).r_).toNat)) [0, 1, 3, 7, 0, 16, 63, 127] [false, false, false, false, false, false, true, true] ?_
     refine KBlock_n ?_
     refine KBlock_n ?_
     refine KThen_n (hk2 _ _ ?_)
     refine W_rn ?_
     refine KLoopM_n ((IntKind.wrap .i64 (x31 + 1)), l32, (l33.set (((p7.getD x36.toNat default).r_).toNat) 0), x36, 0, (IntKind.wrap .i64 (x36 + 1))) () hm ?_
     exact ls
    ·rw [if_neg h4] at hm
     refine W_condf rfl (beq_eq_false_iff_ne.2 h4) ?_
     refine W_rg [43, 49, 60] ?_
     by_cases h6 : ((p7.getD x36.toNat default).op) = 11
     ·rw [if_pos h6] at hm
      refine W_condt rfl (beq_iff_eq.2 h6) ?_
      refine W_rg [6, 59, 61, 62] ?_
      obtain ⟨hg7a, hm⟩ := gd hm
      refine W_rgx (em TIns.enc p7 x34.toNat) [63, 64, 65, 66, 67, 68, 69, 70] ?_
      refine W_rg [71, 72, 73] ?_
      by_cases h8 : (IntKind.wrap .i64 (x35 + 1)) < ((p7.getD x34.toNat default).n)
      ·rw [if_pos h8] at hm
       refine W_condt rfl (decide_eq_true h8) ?_
       obtain ⟨hg9a, hm⟩ := gd hm
       refine W_agx (em (eK .i64) l33 (((p7.getD x34.toNat default).r_).toNat)) [5, 7, 74, 75, 76, 77, 78, 79, 80, 81, 82] [0, 1, 3, 7, 0, 16, 0, 127, 255] [false, false, false, false, false, false, false, true, true] ?_
       refine W_eqa [.box [.int .i64 p1, .int .i64 p2, .int .i64 p3, .tree 1 (p4.map (eK .i64)), .tree 1 (p5.map (eK .i64)), .tree 1 (p6.map (eK .i64)), .tree 6 (p7.map TIns.enc), .osl 1 v1_ 0 l32.length, .osl 2 0 0 l33.length, .int .i64 (IntKind.wrap .i64 (x31 + 1))], .arr 1 v1_ 2 (l32.map (eK .i64)), .arr 1 0 2 ((l33.set (((p7.getD x34.toNat default).r_).toNat) (IntKind.wrap .i64 (x35 + 1))).map (eK .i64)), .box [.int .i64 ((p7.getD x36.toNat default).op), .int .i64 ((p7.getD x36.toNat default).k), .int .i64 ((p7.getD x36.toNat default).r_), .int .i64 ((p7.getD x36.toNat default).a), .int .i64 ((p7.getD x36.toNat default).b), .int .i64 ((p7.getD x36.toNat default).n)], .box [.int .i64 ((p7.getD x34.toNat default).op), .int .i64 ((p7.getD x34.toNat default).k), .int .i64 ((p7.getD x34.toNat default).r_), .int .i64 ((p7.getD x34.toNat default).a), .int .i64 ((p7.getD x34.toNat default).b), .int .i64 ((p7.getD x34.toNat default).n)]] ?_
       refine W_rn ?_
       refine KBlock_n ?_
       refine KBlock_n ?_
       refine KThen_n (hk2 _ _ ?_)
       refine W_rn ?_
       refine KLoopM_n ((IntKind.wrap .i64 (x31 + 1)), l32, (l33.set (((p7.getD x34.toNat default).r_).toNat) (IntKind.wrap .i64 (x35 + 1))), x34, (IntKind.wrap .i64 (x35 + 1)), (IntKind.wrap .i64 (x34 + 1))) () hm ?_
       exact ls
      ·rw [if_neg h8] at hm
       refine W_condf rfl (decide_eq_false h8) ?_
       refine W_skip ?_
       refine KBlock_n ?_
       refine KBlock_n ?_
       refine KThen_n (hk2 _ _ ?_)
       refine W_rn ?_
       refine KLoopM_n ((IntKind.wrap .i64 (x31 + 1)), l32, l33, x34, (IntKind.wrap .i64 (x35 + 1)), (IntKind.wrap .i64 (x36 + 1))) () hm ?_
       exact ls
     ·rw [if_neg h6] at hm
      refine W_condf rfl (beq_eq_false_iff_ne.2 h6) ?_
      refine W_regF [6, 44, 45, 46, 59] fun k kp hk hp => ?_
      refine go ?_
      obtain ⟨y37, hc10, hm⟩ := bd hm
      refine RA (vm_VM_one_ok (p7.getD x36.toNat default) p1 p2 p3 p4 p5 p6 p7 (IntKind.wrap .i64 (x31 + 1)) l32 l33 v1_ 0 _ hc10) [0, 1, 2] ?_
      rintro p σ' hq11 _
      obtain ⟨rfl, rfl⟩ := hq11
      refine RunRest_ops ?_
      refine go ?_
      refine hk _ _ ?_
      clear hk hp k kp
      by_cases h12 : y37.1 = true
      ·rw [if_pos h12] at hm
       refine W_condf rfl (by rw [show y37.1 = true from (h12)]; rfl) ?_
       refine W_skip ?_
       refine KBlock_n ?_
       refine KBlock_n ?_
       refine KThen_n (hk2 _ _ ?_)
       refine W_rn ?_
       refine KLoopM_n ((IntKind.wrap .i64 (x31 + 1)), y37.2.1, y37.2.2, x34, x35, (IntKind.wrap .i64 (x36 + 1))) () hm ?_
       exact ls
      ·rw [if_neg h12] at hm
       refine W_condt rfl (by rw [show y37.1 = false from (Bool.eq_false_iff.2 h12)]; rfl) ?_
       refine W_rg [0, 3, 4, 5, 47, 48] ?_
       refine W_gh (Ghost_fr 2 rfl) ?_
       have ho13 := out_eq hm hr1
       subst ho13
       replace hm : some (x36, y37.2.2, (IntKind.wrap .i64 (x31 + 1)), y37.2.1) = some r := hm1
       refine W_ret ?_
       refine KBlock_r ?_
       refine KBlock_r ?_
       refine KThen_r ?_
       refine KLoopM_r ?_
       refine KBlock_r ?_
       refine KJoinM_r ?_
       refine KBody_ret [.box [.int .i64 p1, .int .i64 p2, .int .i64 p3, .tree 1 (p4.map (eK .i64)), .tree 1 (p5.map (eK .i64)), .tree 1 (p6.map (eK .i64)), .tree 6 (p7.map TIns.enc), .osl 1 v1_ 0 y37.2.1.length, .tree 1 (y37.2.2.map (eK .i64)), .int .i64 (IntKind.wrap .i64 (x31 + 1))], .arr 1 v1_ 2 (y37.2.1.map (eK .i64))] ?_
       obtain rfl := Option.some.inj hm
       exact en
   ·rw [if_neg h2] at hm
    refine W_condf rfl (decide_eq_false h2) ?_
    refine W_exit ?_
    have ho14 := out_eq hm hr1
    subst ho14
    replace hm : vm_VM_run_j1 x31 l32 l33 = some r := hm1
    refine KThen_x ?_
    refine KLoopM_x ?_
    refine KBlock_hit ?_
    refine KJoinM_n (x31, l32, l33) () hm ?_
    exact ls
 ·rintro ⟨x3, l4, l5⟩ _ hm
  replace hm : vm_VM_run_j1 x3 l4 l5 = some r := hm
  refine W_eqm ?_
  unfold vm_VM_run_j1 at hm
  refine W_rg [] ?_
  refine W_gh (Ghost_fr 2 rfl) ?_
  refine W_ret ?_
  refine KBody_ret [.box [.int .i64 p1, .int .i64 p2, .int .i64 p3, .tree 1 (p4.map (eK .i64)), .tree 1 (p5.map (eK .i64)), .tree 1 (p6.map (eK .i64)), .tree 6 (p7.map TIns.enc), .osl 1 v1_ 0 l4.length, .tree 1 (l5.map (eK .i64)), .int .i64 x3], .arr 1 v1_ 2 (l4.map (eK .i64))] ?_
  obtain rfl := Option.some.inj hm
  exact en
end Pam

/- the walk of vm_VM_Row_2, printed by a program of ours -/
namespace Pam
open Go Go.Proofs
set_option maxRecDepth 100000 in
set_option maxHeartbeats 1000000 in
theorem vm_VM_Row_2_ok (p1 : List Int) (p2 : Int) (p3 : Int) (p4 : Int) (p5 : List Int) (p6 : List Int) (p7 : List Int) (p8 : List TIns) (p9 : List Int) (p10 : Int) (p11 : List Int) (v1_ : Nat) (r : ((List Int) × TFault × (List Int) × Int × (List Int))) (hm : vm_VM_Row_2 p1 p2 p3 p4 p5 p6 p7 p8 p9 p10 p11 = some r) : Spec Try.prog 48 [.c (.optr 0 0), .c (.tree 1 (p1.map (eK .i64)))] [.box [.int .i64 p2, .int .i64 p3, .int .i64 p4, .tree 1 (p5.map (eK .i64)), .tree 1 (p6.map (eK .i64)), .tree 1 (p7.map (eK .i64)), .tree 6 (p8.map TIns.enc), .osl 1 v1_ 0 p11.length, .tree 1 (p9.map (eK .i64)), .int .i64 p10], .arr 1 v1_ 2 (p11.map (eK .i64))] (fun p σ => ∃ w1_, (p = .t [.c (.tree 1 (r.1.map (eK .i64))), .a [.int .i64 ((r.2.1).code), .int .i64 ((r.2.1).at_)]] ∧ σ = [.box [.int .i64 p2, .int .i64 p3, .int .i64 p4, .tree 1 (p5.map (eK .i64)), .tree 1 (p6.map (eK .i64)), .tree 1 (p7.map (eK .i64)), .tree 6 (p8.map TIns.enc), .osl 1 w1_ 0 r.2.2.2.2.length, .tree 1 (r.2.2.1.map (eK .i64)), .int .i64 r.2.2.2.1], .arr 1 w1_ 2 (r.2.2.2.2.map (eK .i64))])) (fun _ _ => False) := by
 refine Spec_ofD 129 [.tmp 4, .cell 5 30] Try.func48 rfl rfl rfl (by kernel_rfl) (by simp) ?_
 refine W_eqf ?_
 unfold vm_VM_Row_2 at hm
 refine W_rg [4] ?_
 refine W_seq_k fun k1 hk1 => ?_
 refine W_rg [16, 17, 18, 19, 20, 21, 22, 23] ?_
 by_cases h1 : ¬ (p1.length : Int) = (p5.length : Int)
 ·rw [if_pos h1] at hm
  refine W_condt rfl (bne_iff_ne.2 h1) ?_
  refine W_rg [0, 1, 24, 25] ?_
  refine W_ghost (Ghost_ntS 4 (.c (.tree 1 (([] : List _).map (eK .i64)))) rfl (by and_intros <;> trivial)) ?_
  refine W_eqn ?_
  refine W_ret ?_
  refine KThen_r ?_
  refine KBody_ret [.box [.int .i64 p2, .int .i64 p3, .int .i64 p4, .tree 1 (p5.map (eK .i64)), .tree 1 (p6.map (eK .i64)), .tree 1 (p7.map (eK .i64)), .tree 6 (p8.map TIns.enc), .osl 1 v1_ 0 p11.length, .tree 1 (p9.map (eK .i64)), .int .i64 p10], .arr 1 v1_ 2 (p11.map (eK .i64))] ?_
  obtain rfl := Option.some.inj hm
  exact en
 ·rw [if_neg h1] at hm
  refine W_condf rfl (bne_eq_false_iff_eq.2 (Decidable.not_not.1 h1)) ?_
  refine W_skip ?_
  refine KThen_n (hk1 _ _ ?_)
  refine W_joinM (S := Unit) (V := Unit) [4, 6, 7, 24, 26, 27, 28, 29, 30, 31, 32, 33, 34, 35, 36, 37, 38, 39, 40, 41, 42, 43, 44, 45, 46, 47, 48, 49, 50, 51, 52, 53, 54, 55, 56, 57, 58, 59, 60] (fun _ _ => []) (fun _ _ => [.box [.int .i64 p2, .int .i64 p3, .int .i64 p4, .tree 1 (p5.map (eK .i64)), .tree 1 (p6.map (eK .i64)), .tree 1 (p7.map (eK .i64)), .tree 6 (p8.map TIns.enc), .osl 1 v1_ 0 p11.length, .tree 1 (p9.map (eK .i64)), .int .i64 p10], .arr 1 v1_ 2 (p11.map (eK .i64)), .box [.int .i64 0, .int .i64 0]]) (fun _ => vm_VM_Row_2_j1 p1 p2 p3 p4 p5 p6 p7 p8 p9 p10 p11 = some r) ?_ ?_
  ·skip
   refine W_rg [24, 26, 27, 28, 29] ?_
   refine W_block ?_
   obtain ⟨o3, hl3, hm3⟩ := bd hm
   refine W_loopM (S := Int) (V := Unit) (O := Unit ⊕ ((List Int) × TFault × (List Int) × Int × (List Int))) [4, 6, 7, 32, 33, 34, 35, 36, 37, 38, 39, 40, 41, 42, 43, 44, 45, 46, 47, 48, 49, 50, 51, 52, 53, 54, 55, 56, 57, 58, 59, 60] (fun x37 _ => [(32, .c (.int .i64 x37))]) (fun x37 _ => [.box [.int .i64 p2, .int .i64 p3, .int .i64 p4, .tree 1 (p5.map (eK .i64)), .tree 1 (p6.map (eK .i64)), .tree 1 (p7.map (eK .i64)), .tree 6 (p8.map TIns.enc), .osl 1 v1_ 0 p11.length, .tree 1 (p9.map (eK .i64)), .int .i64 p10], .arr 1 v1_ 2 (p11.map (eK .i64)), .box [.int .i64 0, .int .i64 0]]) _ _ () hl3 ?_ ?_
   ·exact ls
   ·rintro x37 _ r3 hm hr3
    replace hm : vm_VM_Row_2_l3 p1 p5 p6 p9 p10 p11 x37 = some r3 := hm
    refine W_eqm ?_
    unfold vm_VM_Row_2_l3 at hm
    refine W_rg [] ?_
    refine W_seq_k fun k7 hk7 => ?_
    by_cases h14 : x37 < (p5.length : Int)
    ·rw [if_pos h14] at hm
     refine W_condt rfl (decide_eq_true h14) ?_
     refine W_skip ?_
     refine KThen_n (hk7 _ _ ?_)
     refine W_seq_k fun k8 hk8 => ?_
     refine W_block ?_
     obtain ⟨hg15a, hm⟩ := gd hm
     refine W_rgx (em (eK .i64) p5 x37.toNat) [33, 34, 35, 36] ?_
     refine W_regF [7, 37, 38, 39, 40, 41, 42, 43, 44, 45, 46, 47, 48, 49, 50, 51, 52, 53, 54, 55, 56] fun k kp hk hp => ?_
     refine go ?_
     obtain ⟨y38, hc16, hm⟩ := bd hm
     refine RP (fun _ => slices_Contains_int_int_ok p6 (p5.getD x37.toNat default) _ hc16) ?_
     by_cases h17 : y38 = true
     ·rw [if_pos h17] at hm
      have h17b : y38 = true := h17
      by_cases h18 : ¬ (p1.getD x37.toNat default) = 0
      ·rw [if_pos h18] at hm
       have h18b : ((p1.getD x37.toNat default) != 0) = true := bne_iff_ne.2 h18
       obtain ⟨hg19a, hm⟩ := gd hm
       refine RunRest_ops ?_
       refine gox (a2 (em (eK .i64) p1 x37.toNat) (a2 h17b h18b)) ?_
       refine hk _ _ ?_
       clear hk hp k kp
       by_cases h20 : ¬ (p1.getD x37.toNat default) = 1
       ·rw [if_pos h20] at hm
        refine W_condt rfl (bne_iff_ne.2 h20) ?_
        refine W_rg [0, 1, 6, 30, 31, 32, 57, 58, 59] ?_
        refine W_ghost (Ghost_ntS 4 (.c (.tree 1 (([] : List _).map (eK .i64)))) rfl (by and_intros <;> trivial)) ?_
        refine W_eqn ?_
        have ho21 := out_eq hm hr3
        subst ho21
        replace hm : some ([], (TFault.mk 17 x37), p9, p10, p11) = some r := hm3
        refine W_ret ?_
        refine KBlock_r ?_
        refine KThen_r ?_
        refine KLoopM_r ?_
        refine KBlock_r ?_
        refine KJoinM_r ?_
        refine KBody_ret [.box [.int .i64 p2, .int .i64 p3, .int .i64 p4, .tree 1 (p5.map (eK .i64)), .tree 1 (p6.map (eK .i64)), .tree 1 (p7.map (eK .i64)), .tree 6 (p8.map TIns.enc), .osl 1 v1_ 0 p11.length, .tree 1 (p9.map (eK .i64)), .int .i64 p10], .arr 1 v1_ 2 (p11.map (eK .i64))] ?_
        obtain rfl := Option.some.inj hm
        exact en
       ·rw [if_neg h20] at hm
        refine W_condf rfl (bne_eq_false_iff_eq.2 (Decidable.not_not.1 h20)) ?_
        refine W_skip ?_
        refine KBlock_n ?_
        refine KThen_n (hk8 _ _ ?_)
        refine W_rn ?_
        refine KLoopM_n (IntKind.wrap .i64 (x37 + 1)) () hm ?_
        exact ls
      ·rw [if_neg h18] at hm
       have h18b : ((p1.getD x37.toNat default) != 0) = false := bne_eq_false_iff_eq.2 (Decidable.not_not.1 h18)
       obtain ⟨hg22a, hm⟩ := gd hm
       refine RunRest_ops ?_
       refine gox (a2 (em (eK .i64) p1 x37.toNat) (a2 h17b h18b)) ?_
       refine hk _ _ ?_
       clear hk hp k kp
       refine W_condf rfl rfl ?_
       refine W_skip ?_
       refine KBlock_n ?_
       refine KThen_n (hk8 _ _ ?_)
       refine W_rn ?_
       refine KLoopM_n (IntKind.wrap .i64 (x37 + 1)) () hm ?_
       exact ls
     ·rw [if_neg h17] at hm
      have h17b : y38 = false := Bool.eq_false_iff.2 h17
      refine RunRest_ops ?_
      refine gox h17b ?_
      refine hk _ _ ?_
      clear hk hp k kp
      refine W_condf rfl rfl ?_
      refine W_skip ?_
      refine KBlock_n ?_
      refine KThen_n (hk8 _ _ ?_)
      refine W_rn ?_
      refine KLoopM_n (IntKind.wrap .i64 (x37 + 1)) () hm ?_
      exact ls
    ·rw [if_neg h14] at hm
     refine W_condf rfl (decide_eq_false h14) ?_
     refine W_exit ?_
     have ho23 := out_eq hm hr3
     subst ho23
     replace hm : vm_VM_Row_2_j1 p1 p2 p3 p4 p5 p6 p7 p8 p9 p10 p11 = some r := hm3
     refine KThen_x ?_
     refine KLoopM_x ?_
     refine KBlock_hit ?_
     refine KJoinM_n () () hm ?_
     exact ls
  ·rintro _ _ hm
   replace hm : vm_VM_Row_2_j1 p1 p2 p3 p4 p5 p6 p7 p8 p9 p10 p11 = some r := hm
   refine W_eqm ?_
   unfold vm_VM_Row_2_j1 at hm
   refine W_anyF [61, 62, 63, 64, 65, 66, 67, 68, 69] (by kernel_rfl) [0, 1, 3, 7, 15, 0, 32, 96, 224, 31, 1023] [false, false, false, false, false, false, false, false, false, false, true] (by kernel_rfl) fun k hk => ?_
   refine ga ?_
   obtain ⟨y1, hc2, hm⟩ := bd hm
   refine AnyCall_at (σ2 := [.box [.int .i64 p2, .int .i64 p3, .int .i64 p4, .tree 1 (p5.map (eK .i64)), .tree 1 (p6.map (eK .i64)), .tree 1 (p7.map (eK .i64)), .tree 6 (p8.map TIns.enc), .osl 1 v1_ 0 p11.length, .tree 1 (p9.map (eK .i64)), .int .i64 p10], .arr 1 v1_ 2 (p11.map (eK .i64)), .box [.int .i64 0, .int .i64 0], .arr 1 1 2 (y1.map (eK .i64))]) (res := .c (.osl 3 1 0 y1.length)) ⟨_, _, _, _, [1], slices_Clone_int64_int64_ok p11 v1_ _ hc2, by simp, by simp, rfl, rfl, by first | trivial | (simp [bX, eK, eB, eS, eL, s_cap, psUnder, PV.under, CV.under, obsBelow, OB.under, cvsBelow]; done), by first | trivial | (simp [bX, eK, eB, eS, eL, s_cap, psUnder, PV.under, CV.under, obsBelow, OB.under, cvsBelow]; done), fun q τ hq _ => by obtain ⟨rfl, rfl⟩ := hq; exact ⟨rfl, rfl⟩, fun _ _ h => h.elim⟩ (by first | trivial | exact dst_ok rfl) (by first | trivial | (intro _; first | trivial | simp [need]) | simp [need]) (by first | exact .inl rfl | exact .inr (by simp only [extB]; and_intros <;> first | rfl | trivial)) ?_
   refine ga ?_
   refine hk _ _ ?_
   clear hk k
   refine W_joinM (S := (List Int)) (V := Unit) [1, 8, 10, 11, 70, 71, 72, 73, 74, 75, 76, 77, 78, 79, 80, 81, 82, 83, 84, 85, 86, 87, 88, 89, 90, 91] (fun l3 _ => [(8, .c (.osl 3 1 0 y1.length))]) (fun l3 _ => [.box [.int .i64 p2, .int .i64 p3, .int .i64 p4, .tree 1 (p5.map (eK .i64)), .tree 1 (p6.map (eK .i64)), .tree 1 (p7.map (eK .i64)), .tree 6 (p8.map TIns.enc), .osl 1 v1_ 0 l3.length, .tree 1 (p9.map (eK .i64)), .int .i64 p10], .arr 1 v1_ 2 (l3.map (eK .i64)), .box [.int .i64 0, .int .i64 0], .arr 1 1 2 (y1.map (eK .i64))]) (fun l3 => vm_VM_Row_2_j2 p2 p3 p4 p5 p6 p7 p8 p9 p10 y1 l3 = some r) ?_ ?_
   ·skip
    refine W_rg [70, 71, 72, 73] ?_
    refine W_block ?_
    obtain ⟨o2, hl2, hm2⟩ := bd hm
    refine W_loopM (S := ((List Int) × Int)) (V := Unit) (O := (List Int)) [8, 10, 11, 76, 77, 78, 79, 80, 81, 82, 83, 84, 85, 86, 87, 88, 89, 90, 91] (fun (l32, x33) _ => [(8, .c (.osl 3 1 0 y1.length)), (76, .c (.int .i64 x33))]) (fun (l32, x33) _ => [.box [.int .i64 p2, .int .i64 p3, .int .i64 p4, .tree 1 (p5.map (eK .i64)), .tree 1 (p6.map (eK .i64)), .tree 1 (p7.map (eK .i64)), .tree 6 (p8.map TIns.enc), .osl 1 v1_ 0 l32.length, .tree 1 (p9.map (eK .i64)), .int .i64 p10], .arr 1 v1_ 2 (l32.map (eK .i64)), .box [.int .i64 0, .int .i64 0], .arr 1 1 2 (y1.map (eK .i64))]) _ _ () hl2 ?_ ?_
    ·exact ls
    ·rintro ⟨l32, x33⟩ _ r2 hm hr2
     replace hm : vm_VM_Row_2_l2 p1 p5 l32 x33 = some r2 := hm
     refine W_eqm ?_
     unfold vm_VM_Row_2_l2 at hm
     refine W_rg [] ?_
     refine W_seq_k fun k5 hk5 => ?_
     by_cases h10 : x33 < (p5.length : Int)
     ·rw [if_pos h10] at hm
      refine W_condt rfl (decide_eq_true h10) ?_
      refine W_skip ?_
      refine KThen_n (hk5 _ _ ?_)
      refine W_seq_k fun k6 hk6 => ?_
      refine W_block ?_
      obtain ⟨hg11a, hm⟩ := gd hm
      refine W_rgx (em (eK .i64) p5 x33.toNat) [77, 78, 79, 80] ?_
      obtain ⟨⟨hg12a, hg12b⟩, hm⟩ := gd hm
      refine W_anx (a2 (em (eK .i64) p1 x33.toNat) (em (eK .i64) l32 ((p5.getD x33.toNat default).toNat))) [0, 1, 3, 7, 0, 0, 0, 96, 224, 511, 1023] [false, false, false, false, false, false, false, false, false, true, true] ?_
      refine KBlock_n ?_
      refine KThen_n (hk6 _ _ ?_)
      refine W_rn ?_
      refine KLoopM_n ((l32.set ((p5.getD x33.toNat default).toNat) (p1.getD x33.toNat default)), (IntKind.wrap .i64 (x33 + 1))) () hm ?_
      exact ls
     ·rw [if_neg h10] at hm
      refine W_condf rfl (decide_eq_false h10) ?_
      refine W_exit ?_
      have ho13 := out_eq hm hr2
      subst ho13
      replace hm : vm_VM_Row_2_j2 p2 p3 p4 p5 p6 p7 p8 p9 p10 y1 l32 = some r := hm2
      refine KThen_x ?_
      refine KLoopM_x ?_
      refine KBlock_hit ?_
      refine KJoinM_n l32 () hm ?_
      exact ls
   ·rintro l3 _ hm
    replace hm : vm_VM_Row_2_j2 p2 p3 p4 p5 p6 p7 p8 p9 p10 y1 l3 = some r := hm
    refine W_eqm ?_
    unfold vm_VM_Row_2_j2 at hm
    refine W_seq_k fun k2 hk2 => ?_
    refine W_regF [92, 93] fun k kp hk hp => ?_
    refine go ?_
    obtain ⟨y4, hc3, hm⟩ := bd hm
    refine RA (vm_VM_run_ok p2 p3 p4 p5 p6 p7 p8 p9 p10 l3 v1_ _ hc3) [0, 1] ?_
    rintro p σ' hq4 _
    obtain ⟨rfl, rfl⟩ := hq4
    refine RunRest_ops ?_
    refine go ?_
    refine hk _ _ ?_
    clear hk hp k kp
    refine W_rg [94] ?_
    by_cases h5 : y4.1 ≥ 0
    ·rw [if_pos h5] at hm
     refine W_condt rfl (decide_eq_true h5) ?_
     refine W_rg [0, 8, 9, 95, 96, 97, 98, 99, 100, 101, 102, 103] ?_
     refine W_rg [12, 104, 105] ?_
     refine W_ghost (Ghost_ntS 4 (.c (.tree 1 (([] : List _).map (eK .i64)))) rfl (by and_intros <;> trivial)) ?_
     refine W_eqn ?_
     refine W_gh (Ghost_mv 1 3 (by decide) rfl rfl) ?_
     refine W_ret ?_
     refine KThen_r ?_
     refine KBody_ret [.box [.int .i64 p2, .int .i64 p3, .int .i64 p4, .tree 1 (p5.map (eK .i64)), .tree 1 (p6.map (eK .i64)), .tree 1 (p7.map (eK .i64)), .tree 6 (p8.map TIns.enc), .osl 1 (v1_ + 1) 0 y1.length, .tree 1 (y4.2.1.map (eK .i64)), .int .i64 p10], .arr 1 (v1_ + 1) 2 (y1.map (eK .i64))] ?_
     obtain rfl := Option.some.inj hm
     exact en
    ·rw [if_neg h5] at hm
     refine W_condf rfl (decide_eq_false h5) ?_
     refine W_skip ?_
     refine KThen_n (hk2 _ _ ?_)
     refine W_rg [8, 9, 12, 95] ?_
     refine W_ghost (Ghost_nil 13 1 2 (by decide) rfl (Nat.le_of_ble_eq_true rfl)) ?_
     refine W_eql ?_
     refine W_joinM (S := (List Int)) (V := Nat) [0, 13, 15, 106, 107, 108, 109, 110, 111, 112, 113, 114, 115, 116, 117, 118, 119, 120, 121, 122, 123, 124, 125, 126] (fun l7 v8 => [(13, .c (.osl 4 v8 0 l7.length))]) (fun l7 v8 => [.box [.int .i64 p2, .int .i64 p3, .int .i64 p4, .tree 1 (p5.map (eK .i64)), .tree 1 (p6.map (eK .i64)), .tree 1 (p7.map (eK .i64)), .tree 6 (p8.map TIns.enc), .osl 1 v1_ 0 y4.2.2.2.length, .tree 1 (y4.2.1.map (eK .i64)), .int .i64 y4.2.2.1], .arr 1 v1_ 2 (y4.2.2.2.map (eK .i64)), .box [.int .i64 0, .int .i64 0], .arr 1 1 2 (y1.map (eK .i64)), .arr 1 v8 2 (l7.map (eK .i64))]) (fun l7 => vm_VM_Row_2_j3 y4 l7 = some r) ?_ ?_
     ·skip
      refine W_rg [106, 107, 108, 109] ?_
      refine W_block ?_
      obtain ⟨o1, hl1, hm1⟩ := bd hm
      refine W_loopM (S := ((List Int) × Int)) (V := Nat) (O := (List Int)) [13, 15, 112, 113, 114, 115, 116, 117, 118, 119, 120, 121, 122, 123, 124, 125, 126] (fun (l21, x23) v22 => [(13, .c (.osl 4 v22 0 l21.length)), (112, .c (.int .i64 x23))]) (fun (l21, x23) v22 => [.box [.int .i64 p2, .int .i64 p3, .int .i64 p4, .tree 1 (p5.map (eK .i64)), .tree 1 (p6.map (eK .i64)), .tree 1 (p7.map (eK .i64)), .tree 6 (p8.map TIns.enc), .osl 1 v1_ 0 y4.2.2.2.length, .tree 1 (y4.2.1.map (eK .i64)), .int .i64 y4.2.2.1], .arr 1 v1_ 2 (y4.2.2.2.map (eK .i64)), .box [.int .i64 0, .int .i64 0], .arr 1 1 2 (y1.map (eK .i64)), .arr 1 v22 2 (l21.map (eK .i64))]) _ _ 0 hl1 ?_ ?_
      ·exact ls
      ·rintro ⟨l21, x23⟩ v22 r1 hm hr1
       replace hm : vm_VM_Row_2_l1 p7 y4 l21 x23 = some r1 := hm
       refine W_eqm ?_
       unfold vm_VM_Row_2_l1 at hm
       refine W_rg [] ?_
       refine W_seq_k fun k3 hk3 => ?_
       by_cases h6 : x23 < (p7.length : Int)
       ·rw [if_pos h6] at hm
        refine W_condt rfl (decide_eq_true h6) ?_
        refine W_skip ?_
        refine KThen_n (hk3 _ _ ?_)
        refine W_seq_k fun k4 hk4 => ?_
        refine W_block ?_
        obtain ⟨hg7a, hm⟩ := gd hm
        refine W_rgx (em (eK .i64) p7 x23.toNat) [113, 114, 115] ?_
        obtain ⟨⟨hg8a, ⟨hg8bx, hg8by⟩⟩, hm⟩ := gd hm
        refine W_rnx (em (eK .i64) y4.2.2.2 ((p7.getD x23.toNat default).toNat)) ?_
        refine KBlock_n ?_
        refine KThen_n (hk4 _ _ ?_)
        refine W_rn ?_
        refine KLoopM_n ((l21 ++ (lit ([(y4.2.2.2.getD ((p7.getD x23.toNat default).toNat) default)] : List Int))), (IntKind.wrap .i64 (x23 + 1))) (v22 + 1) hm ?_
        exact ls
       ·rw [if_neg h6] at hm
        refine W_condf rfl (decide_eq_false h6) ?_
        refine W_exit ?_
        have ho9 := out_eq hm hr1
        subst ho9
        replace hm : vm_VM_Row_2_j3 y4 l21 = some r := hm1
        refine KThen_x ?_
        refine KLoopM_x ?_
        refine KBlock_hit ?_
        refine KJoinM_n l21 v22 hm ?_
        exact ls
     ·rintro l7 v8 hm
      replace hm : vm_VM_Row_2_j3 y4 l7 = some r := hm
      refine W_eqm ?_
      unfold vm_VM_Row_2_j3 at hm
      refine W_rg [13, 127, 128] ?_
      refine W_gh (Ghost_fr 4 rfl) ?_
      refine W_ret ?_
      refine KBody_ret [.box [.int .i64 p2, .int .i64 p3, .int .i64 p4, .tree 1 (p5.map (eK .i64)), .tree 1 (p6.map (eK .i64)), .tree 1 (p7.map (eK .i64)), .tree 6 (p8.map TIns.enc), .osl 1 v1_ 0 y4.2.2.2.length, .tree 1 (y4.2.1.map (eK .i64)), .int .i64 y4.2.2.1], .arr 1 v1_ 2 (y4.2.2.2.map (eK .i64))] ?_
      obtain rfl := Option.some.inj hm
      exact en
end Pam

/- the walk of ref_SameLongs, printed by a program of ours -/
namespace Pam
open Go Go.Proofs
set_option maxRecDepth 100000 in
set_option maxHeartbeats 1000000 in
theorem ref_SameLongs_ok (p1 : List Int) (p2 : List Int) (r : Bool) (hm : ref_SameLongs p1 p2 = some r) : SpecF Try.prog 41 [.c (.tree 1 (p1.map (eK .i64))), .c (.tree 1 (p2.map (eK .i64)))] (.c (.bool r)) := by
 refine Spec_ofD 26 [.tmp 4] Try.func41 rfl rfl rfl (by kernel_rfl) (by simp) ?_
 refine W_eqf ?_
 unfold ref_SameLongs at hm
 refine W_rg [4] ?_
 refine W_seq_k fun k1 hk1 => ?_
 refine W_rg [6, 7, 8, 9] ?_
 by_cases h1 : ¬ (p1.length : Int) = (p2.length : Int)
 ·rw [if_pos h1] at hm
  refine W_condt rfl (bne_iff_ne.2 h1) ?_
  refine W_rg [0, 1, 10] ?_
  refine W_ret ?_
  refine KThen_r ?_
  refine KBody_ret [] ?_
  obtain rfl := Option.some.inj hm
  exact en
 ·rw [if_neg h1] at hm
  refine W_condf rfl (bne_eq_false_iff_eq.2 (Decidable.not_not.1 h1)) ?_
  refine W_skip ?_
  refine KThen_n (hk1 _ _ ?_)
  refine W_joinM (S := Unit) (V := Unit) [0, 1, 4, 5, 10, 11, 12, 13, 14, 15, 16, 17, 18, 19, 20, 21, 22, 23, 24, 25] (fun _ _ => []) (fun _ _ => []) (fun _ => ref_SameLongs_j1 = some r) ?_ ?_
  ·skip
   refine W_rg [10] ?_
   refine W_block ?_
   obtain ⟨o1, hl1, hm1⟩ := bd hm
   refine W_loopM (S := Int) (V := Unit) (O := Unit ⊕ Bool) [4, 5, 11, 12, 13, 14, 15, 16, 17, 18, 19, 20, 21, 22, 23, 24, 25] (fun x3 _ => [(5, .c (.int .i64 x3))]) (fun x3 _ => []) _ _ () hl1 ?_ ?_
   ·exact ls
   ·rintro x3 _ r1 hm hr1
    replace hm : ref_SameLongs_l1 p1 p2 x3 = some r1 := hm
    refine W_eqm ?_
    unfold ref_SameLongs_l1 at hm
    refine W_seq_k fun k2 hk2 => ?_
    refine W_rg [11, 12, 13] ?_
    by_cases h2 : x3 < (p1.length : Int)
    ·rw [if_pos h2] at hm
     refine W_condt rfl (decide_eq_true h2) ?_
     refine W_skip ?_
     refine KThen_n (hk2 _ _ ?_)
     refine W_seq_k fun k3 hk3 => ?_
     refine W_block ?_
     obtain ⟨⟨hg3a, hg3b⟩, hm⟩ := gd hm
     refine W_agx (a2 (em (eK .i64) p1 x3.toNat) (em (eK .i64) p2 x3.toNat)) [14, 17, 18, 19, 20, 21, 22, 23, 24] [0, 0, 3, 7, 0, 0, 48, 112, 255] [false, false, false, false, false, false, false, false, true] ?_
     by_cases h4 : ¬ (p1.getD x3.toNat default) = (p2.getD x3.toNat default)
     ·rw [if_pos h4] at hm
      refine W_condt rfl (bne_iff_ne.2 h4) ?_
      refine W_rg [0, 1, 5, 25] ?_
      have ho5 := out_eq hm hr1
      subst ho5
      replace hm : some false = some r := hm1
      refine W_ret ?_
      refine KBlock_r ?_
      refine KThen_r ?_
      refine KLoopM_r ?_
      refine KBlock_r ?_
      refine KJoinM_r ?_
      refine KBody_ret [] ?_
      obtain rfl := Option.some.inj hm
      exact en
     ·rw [if_neg h4] at hm
      refine W_condf rfl (bne_eq_false_iff_eq.2 (Decidable.not_not.1 h4)) ?_
      refine W_skip ?_
      refine KBlock_n ?_
      refine KThen_n (hk3 _ _ ?_)
      refine W_rn ?_
      refine KLoopM_n (IntKind.wrap .i64 (x3 + 1)) () hm ?_
      exact ls
    ·rw [if_neg h2] at hm
     refine W_condf rfl (decide_eq_false h2) ?_
     refine W_exit ?_
     have ho6 := out_eq hm hr1
     subst ho6
     replace hm : ref_SameLongs_j1 = some r := hm1
     refine KThen_x ?_
     refine KLoopM_x ?_
     refine KBlock_hit ?_
     refine KJoinM_n () () hm ?_
     exact ls
  ·rintro _ _ hm
   replace hm : ref_SameLongs_j1 = some r := hm
   refine W_eqm ?_
   unfold ref_SameLongs_j1 at hm
   refine W_rg [] ?_
   refine W_ret ?_
   refine KBody_ret [] ?_
   obtain rfl := Option.some.inj hm
   exact en
end Pam

/- the walk of vm_VM_Steps, printed by a program of ours -/
namespace Pam
open Go Go.Proofs
set_option maxRecDepth 100000 in
set_option maxHeartbeats 1000000 in
theorem vm_VM_Steps_ok (p1 : Int) (p2 : Int) (p3 : Int) (p4 : List Int) (p5 : List Int) (p6 : List Int) (p7 : List TIns) (p8 : List Int) (p9 : Int) (p10 : List Int) (v1_ : Nat) (r : Int) (hm : vm_VM_Steps p1 p2 p3 p4 p5 p6 p7 p8 p9 p10 = some r) : Spec Try.prog 50 [.c (.optr 0 0)] [.box [.int .i64 p1, .int .i64 p2, .int .i64 p3, .tree 1 (p4.map (eK .i64)), .tree 1 (p5.map (eK .i64)), .tree 1 (p6.map (eK .i64)), .tree 6 (p7.map TIns.enc), .osl 1 v1_ 0 p10.length, .tree 1 (p8.map (eK .i64)), .int .i64 p9], .arr 1 v1_ 2 (p10.map (eK .i64))] (fun p σ => (p = .c (.int .i64 r) ∧ σ = [.box [.int .i64 p1, .int .i64 p2, .int .i64 p3, .tree 1 (p4.map (eK .i64)), .tree 1 (p5.map (eK .i64)), .tree 1 (p6.map (eK .i64)), .tree 6 (p7.map TIns.enc), .osl 1 v1_ 0 p10.length, .tree 1 (p8.map (eK .i64)), .int .i64 p9], .arr 1 v1_ 2 (p10.map (eK .i64))])) (fun _ _ => False) := by
 refine Spec_ofD 7 [.tmp 2] Try.func50 rfl rfl rfl (by kernel_rfl) (by simp) ?_
 refine W_eqf ?_
 unfold vm_VM_Steps at hm
 refine W_rg [2] ?_
 refine W_rg [0, 3, 4, 5, 6] ?_
 refine W_ret ?_
 refine KBody_ret [.box [.int .i64 p1, .int .i64 p2, .int .i64 p3, .tree 1 (p4.map (eK .i64)), .tree 1 (p5.map (eK .i64)), .tree 1 (p6.map (eK .i64)), .tree 6 (p7.map TIns.enc), .osl 1 v1_ 0 p10.length, .tree 1 (p8.map (eK .i64)), .int .i64 p9], .arr 1 v1_ 2 (p10.map (eK .i64))] ?_
 obtain rfl := Option.some.inj hm
 exact en
end Pam

/- the walk of law_vmBegun, printed by a program of ours -/
namespace Pam
open Go Go.Proofs
set_option maxRecDepth 100000 in
set_option maxHeartbeats 1000000 in
theorem law_vmBegun_ok (r : Bool) (hm : law_vmBegun  = some r) : SpecF Try.prog 45 [] (.c (.bool r)) := by
 refine Spec_ofD 41 [.tmp 0] Try.func45 rfl rfl rfl (by kernel_rfl) (by simp) ?_
 refine W_eqf ?_
 unfold law_vmBegun at hm
 refine W_rg [0] ?_
 refine W_rg [6, 7, 8, 9, 10] ?_
 refine W_eqa [.arr 6 0 35 ((lit ([(TIns.mk 2 0 0 0 0 1), (TIns.mk 1 0 1 0 0 2), (TIns.mk 7 1 0 0 1 0), (TIns.mk 4 0 0 0 0 5)] : List TIns)).map TIns.enc)] ?_
 refine W_regF [1, 11, 12, 13, 14, 15, 16, 17, 18] fun k kp hk hp => ?_
 refine go ?_
 refine RunCall_turn (Ghost_ntS 15 (.a [.int .i64 6, .int .i64 2, .int .i64 4, .osl 1 0 0 1, .tree 1 ([].map (eK .i64)), .osl 2 0 0 1, .osl 0 0 0 4]) rfl (by and_intros <;> trivial)) ?_
 refine go ?_
 refine RunCall_turn (Ghost_fr 0 rfl) ?_
 simp only [bR, bT, tab, bX, reduceIte, ↓reduceIte, reduceCtorEq, Int.reduceToNat, Nat.reduceDiv, Nat.reduceMod, Nat.reduceLT, Nat.reduceLeDiff, Nat.reduceAdd, Nat.reduceSub, Nat.reduceMul, Nat.reduceEqDiff, Nat.reduceBEq, Nat.reduceBNe, Nat.reduceGT, bZ, List.replicate, List.foldr]
 repeat refine ⟨by first | omega | assumption | decide | exact all_len fun _ => rfl | (intro _; omega) | rfl | exact fun e => absurd (List.map_eq_nil_iff.1 e) (by assumption) | (and_intros <;> first | omega | assumption | decide | exact all_len fun _ => rfl), ?_⟩
 refine RunCall_turn (Ghost_fr 1 rfl) ?_
 simp only [bR, bT, tab, bX, reduceIte, ↓reduceIte, reduceCtorEq, Int.reduceToNat, Nat.reduceDiv, Nat.reduceMod, Nat.reduceLT, Nat.reduceLeDiff, Nat.reduceAdd, Nat.reduceSub, Nat.reduceMul, Nat.reduceEqDiff, Nat.reduceBEq, Nat.reduceBNe, Nat.reduceGT, bZ, List.replicate, List.foldr]
 repeat refine ⟨by first | omega | assumption | decide | exact all_len fun _ => rfl | (intro _; omega) | rfl | exact fun e => absurd (List.map_eq_nil_iff.1 e) (by assumption) | (and_intros <;> first | omega | assumption | decide | exact all_len fun _ => rfl), ?_⟩
 refine RunCall_turn (Ghost_fr 2 rfl) ?_
 simp only [bR, bT, tab, bX, reduceIte, ↓reduceIte, reduceCtorEq, Int.reduceToNat, Nat.reduceDiv, Nat.reduceMod, Nat.reduceLT, Nat.reduceLeDiff, Nat.reduceAdd, Nat.reduceSub, Nat.reduceMul, Nat.reduceEqDiff, Nat.reduceBEq, Nat.reduceBNe, Nat.reduceGT, bZ, List.replicate, List.foldr]
 repeat refine ⟨by first | omega | assumption | decide | exact all_len fun _ => rfl | (intro _; omega) | rfl | exact fun e => absurd (List.map_eq_nil_iff.1 e) (by assumption) | (and_intros <;> first | omega | assumption | decide | exact all_len fun _ => rfl), ?_⟩
 obtain ⟨y1, hc1, hm⟩ := bd hm
 refine RA (vm_New_ok (TImage.mk 6 2 4 (lit ([1] : List Int)) [] (lit ([5] : List Int)) (lit ([(TIns.mk 2 0 0 0 0 1), (TIns.mk 1 0 1 0 0 2), (TIns.mk 7 1 0 0 1 0), (TIns.mk 4 0 0 0 0 5)] : List TIns)))  _ hc1) [] ?_
 rintro p σ' hq2 _
 rcases y1 with y2 | y3
 ·skip
  simp only [Sum.elim_inl, Sum.elim_inr] at hm hq2
  obtain ⟨rfl, rfl⟩ := hq2
  refine RunRest_ops ?_
  refine go ?_
  refine hk _ _ ?_
  clear hk hp k kp
  refine W_seq_k fun k1 hk1 => ?_
  refine W_rg [3, 19, 20] ?_
  by_cases h3 : ¬ ((y2).code) = 0
  ·rw [if_pos h3] at hm
   refine W_condt rfl (bne_iff_ne.2 h3) ?_
   refine W_rg [2, 21] ?_
   refine W_ret ?_
   refine KThen_r ?_
   refine KBody_ret [] ?_
   obtain rfl := Option.some.inj hm
   exact en
  ·rw [if_neg h3] at hm
   refine W_condf rfl (bne_eq_false_iff_eq.2 (Decidable.not_not.1 h3)) ?_
   refine W_skip ?_
   refine KThen_n (hk1 _ _ ?_)
   refine W_regF [21, 22, 23, 24, 25, 26, 27] fun k kp hk hp => ?_
   refine go ?_
   refine RunCall_turn (Ghost_fr 4 rfl) ?_
   simp only [bR, bT, tab, bX, reduceIte, ↓reduceIte, reduceCtorEq, Int.reduceToNat, Nat.reduceDiv, Nat.reduceMod, Nat.reduceLT, Nat.reduceLeDiff, Nat.reduceAdd, Nat.reduceSub, Nat.reduceMul, Nat.reduceEqDiff, Nat.reduceBEq, Nat.reduceBNe, Nat.reduceGT, bZ, List.replicate, List.foldr]
   repeat refine ⟨by first | omega | assumption | decide | exact all_len fun _ => rfl | (intro _; omega) | rfl | exact fun e => absurd (List.map_eq_nil_iff.1 e) (by assumption) | (and_intros <;> first | omega | assumption | decide | exact all_len fun _ => rfl), ?_⟩
   obtain ⟨y4, hc4, hm⟩ := bd hm
   refine RP (fun _ => vm_VM_Row_ok (lit ([7] : List Int)) _ hc4) ?_
   cases hm
 ·skip
  simp only [Sum.elim_inl, Sum.elim_inr] at hm hq2
  obtain ⟨rfl, rfl⟩ := hq2
  refine RunRest_ops ?_
  refine go ?_
  refine hk _ _ ?_
  clear hk hp k kp
  refine W_seq_k fun k2 hk2 => ?_
  refine W_rg [3, 19, 20] ?_
  by_cases h5 : ¬ ((y3.1).code) = 0
  ·rw [if_pos h5] at hm
   refine W_condt rfl (bne_iff_ne.2 h5) ?_
   refine W_rg [2, 21] ?_
   refine W_ret ?_
   refine KThen_r ?_
   refine KBody_ret [] ?_
   obtain rfl := Option.some.inj hm
   exact en
  ·rw [if_neg h5] at hm
   refine W_condf rfl (bne_eq_false_iff_eq.2 (Decidable.not_not.1 h5)) ?_
   refine W_skip ?_
   refine KThen_n (hk2 _ _ ?_)
   refine W_regF [21, 22, 23, 24, 25, 26, 27] fun k kp hk hp => ?_
   refine go ?_
   refine RunCall_turn (Ghost_fr 7 rfl) ?_
   simp only [bR, bT, tab, bX, reduceIte, ↓reduceIte, reduceCtorEq, Int.reduceToNat, Nat.reduceDiv, Nat.reduceMod, Nat.reduceLT, Nat.reduceLeDiff, Nat.reduceAdd, Nat.reduceSub, Nat.reduceMul, Nat.reduceEqDiff, Nat.reduceBEq, Nat.reduceBNe, Nat.reduceGT, bZ, List.replicate, List.foldr]
   repeat refine ⟨by first | omega | assumption | decide | exact all_len fun _ => rfl | (intro _; omega) | rfl | exact fun e => absurd (List.map_eq_nil_iff.1 e) (by assumption) | (and_intros <;> first | omega | assumption | decide | exact all_len fun _ => rfl), ?_⟩
   obtain ⟨y5, hc6, hm⟩ := bd hm
   refine RA (vm_VM_Row_2_ok (lit ([7] : List Int)) y3.2.1 y3.2.2.1 y3.2.2.2.1 y3.2.2.2.2.1 y3.2.2.2.2.2.1 y3.2.2.2.2.2.2.1 y3.2.2.2.2.2.2.2.1 y3.2.2.2.2.2.2.2.2.1 y3.2.2.2.2.2.2.2.2.2.1 y3.2.2.2.2.2.2.2.2.2.2.2.2 1 _ hc6) [3, 5] ?_
   rintro p σ' hq7 _
   obtain ⟨v6, rfl, rfl⟩ := hq7
   refine RunRest_ops ?_
   refine go ?_
   refine hk _ _ ?_
   clear hk hp k kp
   by_cases h8 : ((y5.2.1).code) = 0
   ·rw [if_pos h8] at hm
    have h8b : (((y5.2.1).code) == 0) = true := beq_iff_eq.2 h8
    refine W_regF [2, 4, 5, 28, 29, 30, 31, 32, 33, 34, 35, 36, 37, 38, 39, 40] fun k kp hk hp => ?_
    refine gox h8b ?_
    refine RunCall_turn (Ghost_fr 9 rfl) ?_
    simp only [bR, bT, tab, bX, reduceIte, ↓reduceIte, reduceCtorEq, Int.reduceToNat, Nat.reduceDiv, Nat.reduceMod, Nat.reduceLT, Nat.reduceLeDiff, Nat.reduceAdd, Nat.reduceSub, Nat.reduceMul, Nat.reduceEqDiff, Nat.reduceBEq, Nat.reduceBNe, Nat.reduceGT, bZ, List.replicate, List.foldr, h8b]
    repeat refine ⟨by first | omega | assumption | decide | exact all_len fun _ => rfl | (intro _; omega) | rfl | exact fun e => absurd (List.map_eq_nil_iff.1 e) (by assumption) | (and_intros <;> first | omega | assumption | decide | exact all_len fun _ => rfl), ?_⟩
    obtain ⟨y7, hc9, hm⟩ := bd hm
    refine RP (fun _ => ref_SameLongs_ok y5.1 (lit ([9] : List Int)) _ hc9) ?_
    by_cases h10 : y7 = true
    ·rw [if_pos h10] at hm
     have h10b : y7 = true := h10
     refine RunRest_ops ?_
     refine gox (a2 h8b h10b) ?_
     obtain ⟨y8, hc11, hm⟩ := bd hm
     refine RA (vm_VM_Steps_ok y3.2.1 y3.2.2.1 y3.2.2.2.1 y3.2.2.2.2.1 y3.2.2.2.2.2.1 y3.2.2.2.2.2.2.1 y3.2.2.2.2.2.2.2.1 y5.2.2.1 y5.2.2.2.1 y5.2.2.2.2 v6 _ hc11) [3, 5] ?_
     rintro p σ' hq12 _
     obtain ⟨rfl, rfl⟩ := hq12
     refine RunRest_ops ?_
     refine gox (a2 h8b h10b) ?_
     refine hk _ _ ?_
     clear hk hp k kp
     refine W_ret ?_
     refine KBody_ret [] ?_
     obtain rfl := Option.some.inj hm
     exact en
    ·rw [if_neg h10] at hm
     have h10b : y7 = false := Bool.eq_false_iff.2 h10
     refine RunRest_ops ?_
     refine gox (a2 h8b h10b) ?_
     refine hk _ _ ?_
     clear hk hp k kp
     refine W_ret ?_
     refine KBody_ret [] ?_
     obtain rfl := Option.some.inj hm
     exact en
   ·rw [if_neg h8] at hm
    have h8b : (((y5.2.1).code) == 0) = false := beq_eq_false_iff_ne.2 h8
    refine W_rgx h8b [2, 4, 5, 28, 29, 30, 31, 32, 33, 34, 35, 36, 37, 38, 39, 40] ?_
    refine W_ret ?_
    refine KBody_ret [] ?_
    obtain rfl := Option.some.inj hm
    exact en
end Pam

/- the walk of ref_GreatImage, printed by a program of ours -/
namespace Pam
open Go Go.Proofs
set_option maxRecDepth 100000 in
set_option maxHeartbeats 1000000 in
theorem ref_GreatImage_ok (p1 : TImage) (r : Bool) (hm : ref_GreatImage p1 = some r) : SpecF Try.prog 16 [.a [.int .i64 p1.cells, .int .i64 p1.regs, .int .i64 p1.cost, .tree 1 (p1.put.map (eK .i64)), .tree 1 (p1.bools.map (eK .i64)), .tree 1 (p1.get.map (eK .i64)), .tree 6 (p1.code.map TIns.enc)]] (.c (.bool r)) := by
 refine Spec_ofD 25 [.tmp 2] Try.func16 rfl rfl rfl (by kernel_rfl) (by simp) ?_
 refine W_eqf ?_
 unfold ref_GreatImage at hm
 refine W_rg [0, 2] ?_
 by_cases h1 : (p1.put.length : Int) > 7000
 ·rw [if_pos h1] at hm
  have h1b : decide ((p1.put.length : Int) > 7000) = true := decide_eq_true h1
  refine W_rgx h1b [1, 3, 4, 5, 6, 7, 8, 9, 10, 11, 12, 13, 14, 15, 16, 17, 18, 19, 20, 21, 22, 23, 24] ?_
  refine W_ret ?_
  refine KBody_ret [] ?_
  obtain rfl := Option.some.inj hm
  exact en
 ·rw [if_neg h1] at hm
  have h1b : decide ((p1.put.length : Int) > 7000) = false := decide_eq_false h1
  by_cases h2 : (p1.bools.length : Int) > 7000
  ·rw [if_pos h2] at hm
   have h2b : decide ((p1.bools.length : Int) > 7000) = true := decide_eq_true h2
   refine W_rgx (a2 h1b h2b) [1, 3, 4, 5, 6, 7, 8, 9, 10, 11, 12, 13, 14, 15, 16, 17, 18, 19, 20, 21, 22, 23, 24] ?_
   refine W_ret ?_
   refine KBody_ret [] ?_
   obtain rfl := Option.some.inj hm
   exact en
  ·rw [if_neg h2] at hm
   have h2b : decide ((p1.bools.length : Int) > 7000) = false := decide_eq_false h2
   by_cases h3 : (p1.get.length : Int) > 20000
   ·rw [if_pos h3] at hm
    have h3b : decide ((p1.get.length : Int) > 20000) = true := decide_eq_true h3
    refine W_rgx (a2 h1b (a2 h2b h3b)) [1, 3, 4, 5, 6, 7, 8, 9, 10, 11, 12, 13, 14, 15, 16, 17, 18, 19, 20, 21, 22, 23, 24] ?_
    refine W_ret ?_
    refine KBody_ret [] ?_
    obtain rfl := Option.some.inj hm
    exact en
   ·rw [if_neg h3] at hm
    have h3b : decide ((p1.get.length : Int) > 20000) = false := decide_eq_false h3
    refine W_rgx (a2 h1b (a2 h2b h3b)) [1, 3, 4, 5, 6, 7, 8, 9, 10, 11, 12, 13, 14, 15, 16, 17, 18, 19, 20, 21, 22, 23, 24] ?_
    refine W_ret ?_
    refine KBody_ret [] ?_
    obtain rfl := Option.some.inj hm
    exact en
end Pam

/- the walk of law_rowsGreat, printed by a program of ours -/
namespace Pam
open Go Go.Proofs
set_option maxRecDepth 100000 in
set_option maxHeartbeats 1000000 in
theorem law_rowsGreat_ok (p1 : List (List Int)) (r : Bool) (hm : law_rowsGreat p1 = some r) : SpecF Try.prog 35 [.c (.tree 1 (p1.map (eL 1 (eK .i64))))] (.c (.bool r)) := by
 refine Spec_ofD 19 [.tmp 2] Try.func35 rfl rfl rfl (by kernel_rfl) (by simp) ?_
 refine W_eqf ?_
 unfold law_rowsGreat at hm
 refine W_rg [2] ?_
 refine W_seq_k fun k1 hk1 => ?_
 refine W_rg [4, 5] ?_
 by_cases h1 : (p1.length : Int) > 60
 ·rw [if_pos h1] at hm
  refine W_condt rfl (decide_eq_true h1) ?_
  refine W_rg [0, 6] ?_
  refine W_ret ?_
  refine KThen_r ?_
  refine KBody_ret [] ?_
  obtain rfl := Option.some.inj hm
  exact en
 ·rw [if_neg h1] at hm
  refine W_condf rfl (decide_eq_false h1) ?_
  refine W_skip ?_
  refine KThen_n (hk1 _ _ ?_)
  refine W_joinM (S := Unit) (V := Unit) [0, 2, 3, 6, 7, 8, 9, 10, 11, 12, 13, 14, 15, 16, 17, 18] (fun _ _ => []) (fun _ _ => []) (fun _ => law_rowsGreat_j1 = some r) ?_ ?_
  ·skip
   refine W_rg [6] ?_
   refine W_block ?_
   obtain ⟨o1, hl1, hm1⟩ := bd hm
   refine W_loopM (S := Int) (V := Unit) (O := Unit ⊕ Bool) [2, 3, 7, 8, 9, 10, 11, 12, 13, 14, 15, 16, 17, 18] (fun x3 _ => [(3, .c (.int .i64 x3))]) (fun x3 _ => []) _ _ () hl1 ?_ ?_
   ·exact ls
   ·rintro x3 _ r1 hm hr1
    replace hm : law_rowsGreat_l1 p1 x3 = some r1 := hm
    refine W_eqm ?_
    unfold law_rowsGreat_l1 at hm
    refine W_seq_k fun k2 hk2 => ?_
    refine W_rg [7, 8, 9] ?_
    by_cases h2 : x3 < (p1.length : Int)
    ·rw [if_pos h2] at hm
     refine W_condt rfl (decide_eq_true h2) ?_
     refine W_skip ?_
     refine KThen_n (hk2 _ _ ?_)
     refine W_seq_k fun k3 hk3 => ?_
     refine W_block ?_
     obtain ⟨hg3a, hm⟩ := gd hm
     refine W_rgx (em (eL 1 (eK .i64)) p1 x3.toNat) [10, 13, 14, 15, 16, 17] ?_
     by_cases h4 : ((p1.getD x3.toNat default).length : Int) > 10000
     ·rw [if_pos h4] at hm
      refine W_condt rfl (decide_eq_true h4) ?_
      refine W_rg [0, 3, 18] ?_
      have ho5 := out_eq hm hr1
      subst ho5
      replace hm : some true = some r := hm1
      refine W_ret ?_
      refine KBlock_r ?_
      refine KThen_r ?_
      refine KLoopM_r ?_
      refine KBlock_r ?_
      refine KJoinM_r ?_
      refine KBody_ret [] ?_
      obtain rfl := Option.some.inj hm
      exact en
     ·rw [if_neg h4] at hm
      refine W_condf rfl (decide_eq_false h4) ?_
      refine W_skip ?_
      refine KBlock_n ?_
      refine KThen_n (hk3 _ _ ?_)
      refine W_rn ?_
      refine KLoopM_n (IntKind.wrap .i64 (x3 + 1)) () hm ?_
      exact ls
    ·rw [if_neg h2] at hm
     refine W_condf rfl (decide_eq_false h2) ?_
     refine W_exit ?_
     have ho6 := out_eq hm hr1
     subst ho6
     replace hm : law_rowsGreat_j1 = some r := hm1
     refine KThen_x ?_
     refine KLoopM_x ?_
     refine KBlock_hit ?_
     refine KJoinM_n () () hm ?_
     exact ls
  ·rintro _ _ hm
   replace hm : law_rowsGreat_j1 = some r := hm
   refine W_eqm ?_
   unfold law_rowsGreat_j1 at hm
   refine W_rg [] ?_
   refine W_ret ?_
   refine KBody_ret [] ?_
   obtain rfl := Option.some.inj hm
   exact en
end Pam

/- the walk of vm_VM_Cells, printed by a program of ours -/
namespace Pam
open Go Go.Proofs
set_option maxRecDepth 100000 in
set_option maxHeartbeats 1000000 in
theorem vm_VM_Cells_ok (p1 : Int) (p2 : Int) (p3 : Int) (p4 : List Int) (p5 : List Int) (p6 : List Int) (p7 : List TIns) (p8 : List Int) (p9 : Int) (p10 : List Int) (v1_ : Nat) (r : (List Int)) (hm : vm_VM_Cells p1 p2 p3 p4 p5 p6 p7 p8 p9 p10 = some r) : Spec Try.prog 51 [.c (.optr 0 0)] [.box [.int .i64 p1, .int .i64 p2, .int .i64 p3, .tree 1 (p4.map (eK .i64)), .tree 1 (p5.map (eK .i64)), .tree 1 (p6.map (eK .i64)), .tree 6 (p7.map TIns.enc), .osl 1 v1_ 0 p10.length, .tree 1 (p8.map (eK .i64)), .int .i64 p9], .arr 1 v1_ 2 (p10.map (eK .i64))] (fun p σ => (p = .c (.tree 1 (r.map (eK .i64))) ∧ σ = [.box [.int .i64 p1, .int .i64 p2, .int .i64 p3, .tree 1 (p4.map (eK .i64)), .tree 1 (p5.map (eK .i64)), .tree 1 (p6.map (eK .i64)), .tree 6 (p7.map TIns.enc), .osl 1 v1_ 0 p10.length, .tree 1 (p8.map (eK .i64)), .int .i64 p9], .arr 1 v1_ 2 (p10.map (eK .i64))])) (fun _ _ => False) := by
 refine Spec_ofD 8 [.tmp 2] Try.func51 rfl rfl rfl (by kernel_rfl) (by simp) ?_
 refine W_eqf ?_
 unfold vm_VM_Cells at hm
 refine W_rg [2] ?_
 refine W_regF [0, 3, 4, 5, 6, 7] fun k kp hk hp => ?_
 refine go ?_
 obtain ⟨y1, hc1, hm⟩ := bd hm
 refine RA (slices_Clone_int64_int64_ok p10 v1_ _ hc1) [1] ?_
 rintro p σ' hq2 _
 obtain ⟨rfl, rfl⟩ := hq2
 refine RunRest_ops ?_
 refine go ?_
 refine hk _ _ ?_
 clear hk hp k kp
 refine W_gh (Ghost_fr 2 rfl) ?_
 refine W_ret ?_
 refine KBody_ret [.box [.int .i64 p1, .int .i64 p2, .int .i64 p3, .tree 1 (p4.map (eK .i64)), .tree 1 (p5.map (eK .i64)), .tree 1 (p6.map (eK .i64)), .tree 6 (p7.map TIns.enc), .osl 1 v1_ 0 p10.length, .tree 1 (p8.map (eK .i64)), .int .i64 p9], .arr 1 v1_ 2 (p10.map (eK .i64))] ?_
 obtain rfl := Option.some.inj hm
 exact en
end Pam

/- the walk of vm_VM_Cells_2, printed by a program of ours -/
namespace Pam
open Go Go.Proofs
set_option maxRecDepth 100000 in
set_option maxHeartbeats 1000000 in
theorem vm_VM_Cells_2_ok (r : Unit) (hm : vm_VM_Cells_2  = some r) : SpecF Try.prog 51 [.c (.nilp)] (.t []) := by
 refine Spec_ofD 8 [.tmp 2] Try.func51 rfl rfl rfl (by kernel_rfl) (by simp) ?_
 refine W_eqf ?_
 unfold vm_VM_Cells_2 at hm
 refine W_rg [2] ?_
 cases hm
end Pam

/- the walk of law_VmCosts, printed by a program of ours -/
namespace Pam
open Go Go.Proofs
set_option maxRecDepth 100000 in
set_option maxHeartbeats 1000000 in
theorem law_VmCosts_ok (p1 : TImage) (p2 : List (List Int)) (r : Bool) (hm : law_VmCosts p1 p2 = some r) : SpecF Try.prog 11 [.a [.int .i64 p1.cells, .int .i64 p1.regs, .int .i64 p1.cost, .tree 1 (p1.put.map (eK .i64)), .tree 1 (p1.bools.map (eK .i64)), .tree 1 (p1.get.map (eK .i64)), .tree 6 (p1.code.map TIns.enc)], .c (.tree 1 (p2.map (eL 1 (eK .i64))))] (.c (.bool r)) := by
 refine Spec_ofD 123 [.tmp 4] Try.func11 rfl rfl rfl (by kernel_rfl) (by simp) ?_
 refine W_eqf ?_
 unfold law_VmCosts at hm
 refine W_rg [0, 4] ?_
 refine W_seq_k fun k1 hk1 => ?_
 refine W_regF [16] fun k kp hk hp => ?_
 refine go ?_
 obtain ⟨y1, hc1, hm⟩ := bd hm
 refine RP (fun _ => law_vmBegun_ok  _ hc1) ?_
 refine RunRest_ops ?_
 refine go ?_
 refine hk _ _ ?_
 clear hk hp k kp
 by_cases h2 : y1 = true
 ·rw [if_pos h2] at hm
  refine W_condf rfl (by rw [show y1 = true from (h2)]; rfl) ?_
  refine W_skip ?_
  refine KThen_n (hk1 _ _ ?_)
  refine W_seq_k fun k2 hk2 => ?_
  refine W_regF [17, 18, 19, 20, 21, 22, 23, 24, 25, 26, 27] fun k kp hk hp => ?_
  refine go ?_
  obtain ⟨y2, hc3, hm⟩ := bd hm
  refine RP (fun _ => ref_GreatImage_ok p1 _ hc3) ?_
  by_cases h4 : y2 = true
  ·rw [if_pos h4] at hm
   have h4b : y2 = true := h4
   refine RunRest_ops ?_
   refine gox h4b ?_
   refine hk _ _ ?_
   clear hk hp k kp
   refine W_condt rfl rfl ?_
   refine W_rg [1, 2, 28] ?_
   refine W_ret ?_
   refine KThen_r ?_
   refine KBody_ret [] ?_
   obtain rfl := Option.some.inj hm
   exact en
  ·rw [if_neg h4] at hm
   have h4b : y2 = false := Bool.eq_false_iff.2 h4
   refine RunRest_ops ?_
   refine gox h4b ?_
   obtain ⟨y3, hc5, hm⟩ := bd hm
   refine RP (fun _ => law_rowsGreat_ok p2 _ hc5) ?_
   by_cases h6 : y3 = true
   ·rw [if_pos h6] at hm
    have h6b : y3 = true := h6
    refine RunRest_ops ?_
    refine gox (a2 h4b h6b) ?_
    refine hk _ _ ?_
    clear hk hp k kp
    refine W_condt rfl rfl ?_
    refine W_rg [1, 2, 28] ?_
    refine W_ret ?_
    refine KThen_r ?_
    refine KBody_ret [] ?_
    obtain rfl := Option.some.inj hm
    exact en
   ·rw [if_neg h6] at hm
    have h6b : y3 = false := Bool.eq_false_iff.2 h6
    refine RunRest_ops ?_
    refine gox (a2 h4b h6b) ?_
    refine hk _ _ ?_
    clear hk hp k kp
    by_cases h7 : p1.cost > 20000
    ·rw [if_pos h7] at hm
     refine W_condt rfl (decide_eq_true h7) ?_
     refine W_rg [1, 2, 28] ?_
     refine W_ret ?_
     refine KThen_r ?_
     refine KBody_ret [] ?_
     obtain rfl := Option.some.inj hm
     exact en
    ·rw [if_neg h7] at hm
     refine W_condf rfl (decide_eq_false h7) ?_
     refine W_skip ?_
     refine KThen_n (hk2 _ _ ?_)
     refine W_regF [28, 29, 30, 31, 32, 33] fun k kp hk hp => ?_
     refine go ?_
     obtain ⟨y4, hc8, hm⟩ := bd hm
     refine RA (vm_New_ok p1  _ hc8) [] ?_
     rintro p σ' hq9 _
     rcases y4 with y5 | y6
     ·skip
      simp only [Sum.elim_inl, Sum.elim_inr] at hm hq9
      obtain ⟨rfl, rfl⟩ := hq9
      refine RunRest_ops ?_
      refine go ?_
      refine hk _ _ ?_
      clear hk hp k kp
      refine W_regF [34, 35, 36, 37, 38] fun k kp hk hp => ?_
      refine go ?_
      obtain ⟨y7, hc10, hm⟩ := bd hm
      refine RA (vm_New_ok p1  _ hc10) [] ?_
      rintro p σ' hq11 _
      rcases y7 with y8 | y9
      ·skip
       simp only [Sum.elim_inl, Sum.elim_inr] at hm hq11
       obtain ⟨rfl, rfl⟩ := hq11
       refine RunRest_ops ?_
       refine go ?_
       refine hk _ _ ?_
       clear hk hp k kp
       refine W_seq_k fun k3 hk3 => ?_
       by_cases h12 : ¬ ((y5).code) = 0
       ·rw [if_pos h12] at hm
        have h12b : (((y5).code) != 0) = true := bne_iff_ne.2 h12
        refine W_rgx h12b [39, 40, 41, 42, 43, 44, 45] ?_
        refine W_condt rfl rfl ?_
        refine W_rg [1, 2, 5, 6, 7, 8, 46, 47, 48, 49] ?_
        refine W_ret ?_
        refine KThen_r ?_
        refine KBody_ret [] ?_
        obtain rfl := Option.some.inj hm
        exact en
       ·rw [if_neg h12] at hm
        have h12b : (((y5).code) != 0) = false := bne_eq_false_iff_eq.2 (Decidable.not_not.1 h12)
        refine W_rgx h12b [39, 40, 41, 42, 43, 44, 45] ?_
        by_cases h13 : ¬ ((y8).code) = 0
        ·rw [if_pos h13] at hm
         refine W_condt rfl (bne_iff_ne.2 h13) ?_
         refine W_rg [1, 2, 5, 6, 7, 8, 46, 47, 48, 49] ?_
         refine W_ret ?_
         refine KThen_r ?_
         refine KBody_ret [] ?_
         obtain rfl := Option.some.inj hm
         exact en
        ·rw [if_neg h13] at hm
         refine W_condf rfl (bne_eq_false_iff_eq.2 (Decidable.not_not.1 h13)) ?_
         refine W_skip ?_
         refine KThen_n (hk3 _ _ ?_)
         refine W_joinM (S := Unit) (V := Unit) [1, 2, 4, 5, 6, 7, 8, 9, 10, 11, 12, 13, 14, 15, 46, 50, 51, 52, 53, 54, 55, 56, 57, 58, 59, 60, 61, 62, 63, 64, 65, 66, 67, 68, 69, 70, 71, 72, 73, 74, 75, 76, 77, 78, 79, 80, 81, 82, 83, 84, 85, 86, 87, 88, 89, 90, 91, 92, 93, 94, 95, 96, 97, 98, 99, 100, 101, 102, 103, 104, 105, 106, 107, 108, 109, 110, 111, 112, 113, 114, 115, 116, 117, 118, 119, 120, 121, 122] (fun _ _ => []) (fun _ _ => [.box [.int .i64 p1.cells, .int .i64 p1.regs, .int .i64 p1.cost, .tree 1 (p1.put.map (eK .i64)), .tree 1 (p1.bools.map (eK .i64)), .tree 1 (p1.get.map (eK .i64)), .tree 6 (p1.code.map TIns.enc)], .box [.int .i64 ((y5).code), .int .i64 ((y5).at_)], .box [.int .i64 ((y8).code), .int .i64 ((y8).at_)]]) (fun _ => law_VmCosts_j1 = some r) ?_ ?_
         ·skip
          refine W_rg [6, 8, 46] ?_
          refine W_block ?_
          obtain ⟨o1, hl1, hm1⟩ := bd hm
          refine W_loopM (S := Unit) (V := Unit) (O := Unit) [4, 9, 10, 11, 12, 13, 14, 15, 50, 51, 52, 53, 54, 55, 56, 57, 58, 59, 60, 61, 62, 63, 64, 65, 66, 67, 68, 69, 70, 71, 72, 73, 74, 75, 76, 77, 78, 79, 80, 81, 82, 83, 84, 85, 86, 87, 88, 89, 90, 91, 92, 93, 94, 95, 96, 97, 98, 99, 100, 101, 102, 103, 104, 105, 106, 107, 108, 109, 110, 111, 112, 113, 114, 115, 116, 117, 118, 119, 120, 121, 122] (fun _ _ => [(9, .c (.int .i64 0))]) (fun _ _ => [.box [.int .i64 p1.cells, .int .i64 p1.regs, .int .i64 p1.cost, .tree 1 (p1.put.map (eK .i64)), .tree 1 (p1.bools.map (eK .i64)), .tree 1 (p1.get.map (eK .i64)), .tree 6 (p1.code.map TIns.enc)], .box [.int .i64 ((y5).code), .int .i64 ((y5).at_)], .box [.int .i64 ((y8).code), .int .i64 ((y8).at_)]]) _ _ () hl1 ?_ ?_
          ·exact ls
          ·rintro _ _ r1 hm hr1
           replace hm : law_VmCosts_l1 p2 = some r1 := hm
           refine W_eqm ?_
           unfold law_VmCosts_l1 at hm
           refine W_seq_k fun k4 hk4 => ?_
           refine W_rg [50, 51, 52] ?_
           by_cases h14 : 0 < (p2.length : Int)
           ·rw [if_pos h14] at hm
            refine W_condt rfl (decide_eq_true h14) ?_
            refine W_skip ?_
            refine KThen_n (hk4 _ _ ?_)
            refine W_seq_k fun k5 hk5 => ?_
            refine W_block ?_
            refine W_regF [53, 56, 57, 58, 59] fun k kp hk hp => ?_
            refine go ?_
            obtain ⟨y10, hc15, hm⟩ := bd hm
            refine RP (fun _ => vm_VM_Cells_2_ok  _ hc15) ?_
            cases hm
           ·rw [if_neg h14] at hm
            refine W_condf rfl (decide_eq_false h14) ?_
            refine W_exit ?_
            have ho16 := out_eq hm hr1
            subst ho16
            replace hm : law_VmCosts_j1 = some r := hm1
            refine KThen_x ?_
            refine KLoopM_x ?_
            refine KBlock_hit ?_
            refine KJoinM_n () () hm ?_
            exact ls
         ·rintro _ _ hm
          replace hm : law_VmCosts_j1 = some r := hm
          refine W_eqm ?_
          unfold law_VmCosts_j1 at hm
          refine W_rg [] ?_
          refine W_ret ?_
          refine KBody_ret [] ?_
          obtain rfl := Option.some.inj hm
          exact en
      ·skip
       simp only [Sum.elim_inl, Sum.elim_inr] at hm hq11
       obtain ⟨rfl, rfl⟩ := hq11
       refine RunRest_ops ?_
       refine go ?_
       refine hk _ _ ?_
       clear hk hp k kp
       refine W_seq_k fun k6 hk6 => ?_
       by_cases h17 : ¬ ((y5).code) = 0
       ·rw [if_pos h17] at hm
        have h17b : (((y5).code) != 0) = true := bne_iff_ne.2 h17
        refine W_rgx h17b [39, 40, 41, 42, 43, 44, 45] ?_
        refine W_condt rfl rfl ?_
        refine W_rg [1, 2, 5, 6, 7, 8, 46, 47, 48, 49] ?_
        refine W_ret ?_
        refine KThen_r ?_
        refine KBody_ret [] ?_
        obtain rfl := Option.some.inj hm
        exact en
       ·rw [if_neg h17] at hm
        have h17b : (((y5).code) != 0) = false := bne_eq_false_iff_eq.2 (Decidable.not_not.1 h17)
        refine W_rgx h17b [39, 40, 41, 42, 43, 44, 45] ?_
        by_cases h18 : ¬ ((y9.1).code) = 0
        ·rw [if_pos h18] at hm
         refine W_condt rfl (bne_iff_ne.2 h18) ?_
         refine W_rg [1, 2, 5, 6, 7, 8, 46, 47, 48, 49] ?_
         refine W_ret ?_
         refine KThen_r ?_
         refine KBody_ret [] ?_
         obtain rfl := Option.some.inj hm
         exact en
        ·rw [if_neg h18] at hm
         refine W_condf rfl (bne_eq_false_iff_eq.2 (Decidable.not_not.1 h18)) ?_
         refine W_skip ?_
         refine KThen_n (hk6 _ _ ?_)
         refine W_joinM (S := Unit) (V := Unit) [1, 2, 4, 5, 6, 7, 8, 9, 10, 11, 12, 13, 14, 15, 46, 50, 51, 52, 53, 54, 55, 56, 57, 58, 59, 60, 61, 62, 63, 64, 65, 66, 67, 68, 69, 70, 71, 72, 73, 74, 75, 76, 77, 78, 79, 80, 81, 82, 83, 84, 85, 86, 87, 88, 89, 90, 91, 92, 93, 94, 95, 96, 97, 98, 99, 100, 101, 102, 103, 104, 105, 106, 107, 108, 109, 110, 111, 112, 113, 114, 115, 116, 117, 118, 119, 120, 121, 122] (fun _ _ => []) (fun _ _ => [.box [.int .i64 p1.cells, .int .i64 p1.regs, .int .i64 p1.cost, .tree 1 (p1.put.map (eK .i64)), .tree 1 (p1.bools.map (eK .i64)), .tree 1 (p1.get.map (eK .i64)), .tree 6 (p1.code.map TIns.enc)], .box [.int .i64 ((y5).code), .int .i64 ((y5).at_)], .box [.int .i64 y9.2.1, .int .i64 y9.2.2.1, .int .i64 y9.2.2.2.1, .tree 1 (y9.2.2.2.2.1.map (eK .i64)), .tree 1 (y9.2.2.2.2.2.1.map (eK .i64)), .tree 1 (y9.2.2.2.2.2.2.1.map (eK .i64)), .tree 6 (y9.2.2.2.2.2.2.2.1.map TIns.enc), .osl 4 1 0 y9.2.2.2.2.2.2.2.2.2.2.2.2.length, .tree 1 (y9.2.2.2.2.2.2.2.2.1.map (eK .i64)), .int .i64 y9.2.2.2.2.2.2.2.2.2.1], .box [.int .i64 y9.2.2.2.2.2.2.2.2.2.2.1, .int .i64 y9.2.2.2.2.2.2.2.2.2.2.2.1], .arr 1 1 2 (y9.2.2.2.2.2.2.2.2.2.2.2.2.map (eK .i64)), .box [.int .i64 ((y9.1).code), .int .i64 ((y9.1).at_)]]) (fun _ => law_VmCosts_j2 = some r) ?_ ?_
         ·skip
          refine W_rg [6, 8, 46] ?_
          refine W_block ?_
          obtain ⟨o2, hl2, hm2⟩ := bd hm
          refine W_loopM (S := Unit) (V := Unit) (O := Unit) [4, 9, 10, 11, 12, 13, 14, 15, 50, 51, 52, 53, 54, 55, 56, 57, 58, 59, 60, 61, 62, 63, 64, 65, 66, 67, 68, 69, 70, 71, 72, 73, 74, 75, 76, 77, 78, 79, 80, 81, 82, 83, 84, 85, 86, 87, 88, 89, 90, 91, 92, 93, 94, 95, 96, 97, 98, 99, 100, 101, 102, 103, 104, 105, 106, 107, 108, 109, 110, 111, 112, 113, 114, 115, 116, 117, 118, 119, 120, 121, 122] (fun _ _ => [(9, .c (.int .i64 0))]) (fun _ _ => [.box [.int .i64 p1.cells, .int .i64 p1.regs, .int .i64 p1.cost, .tree 1 (p1.put.map (eK .i64)), .tree 1 (p1.bools.map (eK .i64)), .tree 1 (p1.get.map (eK .i64)), .tree 6 (p1.code.map TIns.enc)], .box [.int .i64 ((y5).code), .int .i64 ((y5).at_)], .box [.int .i64 y9.2.1, .int .i64 y9.2.2.1, .int .i64 y9.2.2.2.1, .tree 1 (y9.2.2.2.2.1.map (eK .i64)), .tree 1 (y9.2.2.2.2.2.1.map (eK .i64)), .tree 1 (y9.2.2.2.2.2.2.1.map (eK .i64)), .tree 6 (y9.2.2.2.2.2.2.2.1.map TIns.enc), .osl 4 1 0 y9.2.2.2.2.2.2.2.2.2.2.2.2.length, .tree 1 (y9.2.2.2.2.2.2.2.2.1.map (eK .i64)), .int .i64 y9.2.2.2.2.2.2.2.2.2.1], .box [.int .i64 y9.2.2.2.2.2.2.2.2.2.2.1, .int .i64 y9.2.2.2.2.2.2.2.2.2.2.2.1], .arr 1 1 2 (y9.2.2.2.2.2.2.2.2.2.2.2.2.map (eK .i64)), .box [.int .i64 ((y9.1).code), .int .i64 ((y9.1).at_)]]) _ _ () hl2 ?_ ?_
          ·exact ls
          ·rintro _ _ r2 hm hr2
           replace hm : law_VmCosts_l2 p2 = some r2 := hm
           refine W_eqm ?_
           unfold law_VmCosts_l2 at hm
           refine W_seq_k fun k7 hk7 => ?_
           refine W_rg [50, 51, 52] ?_
           by_cases h19 : 0 < (p2.length : Int)
           ·rw [if_pos h19] at hm
            refine W_condt rfl (decide_eq_true h19) ?_
            refine W_skip ?_
            refine KThen_n (hk7 _ _ ?_)
            refine W_seq_k fun k8 hk8 => ?_
            refine W_block ?_
            refine W_regF [53, 56, 57, 58, 59] fun k kp hk hp => ?_
            refine go ?_
            obtain ⟨y11, hc20, hm⟩ := bd hm
            refine RP (fun _ => vm_VM_Cells_2_ok  _ hc20) ?_
            cases hm
           ·rw [if_neg h19] at hm
            refine W_condf rfl (decide_eq_false h19) ?_
            refine W_exit ?_
            have ho21 := out_eq hm hr2
            subst ho21
            replace hm : law_VmCosts_j2 = some r := hm2
            refine KThen_x ?_
            refine KLoopM_x ?_
            refine KBlock_hit ?_
            refine KJoinM_n () () hm ?_
            exact ls
         ·rintro _ _ hm
          replace hm : law_VmCosts_j2 = some r := hm
          refine W_eqm ?_
          unfold law_VmCosts_j2 at hm
          refine W_rg [] ?_
          refine W_ret ?_
          refine KBody_ret [] ?_
          obtain rfl := Option.some.inj hm
          exact en
     ·skip
      simp only [Sum.elim_inl, Sum.elim_inr] at hm hq9
      obtain ⟨rfl, rfl⟩ := hq9
      refine RunRest_ops ?_
      refine go ?_
      refine hk _ _ ?_
      clear hk hp k kp
      refine W_regF [34, 35, 36, 37, 38] fun k kp hk hp => ?_
      refine go ?_
      obtain ⟨y12, hc22, hm⟩ := bd hm
      refine RA (vm_New_ok p1  _ hc22) [] ?_
      rintro p σ' hq23 _
      rcases y12 with y13 | y14
      ·skip
       simp only [Sum.elim_inl, Sum.elim_inr] at hm hq23
       obtain ⟨rfl, rfl⟩ := hq23
       refine RunRest_ops ?_
       refine go ?_
       refine hk _ _ ?_
       clear hk hp k kp
       refine W_seq_k fun k9 hk9 => ?_
       by_cases h24 : ¬ ((y6.1).code) = 0
       ·rw [if_pos h24] at hm
        have h24b : (((y6.1).code) != 0) = true := bne_iff_ne.2 h24
        refine W_rgx h24b [39, 40, 41, 42, 43, 44, 45] ?_
        refine W_condt rfl rfl ?_
        refine W_rg [1, 2, 5, 6, 7, 8, 46, 47, 48, 49] ?_
        refine W_ret ?_
        refine KThen_r ?_
        refine KBody_ret [] ?_
        obtain rfl := Option.some.inj hm
        exact en
       ·rw [if_neg h24] at hm
        have h24b : (((y6.1).code) != 0) = false := bne_eq_false_iff_eq.2 (Decidable.not_not.1 h24)
        refine W_rgx h24b [39, 40, 41, 42, 43, 44, 45] ?_
        by_cases h25 : ¬ ((y13).code) = 0
        ·rw [if_pos h25] at hm
         refine W_condt rfl (bne_iff_ne.2 h25) ?_
         refine W_rg [1, 2, 5, 6, 7, 8, 46, 47, 48, 49] ?_
         refine W_ret ?_
         refine KThen_r ?_
         refine KBody_ret [] ?_
         obtain rfl := Option.some.inj hm
         exact en
        ·rw [if_neg h25] at hm
         refine W_condf rfl (bne_eq_false_iff_eq.2 (Decidable.not_not.1 h25)) ?_
         refine W_skip ?_
         refine KThen_n (hk9 _ _ ?_)
         refine W_joinM (S := ((List Int) × Int × (List Int))) (V := Nat) [1, 2, 4, 5, 6, 7, 8, 9, 10, 11, 12, 13, 14, 15, 46, 50, 51, 52, 53, 54, 55, 56, 57, 58, 59, 60, 61, 62, 63, 64, 65, 66, 67, 68, 69, 70, 71, 72, 73, 74, 75, 76, 77, 78, 79, 80, 81, 82, 83, 84, 85, 86, 87, 88, 89, 90, 91, 92, 93, 94, 95, 96, 97, 98, 99, 100, 101, 102, 103, 104, 105, 106, 107, 108, 109, 110, 111, 112, 113, 114, 115, 116, 117, 118, 119, 120, 121, 122] (fun (l17, x18, l19) v20 => []) (fun (l17, x18, l19) v20 => [.box [.int .i64 p1.cells, .int .i64 p1.regs, .int .i64 p1.cost, .tree 1 (p1.put.map (eK .i64)), .tree 1 (p1.bools.map (eK .i64)), .tree 1 (p1.get.map (eK .i64)), .tree 6 (p1.code.map TIns.enc)], .box [.int .i64 y6.2.1, .int .i64 y6.2.2.1, .int .i64 y6.2.2.2.1, .tree 1 (y6.2.2.2.2.1.map (eK .i64)), .tree 1 (y6.2.2.2.2.2.1.map (eK .i64)), .tree 1 (y6.2.2.2.2.2.2.1.map (eK .i64)), .tree 6 (y6.2.2.2.2.2.2.2.1.map TIns.enc), .osl 3 v20 0 l19.length, .tree 1 (l17.map (eK .i64)), .int .i64 x18], .box [.int .i64 y6.2.2.2.2.2.2.2.2.2.2.1, .int .i64 y6.2.2.2.2.2.2.2.2.2.2.2.1], .arr 1 v20 2 (l19.map (eK .i64)), .box [.int .i64 ((y6.1).code), .int .i64 ((y6.1).at_)], .box [.int .i64 ((y13).code), .int .i64 ((y13).at_)]]) (fun (l17, x18, l19) => law_VmCosts_j3 l17 x18 l19 = some r) ?_ ?_
         ·skip
          refine W_rg [6, 8, 46] ?_
          refine W_block ?_
          obtain ⟨o3, hl3, hm3⟩ := bd hm
          refine W_loopM (S := ((List Int) × Int × (List Int) × Int)) (V := Nat) (O := ((List Int) × Int × (List Int)) ⊕ Bool) [4, 9, 10, 11, 12, 13, 14, 15, 50, 51, 52, 53, 54, 55, 56, 57, 58, 59, 60, 61, 62, 63, 64, 65, 66, 67, 68, 69, 70, 71, 72, 73, 74, 75, 76, 77, 78, 79, 80, 81, 82, 83, 84, 85, 86, 87, 88, 89, 90, 91, 92, 93, 94, 95, 96, 97, 98, 99, 100, 101, 102, 103, 104, 105, 106, 107, 108, 109, 110, 111, 112, 113, 114, 115, 116, 117, 118, 119, 120, 121, 122] (fun (l37, x38, l39, x41) v40 => [(9, .c (.int .i64 x41))]) (fun (l37, x38, l39, x41) v40 => [.box [.int .i64 p1.cells, .int .i64 p1.regs, .int .i64 p1.cost, .tree 1 (p1.put.map (eK .i64)), .tree 1 (p1.bools.map (eK .i64)), .tree 1 (p1.get.map (eK .i64)), .tree 6 (p1.code.map TIns.enc)], .box [.int .i64 y6.2.1, .int .i64 y6.2.2.1, .int .i64 y6.2.2.2.1, .tree 1 (y6.2.2.2.2.1.map (eK .i64)), .tree 1 (y6.2.2.2.2.2.1.map (eK .i64)), .tree 1 (y6.2.2.2.2.2.2.1.map (eK .i64)), .tree 6 (y6.2.2.2.2.2.2.2.1.map TIns.enc), .osl 3 v40 0 l39.length, .tree 1 (l37.map (eK .i64)), .int .i64 x38], .box [.int .i64 y6.2.2.2.2.2.2.2.2.2.2.1, .int .i64 y6.2.2.2.2.2.2.2.2.2.2.2.1], .arr 1 v40 2 (l39.map (eK .i64)), .box [.int .i64 ((y6.1).code), .int .i64 ((y6.1).at_)], .box [.int .i64 ((y13).code), .int .i64 ((y13).at_)]]) _ _ 1 hl3 ?_ ?_
          ·exact ls
          ·rintro ⟨l37, x38, l39, x41⟩ v40 r3 hm hr3
           replace hm : law_VmCosts_l3 p2 y6 l37 x38 l39 x41 = some r3 := hm
           refine W_eqm ?_
           unfold law_VmCosts_l3 at hm
           refine W_seq_k fun k10 hk10 => ?_
           refine W_rg [50, 51, 52] ?_
           by_cases h26 : x41 < (p2.length : Int)
           ·rw [if_pos h26] at hm
            refine W_condt rfl (decide_eq_true h26) ?_
            refine W_skip ?_
            refine KThen_n (hk10 _ _ ?_)
            refine W_seq_k fun k11 hk11 => ?_
            refine W_block ?_
            refine W_regF [53, 56, 57, 58, 59] fun k kp hk hp => ?_
            refine go ?_
            obtain ⟨y42, hc27, hm⟩ := bd hm
            refine RA (vm_VM_Cells_ok y6.2.1 y6.2.2.1 y6.2.2.2.1 y6.2.2.2.2.1 y6.2.2.2.2.2.1 y6.2.2.2.2.2.2.1 y6.2.2.2.2.2.2.2.1 l37 x38 l39 v40 _ hc27) [1, 3] ?_
            rintro p σ' hq28 _
            obtain ⟨rfl, rfl⟩ := hq28
            refine RunRest_ops ?_
            refine go ?_
            obtain ⟨y43, hc29, hm⟩ := bd hm
            refine RA (vm_VM_Steps_ok y6.2.1 y6.2.2.1 y6.2.2.2.1 y6.2.2.2.2.1 y6.2.2.2.2.2.1 y6.2.2.2.2.2.2.1 y6.2.2.2.2.2.2.2.1 l37 x38 l39 v40 _ hc29) [1, 3] ?_
            rintro p σ' hq30 _
            obtain ⟨rfl, rfl⟩ := hq30
            refine RunRest_ops ?_
            refine go ?_
            refine hk _ _ ?_
            clear hk hp k kp
            obtain ⟨hg31a, hm⟩ := gd hm
            refine W_regF [60, 61, 62, 63, 64, 65, 66, 67, 68] fun k kp hk hp => ?_
            refine gox (em (eL 1 (eK .i64)) p2 x41.toNat) ?_
            obtain ⟨y44, hc32, hm⟩ := bd hm
            refine RA (vm_VM_Row_2_ok (p2.getD x41.toNat default) y6.2.1 y6.2.2.1 y6.2.2.2.1 y6.2.2.2.2.1 y6.2.2.2.2.2.1 y6.2.2.2.2.2.2.1 y6.2.2.2.2.2.2.2.1 l37 x38 l39 v40 _ hc32) [1, 3] ?_
            rintro p σ' hq33 _
            obtain ⟨v45, rfl, rfl⟩ := hq33
            refine RunRest_ops ?_
            refine go ?_
            refine hk _ _ ?_
            clear hk hp k kp
            refine W_seq_k fun k12 hk12 => ?_
            refine W_rg [13, 69, 70] ?_
            by_cases h34 : ¬ ((y44.2.1).code) = 0
            ·rw [if_pos h34] at hm
             refine W_condt rfl (bne_iff_ne.2 h34) ?_
             refine W_seq_k fun k13 hk13 => ?_
             by_cases h35 : ¬ (y44.1.length : Int) = 0
             ·rw [if_pos h35] at hm
              have h35b : ((y44.1.length : Int) != 0) = true := bne_iff_ne.2 h35
              refine W_rgx h35b [10, 11, 12, 71, 72, 73, 74, 75, 76, 77, 78, 79, 80, 81, 82, 83, 84, 85, 86] ?_
              refine W_condt rfl rfl ?_
              refine W_rg [1, 2, 5, 7, 9, 87] ?_
              have ho36 := out_eq hm hr3
              subst ho36
              replace hm : some false = some r := hm3
              refine W_ret ?_
              refine KThen_r ?_
              refine KThen_r ?_
              refine KBlock_r ?_
              refine KThen_r ?_
              refine KLoopM_r ?_
              refine KBlock_r ?_
              refine KJoinM_r ?_
              refine KBody_ret [] ?_
              obtain rfl := Option.some.inj hm
              exact en
             ·rw [if_neg h35] at hm
              have h35b : ((y44.1.length : Int) != 0) = false := bne_eq_false_iff_eq.2 (Decidable.not_not.1 h35)
              refine W_regF [10, 11, 12, 71, 72, 73, 74, 75, 76, 77, 78, 79, 80, 81, 82, 83, 84, 85, 86] fun k kp hk hp => ?_
              refine gox h35b ?_
              obtain ⟨y46, hc37, hm⟩ := bd hm
              refine RA (vm_VM_Steps_ok y6.2.1 y6.2.2.1 y6.2.2.2.1 y6.2.2.2.2.1 y6.2.2.2.2.2.1 y6.2.2.2.2.2.2.1 y6.2.2.2.2.2.2.2.1 y44.2.2.1 y44.2.2.2.1 y44.2.2.2.2 v45 _ hc37) [1, 3] ?_
              rintro p σ' hq38 _
              obtain ⟨rfl, rfl⟩ := hq38
              by_cases h39 : ¬ y46 = y43
              ·rw [if_pos h39] at hm
               have h39b : (y46 != y43) = true := bne_iff_ne.2 h39
               refine RunRest_ops ?_
               refine gox (a2 h35b h39b) ?_
               refine hk _ _ ?_
               clear hk hp k kp
               refine W_condt rfl rfl ?_
               refine W_rg [1, 2, 5, 7, 9, 87] ?_
               have ho40 := out_eq hm hr3
               subst ho40
               replace hm : some false = some r := hm3
               refine W_ret ?_
               refine KThen_r ?_
               refine KThen_r ?_
               refine KBlock_r ?_
               refine KThen_r ?_
               refine KLoopM_r ?_
               refine KBlock_r ?_
               refine KJoinM_r ?_
               refine KBody_ret [] ?_
               obtain rfl := Option.some.inj hm
               exact en
              ·rw [if_neg h39] at hm
               have h39b : (y46 != y43) = false := bne_eq_false_iff_eq.2 (Decidable.not_not.1 h39)
               refine RunRest_ops ?_
               refine gox (a2 h35b h39b) ?_
               obtain ⟨y47, hc41, hm⟩ := bd hm
               refine RA (vm_VM_Cells_ok y6.2.1 y6.2.2.1 y6.2.2.2.1 y6.2.2.2.2.1 y6.2.2.2.2.2.1 y6.2.2.2.2.2.2.1 y6.2.2.2.2.2.2.2.1 y44.2.2.1 y44.2.2.2.1 y44.2.2.2.2 v45 _ hc41) [1, 3] ?_
               rintro p σ' hq42 _
               obtain ⟨rfl, rfl⟩ := hq42
               refine RunRest_ops ?_
               refine gox (a2 h35b h39b) ?_
               obtain ⟨y48, hc43, hm⟩ := bd hm
               refine RP (fun _ => ref_SameLongs_ok y47 y42 _ hc43) ?_
               refine RunRest_ops ?_
               refine gox (a2 h35b h39b) ?_
               refine hk _ _ ?_
               clear hk hp k kp
               by_cases h44 : y48 = true
               ·rw [if_pos h44] at hm
                refine W_condf rfl (by rw [show y48 = true from (h44)]; rfl) ?_
                refine W_skip ?_
                refine KThen_n (hk13 _ _ ?_)
                refine W_exit ?_
                refine KThen_x ?_
                refine KBlock_hit ?_
                refine KThen_n (hk11 _ _ ?_)
                refine W_rn ?_
                refine KLoopM_n (y44.2.2.1, y44.2.2.2.1, y44.2.2.2.2, (IntKind.wrap .i64 (x41 + 1))) v45 hm ?_
                exact ls
               ·rw [if_neg h44] at hm
                refine W_condt rfl (by rw [show y48 = false from (Bool.eq_false_iff.2 h44)]; rfl) ?_
                refine W_rg [1, 2, 5, 7, 9, 87] ?_
                have ho45 := out_eq hm hr3
                subst ho45
                replace hm : some false = some r := hm3
                refine W_ret ?_
                refine KThen_r ?_
                refine KThen_r ?_
                refine KBlock_r ?_
                refine KThen_r ?_
                refine KLoopM_r ?_
                refine KBlock_r ?_
                refine KJoinM_r ?_
                refine KBody_ret [] ?_
                obtain rfl := Option.some.inj hm
                exact en
            ·rw [if_neg h34] at hm
             refine W_condf rfl (bne_eq_false_iff_eq.2 (Decidable.not_not.1 h34)) ?_
             refine W_skip ?_
             refine KThen_n (hk12 _ _ ?_)
             refine W_regF [10, 71, 88, 89, 90, 91, 92, 93, 94, 95, 96] fun k kp hk hp => ?_
             refine gox (em (eL 1 (eK .i64)) p2 x41.toNat) ?_
             obtain ⟨y49, hc46, hm⟩ := bd hm
             refine RP (fun _ => vm_VM_Row_ok (p2.getD x41.toNat default) _ hc46) ?_
             cases hm
           ·rw [if_neg h26] at hm
            refine W_condf rfl (decide_eq_false h26) ?_
            refine W_exit ?_
            have ho47 := out_eq hm hr3
            subst ho47
            replace hm : law_VmCosts_j3 l37 x38 l39 = some r := hm3
            refine KThen_x ?_
            refine KLoopM_x ?_
            refine KBlock_hit ?_
            refine KJoinM_n (l37, x38, l39) v40 hm ?_
            exact ls
         ·rintro ⟨l17, x18, l19⟩ v20 hm
          replace hm : law_VmCosts_j3 l17 x18 l19 = some r := hm
          refine W_eqm ?_
          unfold law_VmCosts_j3 at hm
          refine W_rg [] ?_
          refine W_ret ?_
          refine KBody_ret [] ?_
          obtain rfl := Option.some.inj hm
          exact en
      ·skip
       simp only [Sum.elim_inl, Sum.elim_inr] at hm hq23
       obtain ⟨rfl, rfl⟩ := hq23
       refine RunRest_ops ?_
       refine go ?_
       refine hk _ _ ?_
       clear hk hp k kp
       refine W_seq_k fun k14 hk14 => ?_
       by_cases h48 : ¬ ((y6.1).code) = 0
       ·rw [if_pos h48] at hm
        have h48b : (((y6.1).code) != 0) = true := bne_iff_ne.2 h48
        refine W_rgx h48b [39, 40, 41, 42, 43, 44, 45] ?_
        refine W_condt rfl rfl ?_
        refine W_rg [1, 2, 5, 6, 7, 8, 46, 47, 48, 49] ?_
        refine W_ret ?_
        refine KThen_r ?_
        refine KBody_ret [] ?_
        obtain rfl := Option.some.inj hm
        exact en
       ·rw [if_neg h48] at hm
        have h48b : (((y6.1).code) != 0) = false := bne_eq_false_iff_eq.2 (Decidable.not_not.1 h48)
        refine W_rgx h48b [39, 40, 41, 42, 43, 44, 45] ?_
        by_cases h49 : ¬ ((y14.1).code) = 0
        ·rw [if_pos h49] at hm
         refine W_condt rfl (bne_iff_ne.2 h49) ?_
         refine W_rg [1, 2, 5, 6, 7, 8, 46, 47, 48, 49] ?_
         refine W_ret ?_
         refine KThen_r ?_
         refine KBody_ret [] ?_
         obtain rfl := Option.some.inj hm
         exact en
        ·rw [if_neg h49] at hm
         refine W_condf rfl (bne_eq_false_iff_eq.2 (Decidable.not_not.1 h49)) ?_
         refine W_skip ?_
         refine KThen_n (hk14 _ _ ?_)
         refine W_joinM (S := ((List Int) × Int × (List Int) × (List Int) × Int × (List Int))) (V := (Nat × Nat)) [1, 2, 4, 5, 6, 7, 8, 9, 10, 11, 12, 13, 14, 15, 46, 50, 51, 52, 53, 54, 55, 56, 57, 58, 59, 60, 61, 62, 63, 64, 65, 66, 67, 68, 69, 70, 71, 72, 73, 74, 75, 76, 77, 78, 79, 80, 81, 82, 83, 84, 85, 86, 87, 88, 89, 90, 91, 92, 93, 94, 95, 96, 97, 98, 99, 100, 101, 102, 103, 104, 105, 106, 107, 108, 109, 110, 111, 112, 113, 114, 115, 116, 117, 118, 119, 120, 121, 122] (fun (l58, x59, l60, l62, x63, l64) (v61, v65) => []) (fun (l58, x59, l60, l62, x63, l64) (v61, v65) => [.box [.int .i64 p1.cells, .int .i64 p1.regs, .int .i64 p1.cost, .tree 1 (p1.put.map (eK .i64)), .tree 1 (p1.bools.map (eK .i64)), .tree 1 (p1.get.map (eK .i64)), .tree 6 (p1.code.map TIns.enc)], .box [.int .i64 y6.2.1, .int .i64 y6.2.2.1, .int .i64 y6.2.2.2.1, .tree 1 (y6.2.2.2.2.1.map (eK .i64)), .tree 1 (y6.2.2.2.2.2.1.map (eK .i64)), .tree 1 (y6.2.2.2.2.2.2.1.map (eK .i64)), .tree 6 (y6.2.2.2.2.2.2.2.1.map TIns.enc), .osl 3 v61 0 l60.length, .tree 1 (l58.map (eK .i64)), .int .i64 x59], .box [.int .i64 y6.2.2.2.2.2.2.2.2.2.2.1, .int .i64 y6.2.2.2.2.2.2.2.2.2.2.2.1], .arr 1 v61 2 (l60.map (eK .i64)), .box [.int .i64 ((y6.1).code), .int .i64 ((y6.1).at_)], .box [.int .i64 y14.2.1, .int .i64 y14.2.2.1, .int .i64 y14.2.2.2.1, .tree 1 (y14.2.2.2.2.1.map (eK .i64)), .tree 1 (y14.2.2.2.2.2.1.map (eK .i64)), .tree 1 (y14.2.2.2.2.2.2.1.map (eK .i64)), .tree 6 (y14.2.2.2.2.2.2.2.1.map TIns.enc), .osl 7 v65 0 l64.length, .tree 1 (l62.map (eK .i64)), .int .i64 x63], .box [.int .i64 y14.2.2.2.2.2.2.2.2.2.2.1, .int .i64 y14.2.2.2.2.2.2.2.2.2.2.2.1], .arr 1 v65 2 (l64.map (eK .i64)), .box [.int .i64 ((y14.1).code), .int .i64 ((y14.1).at_)]]) (fun (l58, x59, l60, l62, x63, l64) => law_VmCosts_j4 l58 x59 l60 l62 x63 l64 = some r) ?_ ?_
         ·skip
          refine W_rg [6, 8, 46] ?_
          refine W_block ?_
          obtain ⟨o4, hl4, hm4⟩ := bd hm
          refine W_loopM (S := ((List Int) × Int × (List Int) × (List Int) × Int × (List Int) × Int)) (V := (Nat × Nat)) (O := ((List Int) × Int × (List Int) × (List Int) × Int × (List Int)) ⊕ Bool) [4, 9, 10, 11, 12, 13, 14, 15, 50, 51, 52, 53, 54, 55, 56, 57, 58, 59, 60, 61, 62, 63, 64, 65, 66, 67, 68, 69, 70, 71, 72, 73, 74, 75, 76, 77, 78, 79, 80, 81, 82, 83, 84, 85, 86, 87, 88, 89, 90, 91, 92, 93, 94, 95, 96, 97, 98, 99, 100, 101, 102, 103, 104, 105, 106, 107, 108, 109, 110, 111, 112, 113, 114, 115, 116, 117, 118, 119, 120, 121, 122] (fun (l96, x97, l98, l100, x101, l102, x104) (v99, v103) => [(9, .c (.int .i64 x104))]) (fun (l96, x97, l98, l100, x101, l102, x104) (v99, v103) => [.box [.int .i64 p1.cells, .int .i64 p1.regs, .int .i64 p1.cost, .tree 1 (p1.put.map (eK .i64)), .tree 1 (p1.bools.map (eK .i64)), .tree 1 (p1.get.map (eK .i64)), .tree 6 (p1.code.map TIns.enc)], .box [.int .i64 y6.2.1, .int .i64 y6.2.2.1, .int .i64 y6.2.2.2.1, .tree 1 (y6.2.2.2.2.1.map (eK .i64)), .tree 1 (y6.2.2.2.2.2.1.map (eK .i64)), .tree 1 (y6.2.2.2.2.2.2.1.map (eK .i64)), .tree 6 (y6.2.2.2.2.2.2.2.1.map TIns.enc), .osl 3 v99 0 l98.length, .tree 1 (l96.map (eK .i64)), .int .i64 x97], .box [.int .i64 y6.2.2.2.2.2.2.2.2.2.2.1, .int .i64 y6.2.2.2.2.2.2.2.2.2.2.2.1], .arr 1 v99 2 (l98.map (eK .i64)), .box [.int .i64 ((y6.1).code), .int .i64 ((y6.1).at_)], .box [.int .i64 y14.2.1, .int .i64 y14.2.2.1, .int .i64 y14.2.2.2.1, .tree 1 (y14.2.2.2.2.1.map (eK .i64)), .tree 1 (y14.2.2.2.2.2.1.map (eK .i64)), .tree 1 (y14.2.2.2.2.2.2.1.map (eK .i64)), .tree 6 (y14.2.2.2.2.2.2.2.1.map TIns.enc), .osl 7 v103 0 l102.length, .tree 1 (l100.map (eK .i64)), .int .i64 x101], .box [.int .i64 y14.2.2.2.2.2.2.2.2.2.2.1, .int .i64 y14.2.2.2.2.2.2.2.2.2.2.2.1], .arr 1 v103 2 (l102.map (eK .i64)), .box [.int .i64 ((y14.1).code), .int .i64 ((y14.1).at_)]]) _ _ (1, 1) hl4 ?_ ?_
          ·exact ls
          ·rintro ⟨l96, x97, l98, l100, x101, l102, x104⟩ ⟨v99, v103⟩ r4 hm hr4
           replace hm : law_VmCosts_l4 p1 p2 y6 y14 l96 x97 l98 l100 x101 l102 x104 = some r4 := hm
           refine W_eqm ?_
           unfold law_VmCosts_l4 at hm
           refine W_seq_k fun k15 hk15 => ?_
           refine W_rg [50, 51, 52] ?_
           by_cases h50 : x104 < (p2.length : Int)
           ·rw [if_pos h50] at hm
            refine W_condt rfl (decide_eq_true h50) ?_
            refine W_skip ?_
            refine KThen_n (hk15 _ _ ?_)
            refine W_seq_k fun k16 hk16 => ?_
            refine W_block ?_
            refine W_regF [53, 56, 57, 58, 59] fun k kp hk hp => ?_
            refine go ?_
            obtain ⟨y105, hc51, hm⟩ := bd hm
            refine RA (vm_VM_Cells_ok y6.2.1 y6.2.2.1 y6.2.2.2.1 y6.2.2.2.2.1 y6.2.2.2.2.2.1 y6.2.2.2.2.2.2.1 y6.2.2.2.2.2.2.2.1 l96 x97 l98 v99 _ hc51) [1, 3] ?_
            rintro p σ' hq52 _
            obtain ⟨rfl, rfl⟩ := hq52
            refine RunRest_ops ?_
            refine go ?_
            obtain ⟨y106, hc53, hm⟩ := bd hm
            refine RA (vm_VM_Steps_ok y6.2.1 y6.2.2.1 y6.2.2.2.1 y6.2.2.2.2.1 y6.2.2.2.2.2.1 y6.2.2.2.2.2.2.1 y6.2.2.2.2.2.2.2.1 l96 x97 l98 v99 _ hc53) [1, 3] ?_
            rintro p σ' hq54 _
            obtain ⟨rfl, rfl⟩ := hq54
            refine RunRest_ops ?_
            refine go ?_
            refine hk _ _ ?_
            clear hk hp k kp
            obtain ⟨hg55a, hm⟩ := gd hm
            refine W_regF [60, 61, 62, 63, 64, 65, 66, 67, 68] fun k kp hk hp => ?_
            refine gox (em (eL 1 (eK .i64)) p2 x104.toNat) ?_
            obtain ⟨y107, hc56, hm⟩ := bd hm
            refine RA (vm_VM_Row_2_ok (p2.getD x104.toNat default) y6.2.1 y6.2.2.1 y6.2.2.2.1 y6.2.2.2.2.1 y6.2.2.2.2.2.1 y6.2.2.2.2.2.2.1 y6.2.2.2.2.2.2.2.1 l96 x97 l98 v99 _ hc56) [1, 3] ?_
            rintro p σ' hq57 _
            obtain ⟨v108, rfl, rfl⟩ := hq57
            refine RunRest_ops ?_
            refine go ?_
            refine hk _ _ ?_
            clear hk hp k kp
            refine W_seq_k fun k17 hk17 => ?_
            refine W_rg [13, 69, 70] ?_
            by_cases h58 : ¬ ((y107.2.1).code) = 0
            ·rw [if_pos h58] at hm
             refine W_condt rfl (bne_iff_ne.2 h58) ?_
             refine W_seq_k fun k18 hk18 => ?_
             by_cases h59 : ¬ (y107.1.length : Int) = 0
             ·rw [if_pos h59] at hm
              have h59b : ((y107.1.length : Int) != 0) = true := bne_iff_ne.2 h59
              refine W_rgx h59b [10, 11, 12, 71, 72, 73, 74, 75, 76, 77, 78, 79, 80, 81, 82, 83, 84, 85, 86] ?_
              refine W_condt rfl rfl ?_
              refine W_rg [1, 2, 5, 7, 9, 87] ?_
              have ho60 := out_eq hm hr4
              subst ho60
              replace hm : some false = some r := hm4
              refine W_ret ?_
              refine KThen_r ?_
              refine KThen_r ?_
              refine KBlock_r ?_
              refine KThen_r ?_
              refine KLoopM_r ?_
              refine KBlock_r ?_
              refine KJoinM_r ?_
              refine KBody_ret [] ?_
              obtain rfl := Option.some.inj hm
              exact en
             ·rw [if_neg h59] at hm
              have h59b : ((y107.1.length : Int) != 0) = false := bne_eq_false_iff_eq.2 (Decidable.not_not.1 h59)
              refine W_regF [10, 11, 12, 71, 72, 73, 74, 75, 76, 77, 78, 79, 80, 81, 82, 83, 84, 85, 86] fun k kp hk hp => ?_
              refine gox h59b ?_
              obtain ⟨y109, hc61, hm⟩ := bd hm
              refine RA (vm_VM_Steps_ok y6.2.1 y6.2.2.1 y6.2.2.2.1 y6.2.2.2.2.1 y6.2.2.2.2.2.1 y6.2.2.2.2.2.2.1 y6.2.2.2.2.2.2.2.1 y107.2.2.1 y107.2.2.2.1 y107.2.2.2.2 v108 _ hc61) [1, 3] ?_
              rintro p σ' hq62 _
              obtain ⟨rfl, rfl⟩ := hq62
              by_cases h63 : ¬ y109 = y106
              ·rw [if_pos h63] at hm
               have h63b : (y109 != y106) = true := bne_iff_ne.2 h63
               refine RunRest_ops ?_
               refine gox (a2 h59b h63b) ?_
               refine hk _ _ ?_
               clear hk hp k kp
               refine W_condt rfl rfl ?_
               refine W_rg [1, 2, 5, 7, 9, 87] ?_
               have ho64 := out_eq hm hr4
               subst ho64
               replace hm : some false = some r := hm4
               refine W_ret ?_
               refine KThen_r ?_
               refine KThen_r ?_
               refine KBlock_r ?_
               refine KThen_r ?_
               refine KLoopM_r ?_
               refine KBlock_r ?_
               refine KJoinM_r ?_
               refine KBody_ret [] ?_
               obtain rfl := Option.some.inj hm
               exact en
              ·rw [if_neg h63] at hm
               have h63b : (y109 != y106) = false := bne_eq_false_iff_eq.2 (Decidable.not_not.1 h63)
               refine RunRest_ops ?_
               refine gox (a2 h59b h63b) ?_
               obtain ⟨y110, hc65, hm⟩ := bd hm
               refine RA (vm_VM_Cells_ok y6.2.1 y6.2.2.1 y6.2.2.2.1 y6.2.2.2.2.1 y6.2.2.2.2.2.1 y6.2.2.2.2.2.2.1 y6.2.2.2.2.2.2.2.1 y107.2.2.1 y107.2.2.2.1 y107.2.2.2.2 v108 _ hc65) [1, 3] ?_
               rintro p σ' hq66 _
               obtain ⟨rfl, rfl⟩ := hq66
               refine RunRest_ops ?_
               refine gox (a2 h59b h63b) ?_
               obtain ⟨y111, hc67, hm⟩ := bd hm
               refine RP (fun _ => ref_SameLongs_ok y110 y105 _ hc67) ?_
               refine RunRest_ops ?_
               refine gox (a2 h59b h63b) ?_
               refine hk _ _ ?_
               clear hk hp k kp
               by_cases h68 : y111 = true
               ·rw [if_pos h68] at hm
                refine W_condf rfl (by rw [show y111 = true from (h68)]; rfl) ?_
                refine W_skip ?_
                refine KThen_n (hk18 _ _ ?_)
                refine W_exit ?_
                refine KThen_x ?_
                refine KBlock_hit ?_
                refine KThen_n (hk16 _ _ ?_)
                refine W_rn ?_
                refine KLoopM_n (y107.2.2.1, y107.2.2.2.1, y107.2.2.2.2, l100, x101, l102, (IntKind.wrap .i64 (x104 + 1))) (v108, v103) hm ?_
                exact ls
               ·rw [if_neg h68] at hm
                refine W_condt rfl (by rw [show y111 = false from (Bool.eq_false_iff.2 h68)]; rfl) ?_
                refine W_rg [1, 2, 5, 7, 9, 87] ?_
                have ho69 := out_eq hm hr4
                subst ho69
                replace hm : some false = some r := hm4
                refine W_ret ?_
                refine KThen_r ?_
                refine KThen_r ?_
                refine KBlock_r ?_
                refine KThen_r ?_
                refine KLoopM_r ?_
                refine KBlock_r ?_
                refine KJoinM_r ?_
                refine KBody_ret [] ?_
                obtain rfl := Option.some.inj hm
                exact en
            ·rw [if_neg h58] at hm
             refine W_condf rfl (bne_eq_false_iff_eq.2 (Decidable.not_not.1 h58)) ?_
             refine W_skip ?_
             refine KThen_n (hk17 _ _ ?_)
             refine W_regF [10, 71, 88, 89, 90, 91, 92, 93, 94, 95, 96] fun k kp hk hp => ?_
             refine gox (em (eL 1 (eK .i64)) p2 x104.toNat) ?_
             obtain ⟨y112, hc70, hm⟩ := bd hm
             refine RA (vm_VM_Row_2_ok (p2.getD x104.toNat default) y14.2.1 y14.2.2.1 y14.2.2.2.1 y14.2.2.2.2.1 y14.2.2.2.2.2.1 y14.2.2.2.2.2.2.1 y14.2.2.2.2.2.2.2.1 l100 x101 l102 v103 _ hc70) [5, 7] ?_
             rintro p σ' hq71 _
             obtain ⟨v113, rfl, rfl⟩ := hq71
             refine RunRest_ops ?_
             refine go ?_
             refine hk _ _ ?_
             clear hk hp k kp
             refine W_anyF [11, 12, 14, 15, 97, 98, 99, 100, 101, 102, 103, 104, 105, 106, 107, 108, 109, 110, 111, 112, 113, 114, 115, 116, 117, 118, 119, 120, 121] (by kernel_rfl) [0, 1, 0, 0, 8, 28, 63, 127, 255, 511, 1023, 2047, 4095, 8191, 8191, 32767, 65535, 131071, 262143, 524287, 1048575, 524287, 4194303, 8388607, 16777215, 33554431] [false, false, false, false, false, false, true, true, true, true, true, true, true, false, false, true, true, true, true, false, false, false, true, true, true, true] (by kernel_rfl) fun k hk => ?_
             refine ga ?_
             obtain ⟨y114, hc72, hm⟩ := bd hm
             refine AnyCall_at (σ2 := [.box [.int .i64 p1.cells, .int .i64 p1.regs, .int .i64 p1.cost, .tree 1 (p1.put.map (eK .i64)), .tree 1 (p1.bools.map (eK .i64)), .tree 1 (p1.get.map (eK .i64)), .tree 6 (p1.code.map TIns.enc)], .box [.int .i64 y6.2.1, .int .i64 y6.2.2.1, .int .i64 y6.2.2.2.1, .tree 1 (y6.2.2.2.2.1.map (eK .i64)), .tree 1 (y6.2.2.2.2.2.1.map (eK .i64)), .tree 1 (y6.2.2.2.2.2.2.1.map (eK .i64)), .tree 6 (y6.2.2.2.2.2.2.2.1.map TIns.enc), .osl 3 v108 0 y107.2.2.2.2.length, .tree 1 (y107.2.2.1.map (eK .i64)), .int .i64 y107.2.2.2.1], .box [.int .i64 y6.2.2.2.2.2.2.2.2.2.2.1, .int .i64 y6.2.2.2.2.2.2.2.2.2.2.2.1], .arr 1 v108 2 (y107.2.2.2.2.map (eK .i64)), .box [.int .i64 ((y6.1).code), .int .i64 ((y6.1).at_)], .box [.int .i64 y14.2.1, .int .i64 y14.2.2.1, .int .i64 y14.2.2.2.1, .tree 1 (y14.2.2.2.2.1.map (eK .i64)), .tree 1 (y14.2.2.2.2.2.1.map (eK .i64)), .tree 1 (y14.2.2.2.2.2.2.1.map (eK .i64)), .tree 6 (y14.2.2.2.2.2.2.2.1.map TIns.enc), .osl 7 v113 0 y112.2.2.2.2.length, .tree 1 (y112.2.2.1.map (eK .i64)), .int .i64 y112.2.2.2.1], .box [.int .i64 y14.2.2.2.2.2.2.2.2.2.2.1, .int .i64 y14.2.2.2.2.2.2.2.2.2.2.2.1], .arr 1 v113 2 (y112.2.2.2.2.map (eK .i64)), .box [.int .i64 ((y14.1).code), .int .i64 ((y14.1).at_)], .box [.int .i64 ((y107.2.1).code), .int .i64 ((y107.2.1).at_)], .box [.int .i64 ((y112.2.1).code), .int .i64 ((y112.2.1).at_)]]) (res := .c (.int .i64 y114)) ⟨_, _, _, _, [1, 3], vm_VM_Steps_ok y6.2.1 y6.2.2.1 y6.2.2.2.1 y6.2.2.2.2.1 y6.2.2.2.2.2.1 y6.2.2.2.2.2.2.1 y6.2.2.2.2.2.2.2.1 y107.2.2.1 y107.2.2.2.1 y107.2.2.2.2 v108 _ hc72, by simp, by simp, rfl, rfl, by first | trivial | (simp [bX, eK, eB, eS, eL, s_cap, psUnder, PV.under, CV.under, obsBelow, OB.under, cvsBelow]; done), by first | trivial | (simp [bX, eK, eB, eS, eL, s_cap, psUnder, PV.under, CV.under, obsBelow, OB.under, cvsBelow]; done), fun q τ hq _ => by obtain ⟨rfl, rfl⟩ := hq; exact ⟨rfl, rfl⟩, fun _ _ h => h.elim⟩ (by first | trivial | exact dst_ok rfl) (by first | trivial | (intro _; first | trivial | simp [need]) | simp [need]) (by first | exact .inl rfl | exact .inr (by simp only [extB]; and_intros <;> first | rfl | trivial)) ?_
             by_cases h73 : ¬ y114 = (IntKind.wrap .i64 (y106 + p1.cost))
             ·rw [if_pos h73] at hm
              have h73b : (y114 != (IntKind.wrap .i64 (y106 + p1.cost))) = true := bne_iff_ne.2 h73
              refine gax h73b ?_
              refine hk _ _ ?_
              clear hk k
              refine W_condt rfl rfl ?_
              refine W_rg [1, 2, 5, 7, 9, 122] ?_
              have ho74 := out_eq hm hr4
              subst ho74
              replace hm : some false = some r := hm4
              refine W_ret ?_
              refine KBlock_r ?_
              refine KThen_r ?_
              refine KLoopM_r ?_
              refine KBlock_r ?_
              refine KJoinM_r ?_
              refine KBody_ret [] ?_
              obtain rfl := Option.some.inj hm
              exact en
             ·rw [if_neg h73] at hm
              have h73b : (y114 != (IntKind.wrap .i64 (y106 + p1.cost))) = false := bne_eq_false_iff_eq.2 (Decidable.not_not.1 h73)
              by_cases h75 : ¬ ((y112.2.1).code) = 0
              ·rw [if_pos h75] at hm
               have h75b : (((y112.2.1).code) != 0) = true := bne_iff_ne.2 h75
               refine gax (a2 h73b h75b) ?_
               refine hk _ _ ?_
               clear hk k
               refine W_condt rfl rfl ?_
               refine W_rg [1, 2, 5, 7, 9, 122] ?_
               have ho76 := out_eq hm hr4
               subst ho76
               replace hm : some false = some r := hm4
               refine W_ret ?_
               refine KBlock_r ?_
               refine KThen_r ?_
               refine KLoopM_r ?_
               refine KBlock_r ?_
               refine KJoinM_r ?_
               refine KBody_ret [] ?_
               obtain rfl := Option.some.inj hm
               exact en
              ·rw [if_neg h75] at hm
               have h75b : (((y112.2.1).code) != 0) = false := bne_eq_false_iff_eq.2 (Decidable.not_not.1 h75)
               refine gax (a2 h73b h75b) ?_
               obtain ⟨y115, hc77, hm⟩ := bd hm
               refine AP (fun _ => ref_SameLongs_ok y107.1 y112.1 _ hc77) ?_
               by_cases h78 : y115 = true
               ·rw [if_pos h78] at hm
                have h78b : y115 = true := h78
                have h78c : (!y115) = false := by rw [h78b]; rfl
                refine gax (a2 h73b (a2 h75b (a2 h78b h78c))) ?_
                obtain ⟨y116, hc79, hm⟩ := bd hm
                refine AnyCall_at (σ2 := [.box [.int .i64 p1.cells, .int .i64 p1.regs, .int .i64 p1.cost, .tree 1 (p1.put.map (eK .i64)), .tree 1 (p1.bools.map (eK .i64)), .tree 1 (p1.get.map (eK .i64)), .tree 6 (p1.code.map TIns.enc)], .box [.int .i64 y6.2.1, .int .i64 y6.2.2.1, .int .i64 y6.2.2.2.1, .tree 1 (y6.2.2.2.2.1.map (eK .i64)), .tree 1 (y6.2.2.2.2.2.1.map (eK .i64)), .tree 1 (y6.2.2.2.2.2.2.1.map (eK .i64)), .tree 6 (y6.2.2.2.2.2.2.2.1.map TIns.enc), .osl 3 v108 0 y107.2.2.2.2.length, .tree 1 (y107.2.2.1.map (eK .i64)), .int .i64 y107.2.2.2.1], .box [.int .i64 y6.2.2.2.2.2.2.2.2.2.2.1, .int .i64 y6.2.2.2.2.2.2.2.2.2.2.2.1], .arr 1 v108 2 (y107.2.2.2.2.map (eK .i64)), .box [.int .i64 ((y6.1).code), .int .i64 ((y6.1).at_)], .box [.int .i64 y14.2.1, .int .i64 y14.2.2.1, .int .i64 y14.2.2.2.1, .tree 1 (y14.2.2.2.2.1.map (eK .i64)), .tree 1 (y14.2.2.2.2.2.1.map (eK .i64)), .tree 1 (y14.2.2.2.2.2.2.1.map (eK .i64)), .tree 6 (y14.2.2.2.2.2.2.2.1.map TIns.enc), .osl 7 v113 0 y112.2.2.2.2.length, .tree 1 (y112.2.2.1.map (eK .i64)), .int .i64 y112.2.2.2.1], .box [.int .i64 y14.2.2.2.2.2.2.2.2.2.2.1, .int .i64 y14.2.2.2.2.2.2.2.2.2.2.2.1], .arr 1 v113 2 (y112.2.2.2.2.map (eK .i64)), .box [.int .i64 ((y14.1).code), .int .i64 ((y14.1).at_)], .box [.int .i64 ((y107.2.1).code), .int .i64 ((y107.2.1).at_)], .box [.int .i64 ((y112.2.1).code), .int .i64 ((y112.2.1).at_)]]) (res := .c (.tree 1 (y116.map (eK .i64)))) ⟨_, _, _, _, [1, 3], vm_VM_Cells_ok y6.2.1 y6.2.2.1 y6.2.2.2.1 y6.2.2.2.2.1 y6.2.2.2.2.2.1 y6.2.2.2.2.2.2.1 y6.2.2.2.2.2.2.2.1 y107.2.2.1 y107.2.2.2.1 y107.2.2.2.2 v108 _ hc79, by simp, by simp, rfl, rfl, by first | trivial | (simp [bX, eK, eB, eS, eL, s_cap, psUnder, PV.under, CV.under, obsBelow, OB.under, cvsBelow]; done), by first | trivial | (simp [bX, eK, eB, eS, eL, s_cap, psUnder, PV.under, CV.under, obsBelow, OB.under, cvsBelow]; done), fun q τ hq _ => by obtain ⟨rfl, rfl⟩ := hq; exact ⟨rfl, rfl⟩, fun _ _ h => h.elim⟩ (by first | trivial | exact dst_ok rfl) (by first | trivial | (intro _; first | trivial | simp [need]) | simp [need]) (by first | exact .inl rfl | exact .inr (by simp only [extB]; and_intros <;> first | rfl | trivial)) ?_
                refine gax (a2 h73b (a2 h75b (a2 h78b h78c))) ?_
                obtain ⟨y117, hc80, hm⟩ := bd hm
                refine AnyCall_at (σ2 := [.box [.int .i64 p1.cells, .int .i64 p1.regs, .int .i64 p1.cost, .tree 1 (p1.put.map (eK .i64)), .tree 1 (p1.bools.map (eK .i64)), .tree 1 (p1.get.map (eK .i64)), .tree 6 (p1.code.map TIns.enc)], .box [.int .i64 y6.2.1, .int .i64 y6.2.2.1, .int .i64 y6.2.2.2.1, .tree 1 (y6.2.2.2.2.1.map (eK .i64)), .tree 1 (y6.2.2.2.2.2.1.map (eK .i64)), .tree 1 (y6.2.2.2.2.2.2.1.map (eK .i64)), .tree 6 (y6.2.2.2.2.2.2.2.1.map TIns.enc), .osl 3 v108 0 y107.2.2.2.2.length, .tree 1 (y107.2.2.1.map (eK .i64)), .int .i64 y107.2.2.2.1], .box [.int .i64 y6.2.2.2.2.2.2.2.2.2.2.1, .int .i64 y6.2.2.2.2.2.2.2.2.2.2.2.1], .arr 1 v108 2 (y107.2.2.2.2.map (eK .i64)), .box [.int .i64 ((y6.1).code), .int .i64 ((y6.1).at_)], .box [.int .i64 y14.2.1, .int .i64 y14.2.2.1, .int .i64 y14.2.2.2.1, .tree 1 (y14.2.2.2.2.1.map (eK .i64)), .tree 1 (y14.2.2.2.2.2.1.map (eK .i64)), .tree 1 (y14.2.2.2.2.2.2.1.map (eK .i64)), .tree 6 (y14.2.2.2.2.2.2.2.1.map TIns.enc), .osl 7 v113 0 y112.2.2.2.2.length, .tree 1 (y112.2.2.1.map (eK .i64)), .int .i64 y112.2.2.2.1], .box [.int .i64 y14.2.2.2.2.2.2.2.2.2.2.1, .int .i64 y14.2.2.2.2.2.2.2.2.2.2.2.1], .arr 1 v113 2 (y112.2.2.2.2.map (eK .i64)), .box [.int .i64 ((y14.1).code), .int .i64 ((y14.1).at_)], .box [.int .i64 ((y107.2.1).code), .int .i64 ((y107.2.1).at_)], .box [.int .i64 ((y112.2.1).code), .int .i64 ((y112.2.1).at_)]]) (res := .c (.tree 1 (y117.map (eK .i64)))) ⟨_, _, _, _, [5, 7], vm_VM_Cells_ok y14.2.1 y14.2.2.1 y14.2.2.2.1 y14.2.2.2.2.1 y14.2.2.2.2.2.1 y14.2.2.2.2.2.2.1 y14.2.2.2.2.2.2.2.1 y112.2.2.1 y112.2.2.2.1 y112.2.2.2.2 v113 _ hc80, by simp, by simp, rfl, rfl, by first | trivial | (simp [bX, eK, eB, eS, eL, s_cap, psUnder, PV.under, CV.under, obsBelow, OB.under, cvsBelow]; done), by first | trivial | (simp [bX, eK, eB, eS, eL, s_cap, psUnder, PV.under, CV.under, obsBelow, OB.under, cvsBelow]; done), fun q τ hq _ => by obtain ⟨rfl, rfl⟩ := hq; exact ⟨rfl, rfl⟩, fun _ _ h => h.elim⟩ (by first | trivial | exact dst_ok rfl) (by first | trivial | (intro _; first | trivial | simp [need]) | simp [need]) (by first | exact .inl rfl | exact .inr (by simp only [extB]; and_intros <;> first | rfl | trivial)) ?_
                refine gax (a2 h73b (a2 h75b (a2 h78b h78c))) ?_
                obtain ⟨y118, hc81, hm⟩ := bd hm
                refine AP (fun _ => ref_SameLongs_ok y116 y117 _ hc81) ?_
                refine gax (a2 h73b (a2 h75b (a2 h78b h78c))) ?_
                refine hk _ _ ?_
                clear hk k
                by_cases h82 : y118 = true
                ·rw [if_pos h82] at hm
                 refine W_condf rfl (by rw [show y118 = true from (h82)]; rfl) ?_
                 refine W_skip ?_
                 refine KBlock_n ?_
                 refine KThen_n (hk16 _ _ ?_)
                 refine W_rn ?_
                 refine KLoopM_n (y107.2.2.1, y107.2.2.2.1, y107.2.2.2.2, y112.2.2.1, y112.2.2.2.1, y112.2.2.2.2, (IntKind.wrap .i64 (x104 + 1))) (v108, v113) hm ?_
                 exact ls
                ·rw [if_neg h82] at hm
                 refine W_condt rfl (by rw [show y118 = false from (Bool.eq_false_iff.2 h82)]; rfl) ?_
                 refine W_rg [1, 2, 5, 7, 9, 122] ?_
                 have ho83 := out_eq hm hr4
                 subst ho83
                 replace hm : some false = some r := hm4
                 refine W_ret ?_
                 refine KBlock_r ?_
                 refine KThen_r ?_
                 refine KLoopM_r ?_
                 refine KBlock_r ?_
                 refine KJoinM_r ?_
                 refine KBody_ret [] ?_
                 obtain rfl := Option.some.inj hm
                 exact en
               ·rw [if_neg h78] at hm
                have h78b : y115 = false := Bool.eq_false_iff.2 h78
                have h78c : (!y115) = true := by rw [h78b]; rfl
                refine gax (a2 h73b (a2 h75b (a2 h78b h78c))) ?_
                refine hk _ _ ?_
                clear hk k
                refine W_condt rfl rfl ?_
                refine W_rg [1, 2, 5, 7, 9, 122] ?_
                have ho84 := out_eq hm hr4
                subst ho84
                replace hm : some false = some r := hm4
                refine W_ret ?_
                refine KBlock_r ?_
                refine KThen_r ?_
                refine KLoopM_r ?_
                refine KBlock_r ?_
                refine KJoinM_r ?_
                refine KBody_ret [] ?_
                obtain rfl := Option.some.inj hm
                exact en
           ·rw [if_neg h50] at hm
            refine W_condf rfl (decide_eq_false h50) ?_
            refine W_exit ?_
            have ho85 := out_eq hm hr4
            subst ho85
            replace hm : law_VmCosts_j4 l96 x97 l98 l100 x101 l102 = some r := hm4
            refine KThen_x ?_
            refine KLoopM_x ?_
            refine KBlock_hit ?_
            refine KJoinM_n (l96, x97, l98, l100, x101, l102) (v99, v103) hm ?_
            exact ls
         ·rintro ⟨l58, x59, l60, l62, x63, l64⟩ ⟨v61, v65⟩ hm
          replace hm : law_VmCosts_j4 l58 x59 l60 l62 x63 l64 = some r := hm
          refine W_eqm ?_
          unfold law_VmCosts_j4 at hm
          refine W_rg [] ?_
          refine W_ret ?_
          refine KBody_ret [] ?_
          obtain rfl := Option.some.inj hm
          exact en
 ·rw [if_neg h2] at hm
  refine W_condt rfl (by rw [show y1 = false from (Bool.eq_false_iff.2 h2)]; rfl) ?_
  refine W_rg [1, 2, 17] ?_
  refine W_ret ?_
  refine KThen_r ?_
  refine KBody_ret [] ?_
  obtain rfl := Option.some.inj hm
  exact en
end Pam
