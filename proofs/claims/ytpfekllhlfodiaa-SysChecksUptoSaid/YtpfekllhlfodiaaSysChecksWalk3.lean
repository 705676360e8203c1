/- the walk of sys_judge_rule, printed by a program of ours -/
import Derived.Test.YtpfekllhlfodiaaBase3
import Derived.Test.YtpfekllhlfodiaaSysChecksFun1
import Derived.Test.YtpfekllhlfodiaaSysChecksWalk1
import Derived.Test.YtpfekllhlfodiaaSysChecksWalk2
set_option linter.all false
namespace Pam
open Go Go.Proofs
set_option maxRecDepth 100000 in
set_option maxHeartbeats 8000000 in
theorem sys_judge_rule_ok (p1 : TRule) (p2 : Tjudge) (p3 : List Bool) (v1_ : Nat) (r : (Int × Int)) (hm : sys_judge_rule p1 p2 p3 = some r) : Spec Try.prog 82 [.c (.optr 0 0), .a [.int .i64 p1.op, .int .i64 p1.k, .int .i64 p1.out_, .int .i64 p1.n, .tree 1 (p1.a.map (eK .i64)), .tree 4 (p1.e.map TPush.enc)], .c (.osl 1 v1_ 0 p3.length)] [.box [.tree 2 (p2.system.vars.map TVar.enc), .tree 1 (p2.system.in_.map (eK .i64)), .tree 1 (p2.system.out_.map (eK .i64)), .tree 6 (p2.system.rules.map TRule.enc), .int .i64 p2.code], .arr 1 v1_ 4 (p3.map eB)] (fun p σ => (p = .c (.int .i64 r.1) ∧ σ = [.box [.tree 2 (p2.system.vars.map TVar.enc), .tree 1 (p2.system.in_.map (eK .i64)), .tree 1 (p2.system.out_.map (eK .i64)), .tree 6 (p2.system.rules.map TRule.enc), .int .i64 r.2], .arr 1 v1_ 4 (p3.map eB)])) (fun _ _ => False) := by
 refine Spec_ofD 99 [.tmp 6] Try.func82 rfl rfl rfl (by kernel_rfl) (by simp) ?_
 refine W_eqf ?_
 unfold sys_judge_rule at hm
 refine W_rg [1, 6] ?_
 refine W_rg [10, 11, 12] ?_
 refine W_regF [13, 14, 15, 16, 17, 18, 19] fun k kp hk hp => ?_
 refine go ?_
 obtain ⟨y1, hc1, hm⟩ := bd hm
 refine RA (sys_judge_is_ok p1.out_ (Tjudge.mk p2.system 0)  _ hc1) [0] ?_
 rintro p σ' hq2 _
 obtain ⟨rfl, rfl⟩ := hq2
 refine RunRest_ops ?_
 refine go ?_
 obtain ⟨y2, hc3, hm⟩ := bd hm
 refine RA (sys_judge_fail_ok (!y1) 16 (Tjudge.mk p2.system 0)  _ hc3) [0] ?_
 rintro p σ' hq4 _
 obtain ⟨rfl, rfl⟩ := hq4
 refine RunRest_ops ?_
 refine go ?_
 refine hk _ _ ?_
 clear hk hp k kp
 refine W_joinM (S := Int) (V := Unit) [2, 20, 21, 22, 23, 24, 25, 26, 27, 28, 29, 30, 31, 32, 33] (fun x3 _ => []) (fun x3 _ => [.box [.tree 2 (p2.system.vars.map TVar.enc), .tree 1 (p2.system.in_.map (eK .i64)), .tree 1 (p2.system.out_.map (eK .i64)), .tree 6 (p2.system.rules.map TRule.enc), .int .i64 x3], .arr 1 v1_ 4 (p3.map eB), .box [.int .i64 p1.op, .int .i64 p1.k, .int .i64 p1.out_, .int .i64 p1.n, .tree 1 (p1.a.map (eK .i64)), .tree 4 (p1.e.map TPush.enc)]]) (fun x3 => sys_judge_rule_j1 p1 p2 x3 = some r) ?_ ?_
 ·skip
  refine W_regionG fun k kp hk hp => ?_
  refine RunRest_cut 7 ?_
  refine go ?_
  by_cases h27 : y2 = 0
  ·rw [if_pos h27] at hm
   have h27b : (y2 == 0) = true := beq_iff_eq.2 h27
   obtain ⟨hg28a, hm⟩ := gd hm
   refine RunRest_ops ?_
   refine gox (a2 (em eB p3 p1.out_.toNat) h27b) ?_
   obtain ⟨y24, hc29, hm⟩ := bd hm
   refine RA (sys_judge_fail_ok (p3.getD p1.out_.toNat default) 8 (Tjudge.mk p2.system y2)  _ hc29) [0] ?_
   rintro p σ' hq30 _
   obtain ⟨rfl, rfl⟩ := hq30
   refine RunRest_ops ?_
   refine gox (a2 (em eB p3 p1.out_.toNat) h27b) ?_
   refine hk _ _ ?_
   clear hk hp k kp
   refine KJoinM_n y24 () hm ?_
   exact ls
  ·rw [if_neg h27] at hm
   have h27b : (y2 == 0) = false := beq_eq_false_iff_ne.2 h27
   refine RunRest_ops ?_
   refine gox h27b ?_
   obtain ⟨y25, hc31, hm⟩ := bd hm
   refine RA (sys_judge_fail_ok false 8 (Tjudge.mk p2.system y2)  _ hc31) [0] ?_
   rintro p σ' hq32 _
   obtain ⟨rfl, rfl⟩ := hq32
   refine RunRest_ops ?_
   refine gox h27b ?_
   refine hk _ _ ?_
   clear hk hp k kp
   refine KJoinM_n y25 () hm ?_
   exact ls
 ·rintro x3 _ hm
  replace hm : sys_judge_rule_j1 p1 p2 x3 = some r := hm
  refine W_eqm ?_
  unfold sys_judge_rule_j1 at hm
  refine W_joinM (S := Int) (V := Unit) [34, 35, 36, 37, 38, 39, 40, 41, 42, 43, 44, 45, 46, 47, 48] (fun x4 _ => []) (fun x4 _ => [.box [.tree 2 (p2.system.vars.map TVar.enc), .tree 1 (p2.system.in_.map (eK .i64)), .tree 1 (p2.system.out_.map (eK .i64)), .tree 6 (p2.system.rules.map TRule.enc), .int .i64 x4], .arr 1 v1_ 4 (p3.map eB), .box [.int .i64 p1.op, .int .i64 p1.k, .int .i64 p1.out_, .int .i64 p1.n, .tree 1 (p1.a.map (eK .i64)), .tree 4 (p1.e.map TPush.enc)]]) (fun x4 => sys_judge_rule_j2 p1 p2 x4 = some r) ?_ ?_
  ·skip
   refine W_anyTN (by kernel_rfl) [0, 0, 2, 6, 14, 30, 62, 126, 254, 62, 574, 1598, 4094, 8190, 16383] [false, false, false, false, false, false, false, false, false, false, false, false, false, false, true] (by kernel_rfl) fun k hk => ?_
   refine TR_ops ?_
   refine ga ?_
   obtain ⟨y20, hc22, hm⟩ := bd hm
   refine AnyCall_pureT (fun _ => sys_parts_ok p1.op _ hc22) (by first | trivial | exact dst_ok rfl) (by first | trivial | (intro _; first | trivial | simp [need]) | simp [need]) rfl (fun _ => rfl) ?_
   by_cases h23 : y20 < 0
   ·rw [if_pos h23] at hm
    have h23b : decide (y20 < 0) = true := decide_eq_true h23
    refine TR_ops ?_
    refine gax h23b ?_
    obtain ⟨y21, hc24, hm⟩ := bd hm
    refine AnyCall_atT (σ2 := [.box [.tree 2 (p2.system.vars.map TVar.enc), .tree 1 (p2.system.in_.map (eK .i64)), .tree 1 (p2.system.out_.map (eK .i64)), .tree 6 (p2.system.rules.map TRule.enc), .int .i64 y21], .arr 1 v1_ 4 (p3.map eB), .box [.int .i64 p1.op, .int .i64 p1.k, .int .i64 p1.out_, .int .i64 p1.n, .tree 1 (p1.a.map (eK .i64)), .tree 4 (p1.e.map TPush.enc)]]) (res := .t []) ⟨_, _, _, _, [0], sys_judge_fail_ok true 4 (Tjudge.mk p2.system x3)  _ hc24, by simp, by simp, rfl, rfl, by first | trivial | (simp [bX, eK, eB, eS, eL, s_cap, psUnder, PV.under, CV.under, obsBelow, OB.under, cvsBelow]; done), by first | trivial | (simp [bX, eK, eB, eS, eL, s_cap, psUnder, PV.under, CV.under, obsBelow, OB.under, cvsBelow]; done), fun q τ hq _ => by obtain ⟨rfl, rfl⟩ := hq; exact ⟨rfl, rfl⟩, fun _ _ h => h.elim⟩ (by first | trivial | exact dst_ok rfl) (by first | trivial | (intro _; first | trivial | simp [need]) | simp [need]) (by first | exact .inl rfl | exact .inr (by simp only [extB]; and_intros <;> first | rfl | trivial)) ?_
    refine TR_ops ?_
    refine gax h23b ?_
    refine hk _ _ ?_
    clear hk k
    refine KJoinM_n y21 () hm ?_
    exact ls
   ·rw [if_neg h23] at hm
    have h23b : decide (y20 < 0) = false := decide_eq_false h23
    refine TR_ops ?_
    refine gax h23b ?_
    obtain ⟨y22, hc25, hm⟩ := bd hm
    refine AnyCall_pureT (fun _ => sys_parts_ok p1.op _ hc25) (by first | trivial | exact dst_ok rfl) (by first | trivial | (intro _; first | trivial | simp [need]) | simp [need]) rfl (fun _ => rfl) ?_
    refine TR_ops ?_
    refine gax h23b ?_
    obtain ⟨y23, hc26, hm⟩ := bd hm
    refine AnyCall_atT (σ2 := [.box [.tree 2 (p2.system.vars.map TVar.enc), .tree 1 (p2.system.in_.map (eK .i64)), .tree 1 (p2.system.out_.map (eK .i64)), .tree 6 (p2.system.rules.map TRule.enc), .int .i64 y23], .arr 1 v1_ 4 (p3.map eB), .box [.int .i64 p1.op, .int .i64 p1.k, .int .i64 p1.out_, .int .i64 p1.n, .tree 1 (p1.a.map (eK .i64)), .tree 4 (p1.e.map TPush.enc)]]) (res := .t []) ⟨_, _, _, _, [0], sys_judge_fail_ok ((p1.a.length : Int) != y22) 4 (Tjudge.mk p2.system x3)  _ hc26, by simp, by simp, rfl, rfl, by first | trivial | (simp [bX, eK, eB, eS, eL, s_cap, psUnder, PV.under, CV.under, obsBelow, OB.under, cvsBelow]; done), by first | trivial | (simp [bX, eK, eB, eS, eL, s_cap, psUnder, PV.under, CV.under, obsBelow, OB.under, cvsBelow]; done), fun q τ hq _ => by obtain ⟨rfl, rfl⟩ := hq; exact ⟨rfl, rfl⟩, fun _ _ h => h.elim⟩ (by first | trivial | exact dst_ok rfl) (by first | trivial | (intro _; first | trivial | simp [need]) | simp [need]) (by first | exact .inl rfl | exact .inr (by simp only [extB]; and_intros <;> first | rfl | trivial)) ?_
    refine TR_ops ?_
    refine gax h23b ?_
    refine hk _ _ ?_
    clear hk k
    refine KJoinM_n y23 () hm ?_
    exact ls
  ·rintro x4 _ hm
   replace hm : sys_judge_rule_j2 p1 p2 x4 = some r := hm
   refine W_eqm ?_
   unfold sys_judge_rule_j2 at hm
   refine W_regF [49, 50, 51, 52, 53, 54] fun k kp hk hp => ?_
   refine go ?_
   obtain ⟨y5, hc5, hm⟩ := bd hm
   refine RA (sys_judge_fail_ok (decide ((p1.e.length : Int) > 24)) 7 (Tjudge.mk p2.system x4)  _ hc5) [0] ?_
   rintro p σ' hq6 _
   obtain ⟨rfl, rfl⟩ := hq6
   refine RunRest_ops ?_
   refine go ?_
   refine hk _ _ ?_
   clear hk hp k kp
   refine W_seq_k fun k1 hk1 => ?_
   refine W_rg [55, 56, 57, 58] ?_
   by_cases h7 : ¬ y5 = 0
   ·rw [if_pos h7] at hm
    refine W_condt rfl (bne_iff_ne.2 h7) ?_
    refine W_rg [0, 4, 59, 60, 61, 62, 63] ?_
    refine W_ret ?_
    refine KThen_r ?_
    refine KBody_ret [.box [.tree 2 (p2.system.vars.map TVar.enc), .tree 1 (p2.system.in_.map (eK .i64)), .tree 1 (p2.system.out_.map (eK .i64)), .tree 6 (p2.system.rules.map TRule.enc), .int .i64 y5], .arr 1 v1_ 4 (p3.map eB)] ?_
    obtain rfl := Option.some.inj hm
    exact en
   ·rw [if_neg h7] at hm
    refine W_condf rfl (bne_eq_false_iff_eq.2 (Decidable.not_not.1 h7)) ?_
    refine W_skip ?_
    refine KThen_n (hk1 _ _ ?_)
    refine W_rg [59, 64, 65] ?_
    refine W_joinM (S := (List Int)) (V := Unit) [7, 66, 67, 68, 69, 70] (fun l6 _ => [(7, .c (.tree 1 (l6.map (eK .i64))))]) (fun l6 _ => [.box [.tree 2 (p2.system.vars.map TVar.enc), .tree 1 (p2.system.in_.map (eK .i64)), .tree 1 (p2.system.out_.map (eK .i64)), .tree 6 (p2.system.rules.map TRule.enc), .int .i64 y5], .arr 1 v1_ 4 (p3.map eB), .box [.int .i64 p1.op, .int .i64 p1.k, .int .i64 p1.out_, .int .i64 p1.n, .tree 1 (p1.a.map (eK .i64)), .tree 4 (p1.e.map TPush.enc)]]) (fun l6 => sys_judge_rule_j3 p1 p2 y5 l6 = some r) ?_ ?_
    ·skip
     refine W_rg [66, 67] ?_
     by_cases h20 : p1.op ≥ 14
     ·rw [if_pos h20] at hm
      refine W_condt rfl (decide_eq_true h20) ?_
      refine W_region fun k kp hk hp => ?_
      refine go ?_
      obtain ⟨y19, hc21, hm⟩ := bd hm
      refine RP (fun _ => sys_Uses_ok p1 _ hc21) ?_
      refine RunRest_ops ?_
      refine go ?_
      refine hk _ _ ?_
      clear hk hp k kp
      refine KJoinM_n y19 () hm ?_
      exact ls
     ·rw [if_neg h20] at hm
      refine W_condf rfl (decide_eq_false h20) ?_
      refine W_skip ?_
      refine KJoinM_n p1.a () hm ?_
      exact ls
    ·rintro l6 _ hm
     replace hm : sys_judge_rule_j3 p1 p2 y5 l6 = some r := hm
     refine W_eqm ?_
     unfold sys_judge_rule_j3 at hm
     refine W_joinM (S := Int) (V := Unit) [7, 9, 71, 72, 73, 74, 75, 76, 77, 78, 79, 80, 81, 82, 83] (fun x7 _ => []) (fun x7 _ => [.box [.tree 2 (p2.system.vars.map TVar.enc), .tree 1 (p2.system.in_.map (eK .i64)), .tree 1 (p2.system.out_.map (eK .i64)), .tree 6 (p2.system.rules.map TRule.enc), .int .i64 x7], .arr 1 v1_ 4 (p3.map eB), .box [.int .i64 p1.op, .int .i64 p1.k, .int .i64 p1.out_, .int .i64 p1.n, .tree 1 (p1.a.map (eK .i64)), .tree 4 (p1.e.map TPush.enc)]]) (fun x7 => sys_judge_rule_j4 p1 p2 x7 = some r) ?_ ?_
     ·skip
      refine W_rg [7] ?_
      refine W_block ?_
      obtain ⟨o1, hl1, hm1⟩ := bd hm
      refine W_loopM (S := (Int × Int)) (V := Unit) (O := Int) [9, 73, 74, 75, 76, 77, 78, 79, 80, 81, 82, 83] (fun (x14, x15) _ => [(73, .c (.int .i64 x15))]) (fun (x14, x15) _ => [.box [.tree 2 (p2.system.vars.map TVar.enc), .tree 1 (p2.system.in_.map (eK .i64)), .tree 1 (p2.system.out_.map (eK .i64)), .tree 6 (p2.system.rules.map TRule.enc), .int .i64 x14], .arr 1 v1_ 4 (p3.map eB), .box [.int .i64 p1.op, .int .i64 p1.k, .int .i64 p1.out_, .int .i64 p1.n, .tree 1 (p1.a.map (eK .i64)), .tree 4 (p1.e.map TPush.enc)]]) _ _ () hl1 ?_ ?_
      ·exact ls
      ·rintro ⟨x14, x15⟩ _ r1 hm hr1
       replace hm : sys_judge_rule_l1 p2 l6 x14 x15 = some r1 := hm
       refine W_eqm ?_
       unfold sys_judge_rule_l1 at hm
       refine W_rg [] ?_
       refine W_seq_k fun k3 hk3 => ?_
       by_cases h13 : x15 < (l6.length : Int)
       ·rw [if_pos h13] at hm
        refine W_condt rfl (decide_eq_true h13) ?_
        refine W_skip ?_
        refine KThen_n (hk3 _ _ ?_)
        refine W_seq_k fun k4 hk4 => ?_
        refine W_block ?_
        obtain ⟨hg14a, hm⟩ := gd hm
        refine W_rgx (em (eK .i64) l6 x15.toNat) [74, 75, 76] ?_
        refine W_region fun k kp hk hp => ?_
        refine go ?_
        obtain ⟨y16, hc15, hm⟩ := bd hm
        refine RA (sys_judge_is_ok (l6.getD x15.toNat default) (Tjudge.mk p2.system x14)  _ hc15) [0] ?_
        rintro p σ' hq16 _
        obtain ⟨rfl, rfl⟩ := hq16
        refine RunRest_ops ?_
        refine go ?_
        obtain ⟨y17, hc17, hm⟩ := bd hm
        refine RA (sys_judge_fail_ok (!y16) 16 (Tjudge.mk p2.system x14)  _ hc17) [0] ?_
        rintro p σ' hq18 _
        obtain ⟨rfl, rfl⟩ := hq18
        refine RunRest_ops ?_
        refine go ?_
        refine hk _ _ ?_
        clear hk hp k kp
        refine KBlock_n ?_
        refine KThen_n (hk4 _ _ ?_)
        refine W_rn ?_
        refine KLoopM_n (y17, (IntKind.wrap .i64 (x15 + 1))) () hm ?_
        exact ls
       ·rw [if_neg h13] at hm
        refine W_condf rfl (decide_eq_false h13) ?_
        refine W_exit ?_
        have ho19 := out_eq hm hr1
        subst ho19
        replace hm : sys_judge_rule_j4 p1 p2 x14 = some r := hm1
        refine KThen_x ?_
        refine KLoopM_x ?_
        refine KBlock_hit ?_
        refine KJoinM_n x14 () hm ?_
        exact ls
     ·rintro x7 _ hm
      replace hm : sys_judge_rule_j4 p1 p2 x7 = some r := hm
      refine W_eqm ?_
      unfold sys_judge_rule_j4 at hm
      refine W_seq_k fun k2 hk2 => ?_
      refine W_rg [84, 85, 86, 87] ?_
      by_cases h8 : x7 = 0
      ·rw [if_pos h8] at hm
       refine W_condt rfl (beq_iff_eq.2 h8) ?_
       refine W_region fun k kp hk hp => ?_
       refine go ?_
       obtain ⟨y8, hc9, hm⟩ := bd hm
       refine RA (sys_judge_fits_ok p1 (Tjudge.mk p2.system x7)  _ hc9) [0] ?_
       rintro p σ' hq10 _
       obtain ⟨rfl, rfl⟩ := hq10
       refine RunRest_ops ?_
       refine go ?_
       obtain ⟨y9, hc11, hm⟩ := bd hm
       refine RA (sys_judge_fail_ok (!y8) 10 (Tjudge.mk p2.system x7)  _ hc11) [0] ?_
       rintro p σ' hq12 _
       obtain ⟨rfl, rfl⟩ := hq12
       refine RunRest_ops ?_
       refine go ?_
       refine hk _ _ ?_
       clear hk hp k kp
       refine KThen_n (hk2 _ _ ?_)
       refine W_rg [0, 4, 88, 89, 90, 91, 92, 93, 94, 95, 96, 97, 98] ?_
       refine W_ret ?_
       refine KBody_ret [.box [.tree 2 (p2.system.vars.map TVar.enc), .tree 1 (p2.system.in_.map (eK .i64)), .tree 1 (p2.system.out_.map (eK .i64)), .tree 6 (p2.system.rules.map TRule.enc), .int .i64 y9], .arr 1 v1_ 4 (p3.map eB)] ?_
       obtain rfl := Option.some.inj hm
       exact en
      ·rw [if_neg h8] at hm
       refine W_condf rfl (beq_eq_false_iff_ne.2 h8) ?_
       refine W_skip ?_
       refine KThen_n (hk2 _ _ ?_)
       refine W_rg [0, 4, 88, 95, 96, 97, 98] ?_
       refine W_ret ?_
       refine KBody_ret [.box [.tree 2 (p2.system.vars.map TVar.enc), .tree 1 (p2.system.in_.map (eK .i64)), .tree 1 (p2.system.out_.map (eK .i64)), .tree 6 (p2.system.rules.map TRule.enc), .int .i64 x7], .arr 1 v1_ 4 (p3.map eB)] ?_
       obtain rfl := Option.some.inj hm
       exact en
end Pam

/- the walk of sys_Check, printed by a program of ours -/
namespace Pam
open Go Go.Proofs
set_option maxRecDepth 100000 in
set_option maxHeartbeats 8000000 in
theorem sys_Check_ok (p1 : TSystem) (r : TFault) (hm : sys_Check p1 = some r) : SpecF Try.prog 33 [.a [.tree 2 (p1.vars.map TVar.enc), .tree 1 (p1.in_.map (eK .i64)), .tree 1 (p1.out_.map (eK .i64)), .tree 6 (p1.rules.map TRule.enc)]] (.a [.int .i64 ((r).code), .int .i64 ((r).at_)]) := by
 refine Spec_ofD 109 [.cell 2 33] Try.func33 rfl rfl rfl (by kernel_rfl) (by simp) ?_
 refine W_eqf ?_
 unfold sys_Check at hm
 refine W_rg [0] ?_
 refine W_rg [18, 19, 20] ?_
 refine W_seq_k fun k1 hk1 => ?_
 refine W_regF [21, 22] fun k kp hk hp => ?_
 refine go ?_
 obtain ⟨y1, hc1, hm⟩ := bd hm
 refine RA (sys_judge_head_ok (Tjudge.mk p1 0)  _ hc1) [2] ?_
 rintro p σ' hq2 _
 obtain ⟨rfl, rfl⟩ := hq2
 refine RunRest_ops ?_
 refine go ?_
 refine hk _ _ ?_
 clear hk hp k kp
 refine W_rg [23, 24] ?_
 by_cases h3 : ¬ ((y1).code) = 0
 ·rw [if_pos h3] at hm
  refine W_condt rfl (bne_iff_ne.2 h3) ?_
  refine W_rg [1, 3, 4, 25, 26] ?_
  refine W_ret ?_
  refine KThen_r ?_
  refine KBody_ret [] ?_
  obtain rfl := Option.some.inj hm
  exact en
 ·rw [if_neg h3] at hm
  refine W_condf rfl (bne_eq_false_iff_eq.2 (Decidable.not_not.1 h3)) ?_
  refine W_skip ?_
  refine KThen_n (hk1 _ _ ?_)
  obtain ⟨⟨hg4a, ⟨hg4bx, hg4by⟩⟩, hm⟩ := gd hm
  refine W_rg [4, 25, 27, 28, 29, 30] ?_
  refine W_eqa [.box [.tree 2 (p1.vars.map TVar.enc), .tree 1 (p1.in_.map (eK .i64)), .tree 1 (p1.out_.map (eK .i64)), .tree 6 (p1.rules.map TRule.enc)], .box [.int .i64 0, .int .i64 0], .box [.tree 2 (p1.vars.map TVar.enc), .tree 1 (p1.in_.map (eK .i64)), .tree 1 (p1.out_.map (eK .i64)), .tree 6 (p1.rules.map TRule.enc), .int .i64 0], .box [.int .i64 ((y1).code), .int .i64 ((y1).at_)], .arr 1 0 4 ((List.replicate p1.vars.length false).map eB)] ?_
  refine W_joinM (S := (List Bool)) (V := Unit) [5, 7, 31, 32, 33, 34, 35, 36, 37, 38, 39, 40, 41] (fun l3 _ => [(5, .c (.osl 4 0 0 l3.length))]) (fun l3 _ => [.box [.tree 2 (p1.vars.map TVar.enc), .tree 1 (p1.in_.map (eK .i64)), .tree 1 (p1.out_.map (eK .i64)), .tree 6 (p1.rules.map TRule.enc)], .box [.int .i64 0, .int .i64 0], .box [.tree 2 (p1.vars.map TVar.enc), .tree 1 (p1.in_.map (eK .i64)), .tree 1 (p1.out_.map (eK .i64)), .tree 6 (p1.rules.map TRule.enc), .int .i64 0], .box [.int .i64 ((y1).code), .int .i64 ((y1).at_)], .arr 1 0 4 (l3.map eB)]) (fun l3 => sys_Check_j1 p1 l3 = some r) ?_ ?_
  ·skip
   refine W_rg [31] ?_
   refine W_block ?_
   obtain ⟨o5, hl5, hm5⟩ := bd hm
   refine W_loopM (S := ((List Bool) × Int)) (V := Unit) (O := (List Bool)) [5, 7, 34, 35, 36, 37, 38, 39, 40, 41] (fun (l44, x45) _ => [(5, .c (.osl 4 0 0 l44.length)), (34, .c (.int .i64 x45))]) (fun (l44, x45) _ => [.box [.tree 2 (p1.vars.map TVar.enc), .tree 1 (p1.in_.map (eK .i64)), .tree 1 (p1.out_.map (eK .i64)), .tree 6 (p1.rules.map TRule.enc)], .box [.int .i64 0, .int .i64 0], .box [.tree 2 (p1.vars.map TVar.enc), .tree 1 (p1.in_.map (eK .i64)), .tree 1 (p1.out_.map (eK .i64)), .tree 6 (p1.rules.map TRule.enc), .int .i64 0], .box [.int .i64 ((y1).code), .int .i64 ((y1).at_)], .arr 1 0 4 (l44.map eB)]) _ _ () hl5 ?_ ?_
   ·exact ls
   ·rintro ⟨l44, x45⟩ _ r5 hm hr5
    replace hm : sys_Check_l5 p1 l44 x45 = some r5 := hm
    refine W_eqm ?_
    unfold sys_Check_l5 at hm
    refine W_rg [] ?_
    refine W_seq_k fun k10 hk10 => ?_
    by_cases h31 : x45 < (p1.in_.length : Int)
    ·rw [if_pos h31] at hm
     refine W_condt rfl (decide_eq_true h31) ?_
     refine W_skip ?_
     refine KThen_n (hk10 _ _ ?_)
     refine W_seq_k fun k11 hk11 => ?_
     refine W_block ?_
     obtain ⟨hg32a, hm⟩ := gd hm
     refine W_rgx (em (eK .i64) p1.in_ x45.toNat) [35, 36, 37] ?_
     obtain ⟨hg33a, hm⟩ := gd hm
     refine W_rnx (em eB l44 ((p1.in_.getD x45.toNat default).toNat)) ?_
     refine KBlock_n ?_
     refine KThen_n (hk11 _ _ ?_)
     refine W_rn ?_
     refine KLoopM_n ((l44.set ((p1.in_.getD x45.toNat default).toNat) true), (IntKind.wrap .i64 (x45 + 1))) () hm ?_
     exact ls
    ·rw [if_neg h31] at hm
     refine W_condf rfl (decide_eq_false h31) ?_
     refine W_exit ?_
     have ho34 := out_eq hm hr5
     subst ho34
     replace hm : sys_Check_j1 p1 l44 = some r := hm5
     refine KThen_x ?_
     refine KLoopM_x ?_
     refine KBlock_hit ?_
     refine KJoinM_n l44 () hm ?_
     exact ls
  ·rintro l3 _ hm
   replace hm : sys_Check_j1 p1 l3 = some r := hm
   refine W_eqm ?_
   unfold sys_Check_j1 at hm
   refine W_joinM (S := (Int × (List Bool))) (V := Unit) [3, 5, 8, 9, 10, 42, 43, 44, 45, 46, 47, 48, 49, 50, 51, 52, 53, 54, 55, 56, 57, 58, 59, 60, 61, 62, 63] (fun (x5, l6) _ => [(5, .c (.osl 4 0 0 l6.length))]) (fun (x5, l6) _ => [.box [.tree 2 (p1.vars.map TVar.enc), .tree 1 (p1.in_.map (eK .i64)), .tree 1 (p1.out_.map (eK .i64)), .tree 6 (p1.rules.map TRule.enc)], .box [.int .i64 0, .int .i64 0], .box [.tree 2 (p1.vars.map TVar.enc), .tree 1 (p1.in_.map (eK .i64)), .tree 1 (p1.out_.map (eK .i64)), .tree 6 (p1.rules.map TRule.enc), .int .i64 x5], .box [.int .i64 ((y1).code), .int .i64 ((y1).at_)], .arr 1 0 4 (l6.map eB)]) (fun (x5, l6) => sys_Check_j2 p1 x5 l6 = some r) ?_ ?_
   ·skip
    refine W_rg [42] ?_
    refine W_block ?_
    obtain ⟨o4, hl4, hm4⟩ := bd hm
    refine W_loopM (S := (Int × (List Bool) × Int)) (V := Unit) (O := (Int × (List Bool)) ⊕ TFault) [5, 8, 9, 10, 45, 46, 47, 48, 49, 50, 51, 52, 53, 54, 55, 56, 57, 58, 59, 60, 61, 62, 63] (fun (x30, l31, x32) _ => [(5, .c (.osl 4 0 0 l31.length)), (45, .c (.int .i64 x32))]) (fun (x30, l31, x32) _ => [.box [.tree 2 (p1.vars.map TVar.enc), .tree 1 (p1.in_.map (eK .i64)), .tree 1 (p1.out_.map (eK .i64)), .tree 6 (p1.rules.map TRule.enc)], .box [.int .i64 0, .int .i64 0], .box [.tree 2 (p1.vars.map TVar.enc), .tree 1 (p1.in_.map (eK .i64)), .tree 1 (p1.out_.map (eK .i64)), .tree 6 (p1.rules.map TRule.enc), .int .i64 x30], .box [.int .i64 ((y1).code), .int .i64 ((y1).at_)], .arr 1 0 4 (l31.map eB)]) _ _ () hl4 ?_ ?_
    ·exact ls
    ·rintro ⟨x30, l31, x32⟩ _ r4 hm hr4
     replace hm : sys_Check_l4 p1 x30 l31 x32 = some r4 := hm
     refine W_eqm ?_
     unfold sys_Check_l4 at hm
     refine W_rg [] ?_
     refine W_seq_k fun k7 hk7 => ?_
     by_cases h23 : x32 < (p1.rules.length : Int)
     ·rw [if_pos h23] at hm
      refine W_condt rfl (decide_eq_true h23) ?_
      refine W_skip ?_
      refine KThen_n (hk7 _ _ ?_)
      refine W_seq_k fun k8 hk8 => ?_
      refine W_block ?_
      obtain ⟨hg24a, hm⟩ := gd hm
      refine W_rgx (em TRule.enc p1.rules x32.toNat) [46, 47, 48, 49] ?_
      refine W_seq_k fun k9 hk9 => ?_
      refine W_regF [50, 51, 52, 53] fun k kp hk hp => ?_
      refine go ?_
      obtain ⟨y33, hc25, hm⟩ := bd hm
      refine RA (sys_judge_rule_ok (p1.rules.getD x32.toNat default) (Tjudge.mk p1 x30) l31 0 _ hc25) [2, 4] ?_
      rintro p σ' hq26 _
      obtain ⟨rfl, rfl⟩ := hq26
      refine RunRest_ops ?_
      refine go ?_
      refine hk _ _ ?_
      clear hk hp k kp
      refine W_rg [54] ?_
      by_cases h27 : ¬ y33.1 = 0
      ·rw [if_pos h27] at hm
       refine W_condt rfl (bne_iff_ne.2 h27) ?_
       refine W_rg [1, 3, 5, 8, 9, 10, 43, 44, 45, 55, 56, 57, 58] ?_
       have ho28 := out_eq hm hr4
       subst ho28
       replace hm : some (TFault.mk y33.1 x32) = some r := hm4
       refine W_ret ?_
       refine KThen_r ?_
       refine KBlock_r ?_
       refine KThen_r ?_
       refine KLoopM_r ?_
       refine KBlock_r ?_
       refine KJoinM_r ?_
       refine KBody_ret [] ?_
       obtain rfl := Option.some.inj hm
       exact en
      ·rw [if_neg h27] at hm
       refine W_condf rfl (bne_eq_false_iff_eq.2 (Decidable.not_not.1 h27)) ?_
       refine W_skip ?_
       refine KThen_n (hk9 _ _ ?_)
       obtain ⟨hg29a, hm⟩ := gd hm
       refine W_rnx (em eB l31 (((p1.rules.getD x32.toNat default).out_).toNat)) ?_
       refine KBlock_n ?_
       refine KThen_n (hk8 _ _ ?_)
       refine W_rn ?_
       refine KLoopM_n (y33.2, (l31.set (((p1.rules.getD x32.toNat default).out_).toNat) true), (IntKind.wrap .i64 (x32 + 1))) () hm ?_
       exact ls
     ·rw [if_neg h23] at hm
      refine W_condf rfl (decide_eq_false h23) ?_
      refine W_exit ?_
      have ho30 := out_eq hm hr4
      subst ho30
      replace hm : sys_Check_j2 p1 x30 l31 = some r := hm4
      refine KThen_x ?_
      refine KLoopM_x ?_
      refine KBlock_hit ?_
      refine KJoinM_n (x30, l31) () hm ?_
      exact ls
   ·rintro ⟨x5, l6⟩ _ hm
    replace hm : sys_Check_j2 p1 x5 l6 = some r := hm
    refine W_eqm ?_
    unfold sys_Check_j2 at hm
    refine W_joinM (S := Unit) (V := Unit) [5, 11, 12, 13, 15, 64, 65, 66, 67, 68, 69, 70, 71, 72, 73, 74, 75, 76, 77, 78, 79, 80, 81, 82, 83, 84, 85, 86, 87, 88, 89, 90, 91, 92, 93] (fun _ _ => [(5, .c (.osl 4 0 0 l6.length))]) (fun _ _ => [.box [.tree 2 (p1.vars.map TVar.enc), .tree 1 (p1.in_.map (eK .i64)), .tree 1 (p1.out_.map (eK .i64)), .tree 6 (p1.rules.map TRule.enc)], .box [.int .i64 0, .int .i64 0], .box [.tree 2 (p1.vars.map TVar.enc), .tree 1 (p1.in_.map (eK .i64)), .tree 1 (p1.out_.map (eK .i64)), .tree 6 (p1.rules.map TRule.enc), .int .i64 x5], .box [.int .i64 ((y1).code), .int .i64 ((y1).at_)], .arr 1 0 4 (l6.map eB)]) (fun _ => sys_Check_j3 p1 l6 = some r) ?_ ?_
    ·skip
     refine W_rg [64] ?_
     refine W_block ?_
     obtain ⟨o2, hl2, hm2⟩ := bd hm
     refine W_loopM (S := Int) (V := Unit) (O := Unit ⊕ TFault) [5, 11, 12, 13, 15, 67, 68, 69, 70, 71, 72, 73, 74, 75, 76, 77, 78, 79, 80, 81, 82, 83, 84, 85, 86, 87, 88, 89, 90, 91, 92, 93] (fun x13 _ => [(5, .c (.osl 4 0 0 l6.length)), (67, .c (.int .i64 x13))]) (fun x13 _ => [.box [.tree 2 (p1.vars.map TVar.enc), .tree 1 (p1.in_.map (eK .i64)), .tree 1 (p1.out_.map (eK .i64)), .tree 6 (p1.rules.map TRule.enc)], .box [.int .i64 0, .int .i64 0], .box [.tree 2 (p1.vars.map TVar.enc), .tree 1 (p1.in_.map (eK .i64)), .tree 1 (p1.out_.map (eK .i64)), .tree 6 (p1.rules.map TRule.enc), .int .i64 x5], .box [.int .i64 ((y1).code), .int .i64 ((y1).at_)], .arr 1 0 4 (l6.map eB)]) _ _ () hl2 ?_ ?_
     ·exact ls
     ·rintro x13 _ r2 hm hr2
      replace hm : sys_Check_l2 p1 l6 x13 = some r2 := hm
      refine W_eqm ?_
      unfold sys_Check_l2 at hm
      refine W_rg [] ?_
      refine W_seq_k fun k4 hk4 => ?_
      by_cases h11 : x13 < (p1.rules.length : Int)
      ·rw [if_pos h11] at hm
       refine W_condt rfl (decide_eq_true h11) ?_
       refine W_skip ?_
       refine KThen_n (hk4 _ _ ?_)
       refine W_joinM (S := Unit) (V := Unit) [5, 11, 12, 13, 15, 68, 69, 70, 71, 72, 73, 74, 75, 76, 77, 78, 79, 80, 81, 82, 83, 84, 85, 86, 87, 88, 89, 90, 91, 92] (fun _ _ => [(5, .c (.osl 4 0 0 l6.length))]) (fun _ _ => [.box [.tree 2 (p1.vars.map TVar.enc), .tree 1 (p1.in_.map (eK .i64)), .tree 1 (p1.out_.map (eK .i64)), .tree 6 (p1.rules.map TRule.enc)], .box [.int .i64 0, .int .i64 0], .box [.tree 2 (p1.vars.map TVar.enc), .tree 1 (p1.in_.map (eK .i64)), .tree 1 (p1.out_.map (eK .i64)), .tree 6 (p1.rules.map TRule.enc), .int .i64 x5], .box [.int .i64 ((y1).code), .int .i64 ((y1).at_)], .arr 1 0 4 (l6.map eB)]) (fun _ => sys_Check_j5 x13 = some r2) ?_ ?_
       ·skip
        refine W_block ?_
        obtain ⟨hg12a, hm⟩ := gd hm
        refine W_rgx (em TRule.enc p1.rules x13.toNat) [68, 69, 70, 71] ?_
        refine W_rg [72, 73] ?_
        refine W_joinM (S := (List Int)) (V := Unit) [5, 12, 13, 74, 75, 76, 77, 78] (fun l14 _ => [(5, .c (.osl 4 0 0 l6.length)), (13, .c (.tree 1 (l14.map (eK .i64))))]) (fun l14 _ => [.box [.tree 2 (p1.vars.map TVar.enc), .tree 1 (p1.in_.map (eK .i64)), .tree 1 (p1.out_.map (eK .i64)), .tree 6 (p1.rules.map TRule.enc)], .box [.int .i64 0, .int .i64 0], .box [.tree 2 (p1.vars.map TVar.enc), .tree 1 (p1.in_.map (eK .i64)), .tree 1 (p1.out_.map (eK .i64)), .tree 6 (p1.rules.map TRule.enc), .int .i64 x5], .box [.int .i64 ((y1).code), .int .i64 ((y1).at_)], .arr 1 0 4 (l6.map eB), .box [.int .i64 ((p1.rules.getD x13.toNat default).op), .int .i64 ((p1.rules.getD x13.toNat default).k), .int .i64 ((p1.rules.getD x13.toNat default).out_), .int .i64 ((p1.rules.getD x13.toNat default).n), .tree 1 (((p1.rules.getD x13.toNat default).a).map (eK .i64)), .tree 4 (((p1.rules.getD x13.toNat default).e).map TPush.enc)]]) (fun l14 => sys_Check_j6 l6 x13 l14 = some r2) ?_ ?_
        ·skip
         refine W_rg [74, 75] ?_
         by_cases h20 : ((p1.rules.getD x13.toNat default).op) ≥ 14
         ·rw [if_pos h20] at hm
          refine W_condt rfl (decide_eq_true h20) ?_
          refine W_region fun k kp hk hp => ?_
          refine go ?_
          obtain ⟨y19, hc21, hm⟩ := bd hm
          refine RP (fun _ => sys_Uses_ok (p1.rules.getD x13.toNat default) _ hc21) ?_
          refine RunRest_ops ?_
          refine go ?_
          refine hk _ _ ?_
          clear hk hp k kp
          refine KJoinM_n y19 () hm ?_
          exact ls
         ·rw [if_neg h20] at hm
          refine W_condf rfl (decide_eq_false h20) ?_
          refine W_skip ?_
          refine KJoinM_n ((p1.rules.getD x13.toNat default).a) () hm ?_
          exact ls
        ·rintro l14 _ hm
         replace hm : sys_Check_j6 l6 x13 l14 = some r2 := hm
         refine W_eqm ?_
         unfold sys_Check_j6 at hm
         refine W_rg [13] ?_
         refine W_block ?_
         obtain ⟨o3, hl3, hm3⟩ := bd hm
         refine W_loopM (S := Int) (V := Unit) (O := Unit ⊕ TFault) [5, 15, 81, 82, 83, 84, 85, 86, 87, 88, 89, 90, 91, 92] (fun x17 _ => [(5, .c (.osl 4 0 0 l6.length)), (81, .c (.int .i64 x17))]) (fun x17 _ => [.box [.tree 2 (p1.vars.map TVar.enc), .tree 1 (p1.in_.map (eK .i64)), .tree 1 (p1.out_.map (eK .i64)), .tree 6 (p1.rules.map TRule.enc)], .box [.int .i64 0, .int .i64 0], .box [.tree 2 (p1.vars.map TVar.enc), .tree 1 (p1.in_.map (eK .i64)), .tree 1 (p1.out_.map (eK .i64)), .tree 6 (p1.rules.map TRule.enc), .int .i64 x5], .box [.int .i64 ((y1).code), .int .i64 ((y1).at_)], .arr 1 0 4 (l6.map eB), .box [.int .i64 ((p1.rules.getD x13.toNat default).op), .int .i64 ((p1.rules.getD x13.toNat default).k), .int .i64 ((p1.rules.getD x13.toNat default).out_), .int .i64 ((p1.rules.getD x13.toNat default).n), .tree 1 (((p1.rules.getD x13.toNat default).a).map (eK .i64)), .tree 4 (((p1.rules.getD x13.toNat default).e).map TPush.enc)]]) _ _ () hl3 ?_ ?_
         ·exact ls
         ·rintro x17 _ r3 hm hr3
          replace hm : sys_Check_l3 l6 x13 l14 x17 = some r3 := hm
          refine W_eqm ?_
          unfold sys_Check_l3 at hm
          refine W_rg [] ?_
          refine W_seq_k fun k5 hk5 => ?_
          by_cases h13 : x17 < (l14.length : Int)
          ·rw [if_pos h13] at hm
           refine W_condt rfl (decide_eq_true h13) ?_
           refine W_skip ?_
           refine KThen_n (hk5 _ _ ?_)
           refine W_seq_k fun k6 hk6 => ?_
           refine W_block ?_
           obtain ⟨hg14a, hm⟩ := gd hm
           refine W_rgx (em (eK .i64) l14 x17.toNat) [82, 83, 84] ?_
           obtain ⟨hg15a, hm⟩ := gd hm
           refine W_rgx (em eB l6 ((l14.getD x17.toNat default).toNat)) [15, 85, 86, 87, 88] ?_
           by_cases h16 : (l6.getD ((l14.getD x17.toNat default).toNat) default) = true
           ·rw [if_pos h16] at hm
            refine W_condf rfl (by rw [show (l6.getD ((l14.getD x17.toNat default).toNat) default) = true from (h16)]; rfl) ?_
            refine W_skip ?_
            refine KBlock_n ?_
            refine KThen_n (hk6 _ _ ?_)
            refine W_rn ?_
            refine KLoopM_n (IntKind.wrap .i64 (x17 + 1)) () hm ?_
            exact ls
           ·rw [if_neg h16] at hm
            refine W_condt rfl (by rw [show (l6.getD ((l14.getD x17.toNat default).toNat) default) = false from (Bool.eq_false_iff.2 h16)]; rfl) ?_
            refine W_rg [1, 5, 11, 65, 66, 67, 79, 80, 81, 89, 90, 91] ?_
            have ho17 := out_eq hm hr3
            subst ho17
            replace hm : some (.inr (.inr (TFault.mk 9 x13))) = some r2 := hm3
            have ho18 := out_eq hm hr2
            subst ho18
            replace hm : some (TFault.mk 9 x13) = some r := hm2
            refine W_ret ?_
            refine KBlock_r ?_
            refine KThen_r ?_
            refine KLoopM_r ?_
            refine KBlock_r ?_
            refine KBlock_r ?_
            refine KJoinM_r ?_
            refine KLoopM_r ?_
            refine KBlock_r ?_
            refine KJoinM_r ?_
            refine KBody_ret [] ?_
            obtain rfl := Option.some.inj hm
            exact en
          ·rw [if_neg h13] at hm
           refine W_condf rfl (decide_eq_false h13) ?_
           refine W_exit ?_
           have ho19 := out_eq hm hr3
           subst ho19
           replace hm : sys_Check_j5 x13 = some r2 := hm3
           refine KThen_x ?_
           refine KLoopM_x ?_
           refine KBlock_hit ?_
           refine KBlock_n ?_
           refine KJoinM_n () () hm ?_
           exact ls
       ·rintro _ _ hm
        replace hm : sys_Check_j5 x13 = some r2 := hm
        refine W_eqm ?_
        unfold sys_Check_j5 at hm
        refine W_rn ?_
        refine KLoopM_n (IntKind.wrap .i64 (x13 + 1)) () hm ?_
        exact ls
      ·rw [if_neg h11] at hm
       refine W_condf rfl (decide_eq_false h11) ?_
       refine W_exit ?_
       have ho22 := out_eq hm hr2
       subst ho22
       replace hm : sys_Check_j3 p1 l6 = some r := hm2
       refine KThen_x ?_
       refine KLoopM_x ?_
       refine KBlock_hit ?_
       refine KJoinM_n () () hm ?_
       exact ls
    ·rintro _ _ hm
     replace hm : sys_Check_j3 p1 l6 = some r := hm
     refine W_eqm ?_
     unfold sys_Check_j3 at hm
     refine W_joinM (S := Unit) (V := Unit) [1, 5, 17, 94, 95, 96, 97, 98, 99, 100, 101, 102, 103, 104, 105, 106, 107] (fun _ _ => []) (fun _ _ => [.box [.tree 2 (p1.vars.map TVar.enc), .tree 1 (p1.in_.map (eK .i64)), .tree 1 (p1.out_.map (eK .i64)), .tree 6 (p1.rules.map TRule.enc)], .box [.int .i64 0, .int .i64 0], .box [.tree 2 (p1.vars.map TVar.enc), .tree 1 (p1.in_.map (eK .i64)), .tree 1 (p1.out_.map (eK .i64)), .tree 6 (p1.rules.map TRule.enc), .int .i64 x5], .box [.int .i64 ((y1).code), .int .i64 ((y1).at_)], .arr 1 0 4 (l6.map eB)]) (fun _ => sys_Check_j4 = some r) ?_ ?_
     ·skip
      refine W_rg [1, 94] ?_
      refine W_block ?_
      obtain ⟨o1, hl1, hm1⟩ := bd hm
      refine W_loopM (S := Int) (V := Unit) (O := Unit ⊕ TFault) [5, 17, 97, 98, 99, 100, 101, 102, 103, 104, 105, 106, 107] (fun x9 _ => [(5, .c (.osl 4 0 0 l6.length)), (97, .c (.int .i64 x9))]) (fun x9 _ => [.box [.tree 2 (p1.vars.map TVar.enc), .tree 1 (p1.in_.map (eK .i64)), .tree 1 (p1.out_.map (eK .i64)), .tree 6 (p1.rules.map TRule.enc)], .box [.int .i64 0, .int .i64 0], .box [.tree 2 (p1.vars.map TVar.enc), .tree 1 (p1.in_.map (eK .i64)), .tree 1 (p1.out_.map (eK .i64)), .tree 6 (p1.rules.map TRule.enc), .int .i64 x5], .box [.int .i64 ((y1).code), .int .i64 ((y1).at_)], .arr 1 0 4 (l6.map eB)]) _ _ () hl1 ?_ ?_
      ·exact ls
      ·rintro x9 _ r1 hm hr1
       replace hm : sys_Check_l1 p1 l6 x9 = some r1 := hm
       refine W_eqm ?_
       unfold sys_Check_l1 at hm
       refine W_rg [] ?_
       refine W_seq_k fun k2 hk2 => ?_
       by_cases h5 : x9 < (p1.out_.length : Int)
       ·rw [if_pos h5] at hm
        refine W_condt rfl (decide_eq_true h5) ?_
        refine W_skip ?_
        refine KThen_n (hk2 _ _ ?_)
        refine W_seq_k fun k3 hk3 => ?_
        refine W_block ?_
        obtain ⟨hg6a, hm⟩ := gd hm
        refine W_rgx (em (eK .i64) p1.out_ x9.toNat) [98, 99, 100] ?_
        obtain ⟨hg7a, hm⟩ := gd hm
        refine W_rgx (em eB l6 ((p1.out_.getD x9.toNat default).toNat)) [17, 101, 102, 103, 104] ?_
        by_cases h8 : (l6.getD ((p1.out_.getD x9.toNat default).toNat) default) = true
        ·rw [if_pos h8] at hm
         refine W_condf rfl (by rw [show (l6.getD ((p1.out_.getD x9.toNat default).toNat) default) = true from (h8)]; rfl) ?_
         refine W_skip ?_
         refine KBlock_n ?_
         refine KThen_n (hk3 _ _ ?_)
         refine W_rn ?_
         refine KLoopM_n (IntKind.wrap .i64 (x9 + 1)) () hm ?_
         exact ls
        ·rw [if_neg h8] at hm
         refine W_condt rfl (by rw [show (l6.getD ((p1.out_.getD x9.toNat default).toNat) default) = false from (Bool.eq_false_iff.2 h8)]; rfl) ?_
         refine W_rg [5, 95, 96, 97, 105, 106] ?_
         have ho9 := out_eq hm hr1
         subst ho9
         replace hm : some (TFault.mk 9 (-1)) = some r := hm1
         refine W_ret ?_
         refine KBlock_r ?_
         refine KThen_r ?_
         refine KLoopM_r ?_
         refine KBlock_r ?_
         refine KJoinM_r ?_
         refine KBody_ret [] ?_
         obtain rfl := Option.some.inj hm
         exact en
       ·rw [if_neg h5] at hm
        refine W_condf rfl (decide_eq_false h5) ?_
        refine W_exit ?_
        have ho10 := out_eq hm hr1
        subst ho10
        replace hm : sys_Check_j4 = some r := hm1
        refine KThen_x ?_
        refine KLoopM_x ?_
        refine KBlock_hit ?_
        refine KJoinM_n () () hm ?_
        exact ls
     ·rintro _ _ hm
      replace hm : sys_Check_j4 = some r := hm
      refine W_eqm ?_
      unfold sys_Check_j4 at hm
      refine W_rg [108] ?_
      refine W_ret ?_
      refine KBody_ret [] ?_
      obtain rfl := Option.some.inj hm
      exact en
end Pam

/- the walk of sys_divide, printed by a program of ours -/
namespace Pam
open Go Go.Proofs
set_option maxRecDepth 100000 in
set_option maxHeartbeats 1000000 in
theorem sys_divide_ok (p1 : Int) (p2 : Int) (p3 : Int) (r : Int) (hm : sys_divide p1 p2 p3 = some r) : SpecF Try.prog 94 [.c (.int .i64 p1), .c (.int .i64 p2), .c (.int .i64 p3)] (.c (.int .i64 r)) := by
 refine Spec_ofD 17 [.tmp 6] Try.func94 rfl rfl rfl (by kernel_rfl) (by simp) ?_
 refine W_eqf ?_
 unfold sys_divide at hm
 refine W_rg [6] ?_
 refine W_seq_k fun k1 hk1 => ?_
 refine W_rg [7] ?_
 by_cases h1 : p3 = 0
 ·rw [if_pos h1] at hm
  refine W_condt rfl (beq_iff_eq.2 h1) ?_
  refine W_rg [0, 1, 2, 8] ?_
  refine W_ret ?_
  refine KThen_r ?_
  refine KBody_ret [] ?_
  obtain rfl := Option.some.inj hm
  exact en
 ·rw [if_neg h1] at hm
  refine W_condf rfl (beq_eq_false_iff_ne.2 h1) ?_
  refine W_skip ?_
  refine KThen_n (hk1 _ _ ?_)
  refine W_seq_k fun k2 hk2 => ?_
  refine W_rg [0, 8, 9] ?_
  by_cases h2 : p1 = 4
  ·rw [if_pos h2] at hm
   refine W_condt rfl (beq_iff_eq.2 h2) ?_
   obtain ⟨hg3a, hm⟩ := gd hm
   refine W_rg [1, 2, 10, 11, 12, 13] ?_
   refine W_ret ?_
   refine KThen_r ?_
   refine KBody_ret [] ?_
   obtain rfl := Option.some.inj hm
   exact en
  ·rw [if_neg h2] at hm
   refine W_condf rfl (beq_eq_false_iff_ne.2 h2) ?_
   refine W_skip ?_
   refine KThen_n (hk2 _ _ ?_)
   obtain ⟨hg4a, hm⟩ := gd hm
   refine W_rg [1, 2, 10, 14, 15, 16] ?_
   refine W_ret ?_
   refine KBody_ret [] ?_
   obtain rfl := Option.some.inj hm
   exact en
end Pam

/- the walk of sys_truth, printed by a program of ours -/
namespace Pam
open Go Go.Proofs
set_option maxRecDepth 100000 in
set_option maxHeartbeats 1000000 in
theorem sys_truth_ok (p1 : Bool) (r : Int) (hm : sys_truth p1 = some r) : SpecF Try.prog 95 [.c (.bool p1)] (.c (.int .i64 r)) := by
 refine Spec_ofD 4 [.tmp 2] Try.func95 rfl rfl rfl (by kernel_rfl) (by simp) ?_
 refine W_eqf ?_
 unfold sys_truth at hm
 refine W_rg [2] ?_
 refine W_seq_k fun k1 hk1 => ?_
 refine W_rg [0] ?_
 by_cases h1 : p1 = true
 ·rw [if_pos h1] at hm
  refine W_condt rfl (h1) ?_
  refine W_rg [3] ?_
  refine W_ret ?_
  refine KThen_r ?_
  refine KBody_ret [] ?_
  obtain rfl := Option.some.inj hm
  exact en
 ·rw [if_neg h1] at hm
  refine W_condf rfl (Bool.eq_false_iff.2 h1) ?_
  refine W_skip ?_
  refine KThen_n (hk1 _ _ ?_)
  refine W_rg [3] ?_
  refine W_ret ?_
  refine KBody_ret [] ?_
  obtain rfl := Option.some.inj hm
  exact en
end Pam

/- the walk of sys_Apply, printed by a program of ours -/
namespace Pam
open Go Go.Proofs
set_option maxRecDepth 100000 in
set_option maxHeartbeats 8000000 in
theorem sys_Apply_ok (p1 : Int) (p2 : Int) (p3 : Int) (r : Int) (hm : sys_Apply p1 p2 p3 = some r) : SpecF Try.prog 39 [.c (.int .i64 p1), .c (.int .i64 p2), .c (.int .i64 p3)] (.c (.int .i64 r)) := by
 refine Spec_ofD 87 [.tmp 6] Try.func39 rfl rfl rfl (by kernel_rfl) (by simp) ?_
 refine W_eqf ?_
 unfold sys_Apply at hm
 refine W_rg [6] ?_
 refine W_seq_k fun k1 hk1 => ?_
 refine W_rg [] ?_
 refine W_block ?_
 refine W_rg [9] ?_
 by_cases h1 : p1 = 1
 ·rw [if_pos h1] at hm
  refine W_condt rfl (beq_iff_eq.2 h1) ?_
  refine W_rg [0, 1, 2, 7, 8, 10, 11, 12] ?_
  refine W_ret ?_
  refine KBlock_r ?_
  refine KThen_r ?_
  refine KBody_ret [] ?_
  obtain rfl := Option.some.inj hm
  exact en
 ·rw [if_neg h1] at hm
  refine W_condf rfl (beq_eq_false_iff_ne.2 h1) ?_
  refine W_rg [8, 14] ?_
  by_cases h2 : p1 = 2
  ·rw [if_pos h2] at hm
   refine W_condt rfl (beq_iff_eq.2 h2) ?_
   refine W_rg [0, 1, 2, 7, 13, 15, 16, 17] ?_
   refine W_ret ?_
   refine KBlock_r ?_
   refine KThen_r ?_
   refine KBody_ret [] ?_
   obtain rfl := Option.some.inj hm
   exact en
  ·rw [if_neg h2] at hm
   refine W_condf rfl (beq_eq_false_iff_ne.2 h2) ?_
   refine W_rg [13, 19] ?_
   by_cases h3 : p1 = 3
   ·rw [if_pos h3] at hm
    refine W_condt rfl (beq_iff_eq.2 h3) ?_
    refine W_rg [0, 1, 2, 7, 18, 20, 21, 22] ?_
    refine W_ret ?_
    refine KBlock_r ?_
    refine KThen_r ?_
    refine KBody_ret [] ?_
    obtain rfl := Option.some.inj hm
    exact en
   ·rw [if_neg h3] at hm
    refine W_condf rfl (beq_eq_false_iff_ne.2 h3) ?_
    refine W_joinM (S := Bool) (V := Unit) [18, 23, 24, 25] (fun b1 _ => [(23, .c (.bool b1))]) (fun b1 _ => []) (fun b1 => sys_Apply_j1 p1 p2 p3 b1 = some r) ?_ ?_
    ·skip
     refine W_rg [18, 24] ?_
     by_cases h25 : p1 = 4
     ·rw [if_pos h25] at hm
      refine W_condt rfl (beq_iff_eq.2 h25) ?_
      refine W_skip ?_
      refine KJoinM_n (p1 == 4) () hm ?_
      exact ls
     ·rw [if_neg h25] at hm
      refine W_condf rfl (beq_eq_false_iff_ne.2 h25) ?_
      refine W_rn ?_
      refine KJoinM_n (p1 == 5) () hm ?_
      exact ls
    ·rintro b1 _ hm
     replace hm : sys_Apply_j1 p1 p2 p3 b1 = some r := hm
     refine W_eqm ?_
     unfold sys_Apply_j1 at hm
     by_cases h4 : b1 = true
     ·rw [if_pos h4] at hm
      refine W_condt rfl (h4) ?_
      refine W_regF [0, 1, 2, 7, 23, 26, 27, 28, 29] fun k kp hk hp => ?_
      refine go ?_
      obtain ⟨y2, hc5, hm⟩ := bd hm
      refine RP (fun _ => sys_divide_ok p1 p2 p3 _ hc5) ?_
      refine RunRest_ops ?_
      refine go ?_
      refine hk _ _ ?_
      clear hk hp k kp
      refine W_ret ?_
      refine KBlock_r ?_
      refine KThen_r ?_
      refine KBody_ret [] ?_
      obtain rfl := Option.some.inj hm
      exact en
     ·rw [if_neg h4] at hm
      refine W_condf rfl (Bool.eq_false_iff.2 h4) ?_
      refine W_rg [0, 23, 31] ?_
      by_cases h6 : p1 = 6
      ·rw [if_pos h6] at hm
       refine W_condt rfl (beq_iff_eq.2 h6) ?_
       refine W_rg [1, 2, 7, 30, 32, 33, 34] ?_
       refine W_ret ?_
       refine KBlock_r ?_
       refine KThen_r ?_
       refine KBody_ret [] ?_
       obtain rfl := Option.some.inj hm
       exact en
      ·rw [if_neg h6] at hm
       refine W_condf rfl (beq_eq_false_iff_ne.2 h6) ?_
       refine W_rg [30, 36] ?_
       by_cases h7 : p1 = 7
       ·rw [if_pos h7] at hm
        refine W_condt rfl (beq_iff_eq.2 h7) ?_
        refine W_rg [1, 2, 7, 35, 37, 38, 39] ?_
        refine W_ret ?_
        refine KBlock_r ?_
        refine KThen_r ?_
        refine KBody_ret [] ?_
        obtain rfl := Option.some.inj hm
        exact en
       ·rw [if_neg h7] at hm
        refine W_condf rfl (beq_eq_false_iff_ne.2 h7) ?_
        refine W_rg [35, 41] ?_
        by_cases h8 : p1 = 8
        ·rw [if_pos h8] at hm
         refine W_condt rfl (beq_iff_eq.2 h8) ?_
         refine W_regF [1, 2, 7, 40, 42, 43, 44, 45] fun k kp hk hp => ?_
         refine go ?_
         obtain ⟨y3, hc9, hm⟩ := bd hm
         refine RP (fun _ => sys_truth_ok (decide (p2 < p3)) _ hc9) ?_
         refine RunRest_ops ?_
         refine go ?_
         refine hk _ _ ?_
         clear hk hp k kp
         refine W_ret ?_
         refine KBlock_r ?_
         refine KThen_r ?_
         refine KBody_ret [] ?_
         obtain rfl := Option.some.inj hm
         exact en
        ·rw [if_neg h8] at hm
         refine W_condf rfl (beq_eq_false_iff_ne.2 h8) ?_
         refine W_rg [40, 47] ?_
         by_cases h10 : p1 = 9
         ·rw [if_pos h10] at hm
          refine W_condt rfl (beq_iff_eq.2 h10) ?_
          refine W_regF [1, 2, 7, 46, 48, 49, 50, 51] fun k kp hk hp => ?_
          refine go ?_
          obtain ⟨y4, hc11, hm⟩ := bd hm
          refine RP (fun _ => sys_truth_ok (p2 == p3) _ hc11) ?_
          refine RunRest_ops ?_
          refine go ?_
          refine hk _ _ ?_
          clear hk hp k kp
          refine W_ret ?_
          refine KBlock_r ?_
          refine KThen_r ?_
          refine KBody_ret [] ?_
          obtain rfl := Option.some.inj hm
          exact en
         ·rw [if_neg h10] at hm
          refine W_condf rfl (beq_eq_false_iff_ne.2 h10) ?_
          refine W_rg [46, 53] ?_
          by_cases h12 : p1 = 10
          ·rw [if_pos h12] at hm
           refine W_condt rfl (beq_iff_eq.2 h12) ?_
           by_cases h13 : ¬ p2 = 0
           ·rw [if_pos h13] at hm
            have h13b : (p2 != 0) = true := bne_iff_ne.2 h13
            refine W_regF [1, 2, 7, 52, 54, 55, 56, 57, 58, 59, 60] fun k kp hk hp => ?_
            refine gox h13b ?_
            obtain ⟨y5, hc14, hm⟩ := bd hm
            refine RP (fun _ => sys_truth_ok (p3 != 0) _ hc14) ?_
            refine RunRest_ops ?_
            refine gox h13b ?_
            refine hk _ _ ?_
            clear hk hp k kp
            refine W_ret ?_
            refine KBlock_r ?_
            refine KThen_r ?_
            refine KBody_ret [] ?_
            obtain rfl := Option.some.inj hm
            exact en
           ·rw [if_neg h13] at hm
            have h13b : (p2 != 0) = false := bne_eq_false_iff_eq.2 (Decidable.not_not.1 h13)
            refine W_regF [1, 2, 7, 52, 54, 55, 56, 57, 58, 59, 60] fun k kp hk hp => ?_
            refine gox h13b ?_
            obtain ⟨y6, hc15, hm⟩ := bd hm
            refine RP (fun _ => sys_truth_ok false _ hc15) ?_
            refine RunRest_ops ?_
            refine gox h13b ?_
            refine hk _ _ ?_
            clear hk hp k kp
            refine W_ret ?_
            refine KBlock_r ?_
            refine KThen_r ?_
            refine KBody_ret [] ?_
            obtain rfl := Option.some.inj hm
            exact en
          ·rw [if_neg h12] at hm
           refine W_condf rfl (beq_eq_false_iff_ne.2 h12) ?_
           refine W_rg [52, 62] ?_
           by_cases h16 : p1 = 11
           ·rw [if_pos h16] at hm
            refine W_condt rfl (beq_iff_eq.2 h16) ?_
            by_cases h17 : ¬ p2 = 0
            ·rw [if_pos h17] at hm
             have h17b : (p2 != 0) = true := bne_iff_ne.2 h17
             refine W_regF [1, 2, 7, 61, 63, 64, 65, 66, 67, 68, 69] fun k kp hk hp => ?_
             refine gox h17b ?_
             obtain ⟨y7, hc18, hm⟩ := bd hm
             refine RP (fun _ => sys_truth_ok true _ hc18) ?_
             refine RunRest_ops ?_
             refine gox h17b ?_
             refine hk _ _ ?_
             clear hk hp k kp
             refine W_ret ?_
             refine KBlock_r ?_
             refine KThen_r ?_
             refine KBody_ret [] ?_
             obtain rfl := Option.some.inj hm
             exact en
            ·rw [if_neg h17] at hm
             have h17b : (p2 != 0) = false := bne_eq_false_iff_eq.2 (Decidable.not_not.1 h17)
             refine W_regF [1, 2, 7, 61, 63, 64, 65, 66, 67, 68, 69] fun k kp hk hp => ?_
             refine gox h17b ?_
             obtain ⟨y8, hc19, hm⟩ := bd hm
             refine RP (fun _ => sys_truth_ok (p3 != 0) _ hc19) ?_
             refine RunRest_ops ?_
             refine gox h17b ?_
             refine hk _ _ ?_
             clear hk hp k kp
             refine W_ret ?_
             refine KBlock_r ?_
             refine KThen_r ?_
             refine KBody_ret [] ?_
             obtain rfl := Option.some.inj hm
             exact en
           ·rw [if_neg h16] at hm
            refine W_condf rfl (beq_eq_false_iff_ne.2 h16) ?_
            refine W_rg [61, 71] ?_
            by_cases h20 : p1 = 12
            ·rw [if_pos h20] at hm
             refine W_condt rfl (beq_iff_eq.2 h20) ?_
             refine W_regF [1, 2, 7, 70, 72, 73, 74, 75, 76, 77] fun k kp hk hp => ?_
             refine go ?_
             obtain ⟨y9, hc21, hm⟩ := bd hm
             refine RP (fun _ => sys_truth_ok (!((p2 != 0) == (p3 != 0))) _ hc21) ?_
             refine RunRest_ops ?_
             refine go ?_
             refine hk _ _ ?_
             clear hk hp k kp
             refine W_ret ?_
             refine KBlock_r ?_
             refine KThen_r ?_
             refine KBody_ret [] ?_
             obtain rfl := Option.some.inj hm
             exact en
            ·rw [if_neg h20] at hm
             refine W_condf rfl (beq_eq_false_iff_ne.2 h20) ?_
             refine W_rg [2, 70, 79] ?_
             by_cases h22 : p1 = 13
             ·rw [if_pos h22] at hm
              refine W_condt rfl (beq_iff_eq.2 h22) ?_
              refine W_rg [1, 7, 78, 80, 81] ?_
              refine W_ret ?_
              refine KBlock_r ?_
              refine KThen_r ?_
              refine KBody_ret [] ?_
              obtain rfl := Option.some.inj hm
              exact en
             ·rw [if_neg h22] at hm
              refine W_condf rfl (beq_eq_false_iff_ne.2 h22) ?_
              refine W_rg [7, 78, 83] ?_
              by_cases h23 : p1 = 14
              ·rw [if_pos h23] at hm
               refine W_condt rfl (beq_iff_eq.2 h23) ?_
               refine W_regF [1, 82, 84, 85, 86] fun k kp hk hp => ?_
               refine go ?_
               obtain ⟨y10, hc24, hm⟩ := bd hm
               refine RP (fun _ => sys_truth_ok (p2 == 0) _ hc24) ?_
               refine RunRest_ops ?_
               refine go ?_
               refine hk _ _ ?_
               clear hk hp k kp
               refine W_ret ?_
               refine KBlock_r ?_
               refine KThen_r ?_
               refine KBody_ret [] ?_
               obtain rfl := Option.some.inj hm
               exact en
              ·rw [if_neg h23] at hm
               refine W_condf rfl (beq_eq_false_iff_ne.2 h23) ?_
               refine W_skip ?_
               refine KBlock_n ?_
               refine KThen_n (hk1 _ _ ?_)
               refine W_rg [1, 82] ?_
               refine W_ret ?_
               refine KBody_ret [] ?_
               obtain rfl := Option.some.inj hm
               exact en
end Pam

/- the walk of ref_SameInts, printed by a program of ours -/
namespace Pam
open Go Go.Proofs
set_option maxRecDepth 100000 in
set_option maxHeartbeats 1000000 in
theorem ref_SameInts_ok (p1 : List Int) (p2 : List Int) (r : Bool) (hm : ref_SameInts p1 p2 = some r) : SpecF Try.prog 22 [.c (.tree 1 (p1.map (eK .i64))), .c (.tree 1 (p2.map (eK .i64)))] (.c (.bool r)) := by
 refine Spec_ofD 26 [.tmp 4] Try.func22 rfl rfl rfl (by kernel_rfl) (by simp) ?_
 refine W_eqf ?_
 unfold ref_SameInts at hm
 refine W_rg [4] ?_
 refine W_seq_k fun k1 hk1 => ?_
 refine W_rg [6, 7, 8, 9] ?_
 by_cases h1 : ¬ (p1.length : Int) = (p2.length : Int)
 ·rw [if_pos h1] at hm
  refine W_condt rfl (bne_iff_ne.2 h1) ?_
  refine W_rg [0, 1, 10] ?_
  refine W_ret ?_
  refine KThen_r ?_
  refine KBody_ret [] ?_
  obtain rfl := Option.some.inj hm
  exact en
 ·rw [if_neg h1] at hm
  refine W_condf rfl (bne_eq_false_iff_eq.2 (Decidable.not_not.1 h1)) ?_
  refine W_skip ?_
  refine KThen_n (hk1 _ _ ?_)
  refine W_joinM (S := Unit) (V := Unit) [0, 1, 4, 5, 10, 11, 12, 13, 14, 15, 16, 17, 18, 19, 20, 21, 22, 23, 24, 25] (fun _ _ => []) (fun _ _ => []) (fun _ => ref_SameInts_j1 = some r) ?_ ?_
  ·skip
   refine W_rg [10] ?_
   refine W_block ?_
   obtain ⟨o1, hl1, hm1⟩ := bd hm
   refine W_loopM (S := Int) (V := Unit) (O := Unit ⊕ Bool) [4, 5, 11, 12, 13, 14, 15, 16, 17, 18, 19, 20, 21, 22, 23, 24, 25] (fun x3 _ => [(5, .c (.int .i64 x3))]) (fun x3 _ => []) _ _ () hl1 ?_ ?_
   ·exact ls
   ·rintro x3 _ r1 hm hr1
    replace hm : ref_SameInts_l1 p1 p2 x3 = some r1 := hm
    refine W_eqm ?_
    unfold ref_SameInts_l1 at hm
    refine W_seq_k fun k2 hk2 => ?_
    refine W_rg [11, 12, 13] ?_
    by_cases h2 : x3 < (p1.length : Int)
    ·rw [if_pos h2] at hm
     refine W_condt rfl (decide_eq_true h2) ?_
     refine W_skip ?_
     refine KThen_n (hk2 _ _ ?_)
     refine W_seq_k fun k3 hk3 => ?_
     refine W_block ?_
     obtain ⟨⟨hg3a, hg3b⟩, hm⟩ := gd hm
     refine W_agx (a2 (em (eK .i64) p1 x3.toNat) (em (eK .i64) p2 x3.toNat)) [14, 17, 18, 19, 20, 21, 22, 23, 24] [0, 0, 3, 7, 0, 0, 48, 112, 255] [false, false, false, false, false, false, false, false, true] ?_
     by_cases h4 : ¬ (p1.getD x3.toNat default) = (p2.getD x3.toNat default)
     ·rw [if_pos h4] at hm
      refine W_condt rfl (bne_iff_ne.2 h4) ?_
      refine W_rg [0, 1, 5, 25] ?_
      have ho5 := out_eq hm hr1
      subst ho5
      replace hm : some false = some r := hm1
      refine W_ret ?_
      refine KBlock_r ?_
      refine KThen_r ?_
      refine KLoopM_r ?_
      refine KBlock_r ?_
      refine KJoinM_r ?_
      refine KBody_ret [] ?_
      obtain rfl := Option.some.inj hm
      exact en
     ·rw [if_neg h4] at hm
      refine W_condf rfl (bne_eq_false_iff_eq.2 (Decidable.not_not.1 h4)) ?_
      refine W_skip ?_
      refine KBlock_n ?_
      refine KThen_n (hk3 _ _ ?_)
      refine W_rn ?_
      refine KLoopM_n (IntKind.wrap .i64 (x3 + 1)) () hm ?_
      exact ls
    ·rw [if_neg h2] at hm
     refine W_condf rfl (decide_eq_false h2) ?_
     refine W_exit ?_
     have ho6 := out_eq hm hr1
     subst ho6
     replace hm : ref_SameInts_j1 = some r := hm1
     refine KThen_x ?_
     refine KLoopM_x ?_
     refine KBlock_hit ?_
     refine KJoinM_n () () hm ?_
     exact ls
  ·rintro _ _ hm
   replace hm : ref_SameInts_j1 = some r := hm
   refine W_eqm ?_
   unfold ref_SameInts_j1 at hm
   refine W_rg [] ?_
   refine W_ret ?_
   refine KBody_ret [] ?_
   obtain rfl := Option.some.inj hm
   exact en
end Pam

/- the walk of law_sysBegun, printed by a program of ours -/
namespace Pam
open Go Go.Proofs
set_option maxRecDepth 100000 in
set_option maxHeartbeats 1000000 in
theorem law_sysBegun_ok (r : Bool) (hm : law_sysBegun  = some r) : SpecF Try.prog 31 [] (.c (.bool r)) := by
 refine Spec_ofD 20 [.tmp 0] Try.func31 rfl rfl rfl (by kernel_rfl) (by simp) ?_
 refine W_eqf ?_
 unfold law_sysBegun at hm
 refine W_rg [0] ?_
 refine W_regF [1, 2, 3, 4, 5, 6, 7, 8, 9, 10, 11, 12, 13, 14, 15, 16, 17, 18, 19] fun k kp hk hp => ?_
 refine go ?_
 obtain ⟨y1, hc1, hm⟩ := bd hm
 refine RP (fun _ => sys_Apply_ok 4 (-7) 2 _ hc1) ?_
 by_cases h2 : y1 = (-3)
 ·rw [if_pos h2] at hm
  have h2b : (y1 == (-3)) = true := beq_iff_eq.2 h2
  refine RunRest_ops ?_
  refine gox h2b ?_
  refine RunCall_turn (Ghost_fr 0 rfl) ?_
  simp only [bR, bT, tab, bX, reduceIte, ↓reduceIte, reduceCtorEq, Int.reduceToNat, Nat.reduceDiv, Nat.reduceMod, Nat.reduceLT, Nat.reduceLeDiff, Nat.reduceAdd, Nat.reduceSub, Nat.reduceMul, Nat.reduceEqDiff, Nat.reduceBEq, Nat.reduceBNe, Nat.reduceGT, bZ, List.replicate, List.foldr, h2b]
  repeat refine ⟨by first | omega | assumption | decide | exact all_len fun _ => rfl | (intro _; omega) | rfl | exact fun e => absurd (List.map_eq_nil_iff.1 e) (by assumption) | (and_intros <;> first | omega | assumption | decide | exact all_len fun _ => rfl), ?_⟩
  refine RunCall_turn (Ghost_fr 1 rfl) ?_
  simp only [bR, bT, tab, bX, reduceIte, ↓reduceIte, reduceCtorEq, Int.reduceToNat, Nat.reduceDiv, Nat.reduceMod, Nat.reduceLT, Nat.reduceLeDiff, Nat.reduceAdd, Nat.reduceSub, Nat.reduceMul, Nat.reduceEqDiff, Nat.reduceBEq, Nat.reduceBNe, Nat.reduceGT, bZ, List.replicate, List.foldr, h2b]
  repeat refine ⟨by first | omega | assumption | decide | exact all_len fun _ => rfl | (intro _; omega) | rfl | exact fun e => absurd (List.map_eq_nil_iff.1 e) (by assumption) | (and_intros <;> first | omega | assumption | decide | exact all_len fun _ => rfl), ?_⟩
  obtain ⟨y2, hc3, hm⟩ := bd hm
  refine RP (fun _ => sys_Uses_ok (TRule.mk 14 0 0 0 (lit ([4] : List Int)) (lit ([(TPush.mk 3 0 3 0), (TPush.mk 1 0 9 0)] : List TPush))) _ hc3) ?_
  refine RunRest_ops ?_
  refine gox h2b ?_
  refine RunCall_turn (Ghost_fr 2 rfl) ?_
  simp only [bR, bT, tab, bX, reduceIte, ↓reduceIte, reduceCtorEq, Int.reduceToNat, Nat.reduceDiv, Nat.reduceMod, Nat.reduceLT, Nat.reduceLeDiff, Nat.reduceAdd, Nat.reduceSub, Nat.reduceMul, Nat.reduceEqDiff, Nat.reduceBEq, Nat.reduceBNe, Nat.reduceGT, bZ, List.replicate, List.foldr, h2b]
  repeat refine ⟨by first | omega | assumption | decide | exact all_len fun _ => rfl | (intro _; omega) | rfl | exact fun e => absurd (List.map_eq_nil_iff.1 e) (by assumption) | (and_intros <;> first | omega | assumption | decide | exact all_len fun _ => rfl), ?_⟩
  obtain ⟨y3, hc4, hm⟩ := bd hm
  refine RP (fun _ => ref_SameInts_ok y2 (lit ([3, 4] : List Int)) _ hc4) ?_
  by_cases h5 : y3 = true
  ·rw [if_pos h5] at hm
   have h5b : y3 = true := h5
   refine RunRest_ops ?_
   refine gox (a2 h2b h5b) ?_
   refine RunCall_turn (Ghost_ntS 15 (.a [.tree 2 ([].map TVar.enc), .tree 1 ([].map (eK .i64)), .osl 3 0 0 1, .tree 6 ([].map TRule.enc)]) rfl (by and_intros <;> trivial)) ?_
   refine gox (a2 h2b h5b) ?_
   refine RunCall_turn (Ghost_fr 3 rfl) ?_
   simp only [bR, bT, tab, bX, reduceIte, ↓reduceIte, reduceCtorEq, Int.reduceToNat, Nat.reduceDiv, Nat.reduceMod, Nat.reduceLT, Nat.reduceLeDiff, Nat.reduceAdd, Nat.reduceSub, Nat.reduceMul, Nat.reduceEqDiff, Nat.reduceBEq, Nat.reduceBNe, Nat.reduceGT, bZ, List.replicate, List.foldr, h2b, h5b]
   repeat refine ⟨by first | omega | assumption | decide | exact all_len fun _ => rfl | (intro _; omega) | rfl | exact fun e => absurd (List.map_eq_nil_iff.1 e) (by assumption) | (and_intros <;> first | omega | assumption | decide | exact all_len fun _ => rfl), ?_⟩
   obtain ⟨y4, hc6, hm⟩ := bd hm
   refine RP (fun _ => sys_Check_ok (TSystem.mk [] [] (lit ([0] : List Int)) []) _ hc6) ?_
   refine RunRest_ops ?_
   refine gox (a2 h2b h5b) ?_
   refine hk _ _ ?_
   clear hk hp k kp
   refine W_ret ?_
   refine KBody_ret [] ?_
   obtain rfl := Option.some.inj hm
   exact en
  ·rw [if_neg h5] at hm
   have h5b : y3 = false := Bool.eq_false_iff.2 h5
   refine RunRest_ops ?_
   refine gox (a2 h2b h5b) ?_
   refine hk _ _ ?_
   clear hk hp k kp
   refine W_ret ?_
   refine KBody_ret [] ?_
   obtain rfl := Option.some.inj hm
   exact en
 ·rw [if_neg h2] at hm
  have h2b : (y1 == (-3)) = false := beq_eq_false_iff_ne.2 h2
  refine RunRest_ops ?_
  refine gox h2b ?_
  refine hk _ _ ?_
  clear hk hp k kp
  refine W_ret ?_
  refine KBody_ret [] ?_
  obtain rfl := Option.some.inj hm
  exact en
end Pam

/- the walk of ref_Cells, printed by a program of ours -/
namespace Pam
open Go Go.Proofs
set_option maxRecDepth 100000 in
set_option maxHeartbeats 1000000 in
theorem ref_Cells_ok (p1 : Int) (r : Int) (hm : ref_Cells p1 = some r) : SpecF Try.prog 60 [.c (.int .i64 p1)] (.c (.int .i64 r)) := by
 refine Spec_ofD 6 [.tmp 2] Try.func60 rfl rfl rfl (by kernel_rfl) (by simp) ?_
 refine W_eqf ?_
 unfold ref_Cells at hm
 refine W_rg [2] ?_
 refine W_seq_k fun k1 hk1 => ?_
 refine W_rg [3] ?_
 by_cases h1 : p1 < 1
 ·rw [if_pos h1] at hm
  refine W_condt rfl (decide_eq_true h1) ?_
  refine W_rg [0, 4] ?_
  refine W_ret ?_
  refine KThen_r ?_
  refine KBody_ret [] ?_
  obtain rfl := Option.some.inj hm
  exact en
 ·rw [if_neg h1] at hm
  refine W_condf rfl (decide_eq_false h1) ?_
  refine W_skip ?_
  refine KThen_n (hk1 _ _ ?_)
  refine W_rg [0, 4, 5] ?_
  refine W_ret ?_
  refine KBody_ret [] ?_
  obtain rfl := Option.some.inj hm
  exact en
end Pam

/- the walk of ref_GreatSystem, printed by a program of ours -/
namespace Pam
open Go Go.Proofs
set_option maxRecDepth 100000 in
set_option maxHeartbeats 8000000 in
theorem ref_GreatSystem_ok (p1 : TSystem) (p2 : Int) (r : Bool) (hm : ref_GreatSystem p1 p2 = some r) : SpecF Try.prog 32 [.a [.tree 2 (p1.vars.map TVar.enc), .tree 1 (p1.in_.map (eK .i64)), .tree 1 (p1.out_.map (eK .i64)), .tree 6 (p1.rules.map TRule.enc)], .c (.int .i64 p2)] (.c (.bool r)) := by
 refine Spec_ofD 103 [.tmp 4] Try.func32 rfl rfl rfl (by kernel_rfl) (by simp) ?_
 refine W_eqf ?_
 unfold ref_GreatSystem at hm
 refine W_rg [0, 4] ?_
 refine W_seq_k fun k1 hk1 => ?_
 refine W_regG [9, 10, 11, 12, 13, 14, 15, 16, 17, 18, 19, 20, 21, 22, 23, 24, 25, 26, 27, 28, 29, 30, 31, 32, 33] fun k kp hk hp => ?_
 refine RunRest_cut 6 ?_
 refine go ?_
 by_cases h1 : (p1.vars.length : Int) > p2
 ·rw [if_pos h1] at hm
  have h1b : decide ((p1.vars.length : Int) > p2) = true := decide_eq_true h1
  refine RunRest_ops ?_
  refine gox h1b ?_
  refine hk _ _ ?_
  clear hk hp k kp
  refine W_condt rfl rfl ?_
  refine W_rg [1, 2, 34] ?_
  refine W_ret ?_
  refine KThen_r ?_
  refine KBody_ret [] ?_
  obtain rfl := Option.some.inj hm
  exact en
 ·rw [if_neg h1] at hm
  have h1b : decide ((p1.vars.length : Int) > p2) = false := decide_eq_false h1
  refine RunRest_cut 7 ?_
  refine gox h1b ?_
  by_cases h2 : (p1.rules.length : Int) > p2
  ·rw [if_pos h2] at hm
   have h2b : decide ((p1.rules.length : Int) > p2) = true := decide_eq_true h2
   refine RunRest_ops ?_
   refine gox (a2 h1b h2b) ?_
   refine hk _ _ ?_
   clear hk hp k kp
   refine W_condt rfl rfl ?_
   refine W_rg [1, 2, 34] ?_
   refine W_ret ?_
   refine KThen_r ?_
   refine KBody_ret [] ?_
   obtain rfl := Option.some.inj hm
   exact en
  ·rw [if_neg h2] at hm
   have h2b : decide ((p1.rules.length : Int) > p2) = false := decide_eq_false h2
   refine RunRest_cut 7 ?_
   refine gox (a2 h1b h2b) ?_
   by_cases h3 : (p1.in_.length : Int) > p2
   ·rw [if_pos h3] at hm
    have h3b : decide ((p1.in_.length : Int) > p2) = true := decide_eq_true h3
    refine RunRest_ops ?_
    refine gox (a2 h1b (a2 h2b h3b)) ?_
    refine hk _ _ ?_
    clear hk hp k kp
    refine W_condt rfl rfl ?_
    refine W_rg [1, 2, 34] ?_
    refine W_ret ?_
    refine KThen_r ?_
    refine KBody_ret [] ?_
    obtain rfl := Option.some.inj hm
    exact en
   ·rw [if_neg h3] at hm
    have h3b : decide ((p1.in_.length : Int) > p2) = false := decide_eq_false h3
    refine RunRest_ops ?_
    refine gox (a2 h1b (a2 h2b h3b)) ?_
    refine hk _ _ ?_
    clear hk hp k kp
    by_cases h4 : (p1.out_.length : Int) > p2
    ·rw [if_pos h4] at hm
     refine W_condt rfl (decide_eq_true h4) ?_
     refine W_rg [1, 2, 34] ?_
     refine W_ret ?_
     refine KThen_r ?_
     refine KBody_ret [] ?_
     obtain rfl := Option.some.inj hm
     exact en
    ·rw [if_neg h4] at hm
     refine W_condf rfl (decide_eq_false h4) ?_
     refine W_skip ?_
     refine KThen_n (hk1 _ _ ?_)
     refine W_rg [34] ?_
     refine W_joinM (S := Int) (V := Unit) [4, 5, 6, 35, 36, 37, 38, 39, 40, 41, 42, 43, 44, 45, 46, 47, 48, 49, 50, 51, 52, 53, 54, 55, 56, 57] (fun x1 _ => [(5, .c (.int .i64 x1))]) (fun x1 _ => [.box [.tree 2 (p1.vars.map TVar.enc), .tree 1 (p1.in_.map (eK .i64)), .tree 1 (p1.out_.map (eK .i64)), .tree 6 (p1.rules.map TRule.enc)]]) (fun x1 => ref_GreatSystem_j1 p1 p2 x1 = some r) ?_ ?_
     ·skip
      refine W_rg [] ?_
      refine W_block ?_
      obtain ⟨o2, hl2, hm2⟩ := bd hm
      refine W_loopM (S := (Int × Int)) (V := Unit) (O := Int ⊕ Bool) [4, 5, 6, 35, 36, 37, 38, 39, 40, 41, 42, 43, 44, 45, 46, 47, 48, 49, 50, 51, 52, 53, 54, 55, 56, 57] (fun (x15, x16) _ => [(5, .c (.int .i64 x15)), (6, .c (.int .i64 x16))]) (fun (x15, x16) _ => [.box [.tree 2 (p1.vars.map TVar.enc), .tree 1 (p1.in_.map (eK .i64)), .tree 1 (p1.out_.map (eK .i64)), .tree 6 (p1.rules.map TRule.enc)]]) _ _ () hl2 ?_ ?_
      ·exact ls
      ·rintro ⟨x15, x16⟩ _ r2 hm hr2
       replace hm : ref_GreatSystem_l2 p1 x15 x16 = some r2 := hm
       refine W_eqm ?_
       unfold ref_GreatSystem_l2 at hm
       refine W_seq_k fun k4 hk4 => ?_
       refine W_rg [35, 36, 37, 38] ?_
       by_cases h15 : x16 < (p1.vars.length : Int)
       ·rw [if_pos h15] at hm
        refine W_condt rfl (decide_eq_true h15) ?_
        refine W_skip ?_
        refine KThen_n (hk4 _ _ ?_)
        refine W_seq_k fun k5 hk5 => ?_
        refine W_block ?_
        refine W_seq_k fun k6 hk6 => ?_
        obtain ⟨hg16a, hm⟩ := gd hm
        refine W_rgx (em TVar.enc p1.vars x16.toNat) [39, 42, 43, 44, 45, 46, 47] ?_
        by_cases h17 : ((p1.vars.getD x16.toNat default).n) > 1000
        ·rw [if_pos h17] at hm
         refine W_condt rfl (decide_eq_true h17) ?_
         refine W_rg [1, 2, 5, 6, 48] ?_
         have ho18 := out_eq hm hr2
         subst ho18
         replace hm : some true = some r := hm2
         refine W_ret ?_
         refine KThen_r ?_
         refine KBlock_r ?_
         refine KThen_r ?_
         refine KLoopM_r ?_
         refine KBlock_r ?_
         refine KJoinM_r ?_
         refine KBody_ret [] ?_
         obtain rfl := Option.some.inj hm
         exact en
        ·rw [if_neg h17] at hm
         refine W_condf rfl (decide_eq_false h17) ?_
         refine W_skip ?_
         refine KThen_n (hk6 _ _ ?_)
         refine W_region fun k kp hk hp => ?_
         refine gox (em TVar.enc p1.vars x16.toNat) ?_
         obtain ⟨y17, hc19, hm⟩ := bd hm
         refine RP (fun _ => ref_Cells_ok ((p1.vars.getD x16.toNat default).n) _ hc19) ?_
         refine RunRest_ops ?_
         refine go ?_
         refine hk _ _ ?_
         clear hk hp k kp
         refine KBlock_n ?_
         refine KThen_n (hk5 _ _ ?_)
         refine W_rn ?_
         refine KLoopM_n ((IntKind.wrap .i64 (x15 + y17)), (IntKind.wrap .i64 (x16 + 1))) () hm ?_
         exact ls
       ·rw [if_neg h15] at hm
        refine W_condf rfl (decide_eq_false h15) ?_
        refine W_exit ?_
        have ho20 := out_eq hm hr2
        subst ho20
        replace hm : ref_GreatSystem_j1 p1 p2 x15 = some r := hm2
        refine KThen_x ?_
        refine KLoopM_x ?_
        refine KBlock_hit ?_
        refine KJoinM_n x15 () hm ?_
        exact ls
     ·rintro x1 _ hm
      replace hm : ref_GreatSystem_j1 p1 p2 x1 = some r := hm
      refine W_eqm ?_
      unfold ref_GreatSystem_j1 at hm
      refine W_joinM (S := Int) (V := Unit) [2, 4, 5, 7, 8, 58, 59, 60, 61, 62, 63, 64, 65, 66, 67, 68, 69, 70, 71, 72, 73, 74, 75, 76, 77, 78, 79, 80, 81, 82, 83, 84, 85, 86, 87, 88, 89, 90, 91, 92, 93, 94, 95, 96, 97, 98] (fun x2 _ => [(5, .c (.int .i64 x2))]) (fun x2 _ => [.box [.tree 2 (p1.vars.map TVar.enc), .tree 1 (p1.in_.map (eK .i64)), .tree 1 (p1.out_.map (eK .i64)), .tree 6 (p1.rules.map TRule.enc)]]) (fun x2 => ref_GreatSystem_j2 p2 x2 = some r) ?_ ?_
      ·skip
       refine W_rg [] ?_
       refine W_block ?_
       obtain ⟨o1, hl1, hm1⟩ := bd hm
       refine W_loopM (S := (Int × Int)) (V := Unit) (O := Int ⊕ Bool) [4, 5, 7, 8, 58, 59, 60, 61, 62, 63, 64, 65, 66, 67, 68, 69, 70, 71, 72, 73, 74, 75, 76, 77, 78, 79, 80, 81, 82, 83, 84, 85, 86, 87, 88, 89, 90, 91, 92, 93, 94, 95, 96, 97, 98] (fun (x7, x8) _ => [(5, .c (.int .i64 x7)), (7, .c (.int .i64 x8))]) (fun (x7, x8) _ => [.box [.tree 2 (p1.vars.map TVar.enc), .tree 1 (p1.in_.map (eK .i64)), .tree 1 (p1.out_.map (eK .i64)), .tree 6 (p1.rules.map TRule.enc)]]) _ _ () hl1 ?_ ?_
       ·exact ls
       ·rintro ⟨x7, x8⟩ _ r1 hm hr1
        replace hm : ref_GreatSystem_l1 p1 x7 x8 = some r1 := hm
        refine W_eqm ?_
        unfold ref_GreatSystem_l1 at hm
        refine W_seq_k fun k2 hk2 => ?_
        refine W_rg [58, 59, 60, 61] ?_
        by_cases h5 : x8 < (p1.rules.length : Int)
        ·rw [if_pos h5] at hm
         refine W_condt rfl (decide_eq_true h5) ?_
         refine W_skip ?_
         refine KThen_n (hk2 _ _ ?_)
         refine W_seq_k fun k3 hk3 => ?_
         refine W_block ?_
         obtain ⟨hg6a, hm⟩ := gd hm
         refine W_rgx (em TRule.enc p1.rules x8.toNat) [62, 65, 66, 67, 68, 69] ?_
         refine W_joinM (S := Unit) (V := Unit) [4, 70, 71, 72, 73, 74, 75, 76, 77, 78, 79, 80, 81, 82, 83, 84, 85, 86, 87, 88, 89] (fun _ _ => []) (fun _ _ => [.box [.tree 2 (p1.vars.map TVar.enc), .tree 1 (p1.in_.map (eK .i64)), .tree 1 (p1.out_.map (eK .i64)), .tree 6 (p1.rules.map TRule.enc)], .box [.int .i64 ((p1.rules.getD x8.toNat default).op), .int .i64 ((p1.rules.getD x8.toNat default).k), .int .i64 ((p1.rules.getD x8.toNat default).out_), .int .i64 ((p1.rules.getD x8.toNat default).n), .tree 1 (((p1.rules.getD x8.toNat default).a).map (eK .i64)), .tree 4 (((p1.rules.getD x8.toNat default).e).map TPush.enc)]]) (fun _ => ref_GreatSystem_j3 p1 x7 x8 = some r1) ?_ ?_
         ·skip
          refine W_regG [70, 71, 72, 73, 74, 75, 76, 77, 78, 79, 80, 81, 82, 83, 84, 85, 86, 87, 88] fun k kp hk hp => ?_
          refine RunRest_cut 5 ?_
          refine go ?_
          by_cases h7 : (((p1.rules.getD x8.toNat default).a).length : Int) > 100
          ·rw [if_pos h7] at hm
           have h7b : decide ((((p1.rules.getD x8.toNat default).a).length : Int) > 100) = true := decide_eq_true h7
           refine RunRest_ops ?_
           refine gox h7b ?_
           refine hk _ _ ?_
           clear hk hp k kp
           refine W_condt rfl rfl ?_
           refine W_rg [1, 2, 5, 7, 8, 89] ?_
           have ho8 := out_eq hm hr1
           subst ho8
           replace hm : some true = some r := hm1
           refine W_ret ?_
           refine KJoinM_r ?_
           refine KBlock_r ?_
           refine KThen_r ?_
           refine KLoopM_r ?_
           refine KBlock_r ?_
           refine KJoinM_r ?_
           refine KBody_ret [] ?_
           obtain rfl := Option.some.inj hm
           exact en
          ·rw [if_neg h7] at hm
           have h7b : decide ((((p1.rules.getD x8.toNat default).a).length : Int) > 100) = false := decide_eq_false h7
           refine RunRest_cut 6 ?_
           refine gox h7b ?_
           by_cases h9 : (((p1.rules.getD x8.toNat default).e).length : Int) > 1000
           ·rw [if_pos h9] at hm
            have h9b : decide ((((p1.rules.getD x8.toNat default).e).length : Int) > 1000) = true := decide_eq_true h9
            refine RunRest_ops ?_
            refine gox (a2 h7b h9b) ?_
            refine hk _ _ ?_
            clear hk hp k kp
            refine W_condt rfl rfl ?_
            refine W_rg [1, 2, 5, 7, 8, 89] ?_
            have ho10 := out_eq hm hr1
            subst ho10
            replace hm : some true = some r := hm1
            refine W_ret ?_
            refine KJoinM_r ?_
            refine KBlock_r ?_
            refine KThen_r ?_
            refine KLoopM_r ?_
            refine KBlock_r ?_
            refine KJoinM_r ?_
            refine KBody_ret [] ?_
            obtain rfl := Option.some.inj hm
            exact en
           ·rw [if_neg h9] at hm
            have h9b : decide ((((p1.rules.getD x8.toNat default).e).length : Int) > 1000) = false := decide_eq_false h9
            refine RunRest_cut 4 ?_
            refine gox (a2 h7b h9b) ?_
            by_cases h11 : ((p1.rules.getD x8.toNat default).op) = 15
            ·rw [if_pos h11] at hm
             have h11b : (((p1.rules.getD x8.toNat default).op) == 15) = true := beq_iff_eq.2 h11
             refine RunRest_ops ?_
             refine gox (a2 h7b (a2 h9b h11b)) ?_
             refine hk _ _ ?_
             clear hk hp k kp
             by_cases h12 : ((p1.rules.getD x8.toNat default).n) > 1000
             ·rw [if_pos h12] at hm
              refine W_condt rfl (decide_eq_true h12) ?_
              refine W_rg [1, 2, 5, 7, 8, 89] ?_
              have ho13 := out_eq hm hr1
              subst ho13
              replace hm : some true = some r := hm1
              refine W_ret ?_
              refine KJoinM_r ?_
              refine KBlock_r ?_
              refine KThen_r ?_
              refine KLoopM_r ?_
              refine KBlock_r ?_
              refine KJoinM_r ?_
              refine KBody_ret [] ?_
              obtain rfl := Option.some.inj hm
              exact en
             ·rw [if_neg h12] at hm
              refine W_condf rfl (decide_eq_false h12) ?_
              refine W_skip ?_
              refine KJoinM_n () () hm ?_
              exact ls
            ·rw [if_neg h11] at hm
             have h11b : (((p1.rules.getD x8.toNat default).op) == 15) = false := beq_eq_false_iff_ne.2 h11
             refine RunRest_ops ?_
             refine gox (a2 h7b (a2 h9b h11b)) ?_
             refine hk _ _ ?_
             clear hk hp k kp
             refine W_condf rfl rfl ?_
             refine W_skip ?_
             refine KJoinM_n () () hm ?_
             exact ls
         ·rintro _ _ hm
          replace hm : ref_GreatSystem_j3 p1 x7 x8 = some r1 := hm
          refine W_eqm ?_
          unfold ref_GreatSystem_j3 at hm
          refine W_rn ?_
          refine KBlock_n ?_
          refine KThen_n (hk3 _ _ ?_)
          refine W_rn ?_
          refine KLoopM_n ((IntKind.wrap .i64 (x7 + (IntKind.wrap .i64 ((((p1.rules.getD x8.toNat default).a).length : Int) + (((p1.rules.getD x8.toNat default).e).length : Int))))), (IntKind.wrap .i64 (x8 + 1))) () hm ?_
          exact ls
        ·rw [if_neg h5] at hm
         refine W_condf rfl (decide_eq_false h5) ?_
         refine W_exit ?_
         have ho14 := out_eq hm hr1
         subst ho14
         replace hm : ref_GreatSystem_j2 p2 x7 = some r := hm1
         refine KThen_x ?_
         refine KLoopM_x ?_
         refine KBlock_hit ?_
         refine KJoinM_n x7 () hm ?_
         exact ls
      ·rintro x2 _ hm
       replace hm : ref_GreatSystem_j2 p2 x2 = some r := hm
       refine W_eqm ?_
       unfold ref_GreatSystem_j2 at hm
       refine W_rg [1, 5, 99, 100, 101, 102] ?_
       refine W_ret ?_
       refine KBody_ret [] ?_
       obtain rfl := Option.some.inj hm
       exact en
end Pam

/- the walk of ref_copyRule, printed by a program of ours -/
namespace Pam
open Go Go.Proofs
set_option maxRecDepth 100000 in
set_option maxHeartbeats 1000000 in
theorem ref_copyRule_ok (p1 : TRule) (r : TRule) (hm : ref_copyRule p1 = some r) : SpecF Try.prog 83 [.a [.int .i64 p1.op, .int .i64 p1.k, .int .i64 p1.out_, .int .i64 p1.n, .tree 1 (p1.a.map (eK .i64)), .tree 4 (p1.e.map TPush.enc)]] (.a [.int .i64 ((r).op), .int .i64 ((r).k), .int .i64 ((r).out_), .int .i64 ((r).n), .tree 1 (((r).a).map (eK .i64)), .tree 4 (((r).e).map TPush.enc)]) := by
 refine Spec_ofD 16 [.cell 2 68] Try.func83 rfl rfl rfl (by kernel_rfl) (by simp) ?_
 refine W_eqf ?_
 unfold ref_copyRule at hm
 refine W_rg [0] ?_
 refine W_rg [] ?_
 refine W_rg [] ?_
 obtain ⟨⟨hg1ax, hg1ay⟩, hm⟩ := gd hm
 refine W_rg [3, 5, 6, 7, 8, 9] ?_
 refine W_eqa [.box [.int .i64 p1.op, .int .i64 p1.k, .int .i64 p1.out_, .int .i64 p1.n, .osl 2 0 0 p1.a.length, .tree 4 (p1.e.map TPush.enc)], .box [.int .i64 0, .int .i64 0, .int .i64 0, .int .i64 0, .nils, .nils], .arr 1 0 3 (p1.a.map (eK .i64))] ?_
 obtain ⟨⟨hg2ax, hg2ay⟩, hm⟩ := gd hm
 refine W_rg [4, 10, 11, 12, 13, 14] ?_
 refine W_eqa [.box [.int .i64 p1.op, .int .i64 p1.k, .int .i64 p1.out_, .int .i64 p1.n, .osl 2 0 0 p1.a.length, .osl 3 0 0 p1.e.length], .box [.int .i64 0, .int .i64 0, .int .i64 0, .int .i64 0, .nils, .nils], .arr 1 0 3 (p1.a.map (eK .i64)), .arr 4 0 106 (p1.e.map TPush.enc)] ?_
 refine W_rg [1, 15] ?_
 refine W_gh (Ghost_fr 2 rfl) ?_
 refine W_gh (Ghost_fr 3 rfl) ?_
 refine W_ret ?_
 refine KBody_ret [] ?_
 obtain rfl := Option.some.inj hm
 exact en
end Pam

/- the walk of ref_CopySystem, printed by a program of ours -/
namespace Pam
open Go Go.Proofs
set_option maxRecDepth 100000 in
set_option maxHeartbeats 1000000 in
theorem ref_CopySystem_ok (p1 : TSystem) (r : TSystem) (hm : ref_CopySystem p1 = some r) : SpecF Try.prog 34 [.a [.tree 2 (p1.vars.map TVar.enc), .tree 1 (p1.in_.map (eK .i64)), .tree 1 (p1.out_.map (eK .i64)), .tree 6 (p1.rules.map TRule.enc)]] (.a [.tree 2 (((r).vars).map TVar.enc), .tree 1 (((r).in_).map (eK .i64)), .tree 1 (((r).out_).map (eK .i64)), .tree 6 (((r).rules).map TRule.enc)]) := by
 refine Spec_ofD 40 [.cell 2 61] Try.func34 rfl rfl rfl (by kernel_rfl) (by simp) ?_
 refine W_eqf ?_
 unfold ref_CopySystem at hm
 refine W_rg [0] ?_
 refine W_rg [] ?_
 refine W_rg [] ?_
 obtain ⟨⟨⟨hg1ax, hg1ay⟩, ⟨hg1bx, hg1by⟩, ⟨hg1cx, hg1cy⟩⟩, hm⟩ := gd hm
 refine W_lateT [3, 4, 5, 8, 9, 10, 11, 12, 13, 14, 15, 16, 17, 18, 19, 20] [6] [0, 0, 2, 7, 0, 0, 32, 127, 0, 0, 512, 2047, 4095, 0, 16383] [false, false, false, false, false, false, false, false, false, false, false, false, false, false, true] (by kernel_rfl) (by kernel_rfl) (by decide) fun k kp hk => ?_
 simp only [virt, late, vOne, hush]
 refine ga ?_
 refine go ?_
 refine hk _ _ ?_
 clear hk k kp
 refine W_eqa [.box [.tree 2 (p1.vars.map TVar.enc), .tree 1 (p1.in_.map (eK .i64)), .tree 1 (p1.out_.map (eK .i64)), .tree 6 (p1.rules.map TRule.enc)], .box [.nils, .nils, .nils, .nils], .arr 2 0 97 (p1.vars.map TVar.enc), .arr 1 0 3 (p1.in_.map (eK .i64)), .arr 1 0 3 (p1.out_.map (eK .i64)), .box [.osl 2 0 0 p1.vars.length, .osl 3 0 0 p1.in_.length, .osl 4 0 0 p1.out_.length, .nils]] ?_
 refine W_gh (Ghost_nilB 5 3 6 68 (by decide) rfl rfl) ?_
 refine W_joinM (S := (List TRule)) (V := Nat) [1, 7, 21, 22, 23, 24, 25, 26, 27, 28, 29, 30, 31, 32, 33, 34, 35, 36, 37, 38] (fun l3 v4 => []) (fun l3 v4 => [.box [.tree 2 (p1.vars.map TVar.enc), .tree 1 (p1.in_.map (eK .i64)), .tree 1 (p1.out_.map (eK .i64)), .tree 6 (p1.rules.map TRule.enc)], .box [.nils, .nils, .nils, .nils], .arr 2 0 97 (p1.vars.map TVar.enc), .arr 1 0 3 (p1.in_.map (eK .i64)), .arr 1 0 3 (p1.out_.map (eK .i64)), .box [.osl 2 0 0 p1.vars.length, .osl 3 0 0 p1.in_.length, .osl 4 0 0 p1.out_.length, .osl 6 v4 0 l3.length], .arr 6 v4 68 (l3.map TRule.enc)]) (fun l3 => ref_CopySystem_j1 p1 l3 = some r) ?_ ?_
 ·skip
  refine W_rg [] ?_
  refine W_block ?_
  obtain ⟨o1, hl1, hm1⟩ := bd hm
  refine W_loopM (S := ((List TRule) × Int)) (V := Nat) (O := (List TRule)) [7, 21, 22, 23, 24, 25, 26, 27, 28, 29, 30, 31, 32, 33, 34, 35, 36, 37, 38] (fun (l17, x19) v18 => [(7, .c (.int .i64 x19))]) (fun (l17, x19) v18 => [.box [.tree 2 (p1.vars.map TVar.enc), .tree 1 (p1.in_.map (eK .i64)), .tree 1 (p1.out_.map (eK .i64)), .tree 6 (p1.rules.map TRule.enc)], .box [.nils, .nils, .nils, .nils], .arr 2 0 97 (p1.vars.map TVar.enc), .arr 1 0 3 (p1.in_.map (eK .i64)), .arr 1 0 3 (p1.out_.map (eK .i64)), .box [.osl 2 0 0 p1.vars.length, .osl 3 0 0 p1.in_.length, .osl 4 0 0 p1.out_.length, .osl 6 v18 0 l17.length], .arr 6 v18 68 (l17.map TRule.enc)]) _ _ 0 hl1 ?_ ?_
  ·exact ls
  ·rintro ⟨l17, x19⟩ v18 r1 hm hr1
   replace hm : ref_CopySystem_l1 p1 l17 x19 = some r1 := hm
   refine W_eqm ?_
   unfold ref_CopySystem_l1 at hm
   refine W_seq_k fun k1 hk1 => ?_
   refine W_rg [21, 22, 23, 24] ?_
   by_cases h2 : x19 < (p1.rules.length : Int)
   ·rw [if_pos h2] at hm
    refine W_condt rfl (decide_eq_true h2) ?_
    refine W_skip ?_
    refine KThen_n (hk1 _ _ ?_)
    refine W_seq_k fun k2 hk2 => ?_
    refine W_block ?_
    obtain ⟨hg3a, hm⟩ := gd hm
    refine W_any (by kernel_rfl) [0, 1, 0, 4, 0, 28, 60, 124, 252, 511, 1023, 2047] [false, false, false, false, false, false, false, false, false, true, true, true] (by kernel_rfl) fun k hk => ?_
    refine gax (em TRule.enc p1.rules x19.toNat) ?_
    obtain ⟨y20, hc4, hm⟩ := bd hm
    refine AP (fun _ => ref_copyRule_ok (p1.rules.getD x19.toNat default) _ hc4) ?_
    obtain ⟨⟨hg5ax, hg5ay⟩, hm⟩ := gd hm
    refine ga ?_
    refine hk _ _ ?_
    clear hk k
    refine KBlock_n ?_
    refine KThen_n (hk2 _ _ ?_)
    refine W_rn ?_
    refine KLoopM_n ((l17 ++ (lit ([(y20)] : List TRule))), (IntKind.wrap .i64 (x19 + 1))) (v18 + 1) hm ?_
    exact ls
   ·rw [if_neg h2] at hm
    refine W_condf rfl (decide_eq_false h2) ?_
    refine W_exit ?_
    have ho6 := out_eq hm hr1
    subst ho6
    replace hm : ref_CopySystem_j1 p1 l17 = some r := hm1
    refine KThen_x ?_
    refine KLoopM_x ?_
    refine KBlock_hit ?_
    refine KJoinM_n l17 v18 hm ?_
    exact ls
 ·rintro l3 v4 hm
  replace hm : ref_CopySystem_j1 p1 l3 = some r := hm
  refine W_eqm ?_
  unfold ref_CopySystem_j1 at hm
  refine W_rg [6, 39] ?_
  refine W_gh (Ghost_fr 2 rfl) ?_
  refine W_gh (Ghost_fr 3 rfl) ?_
  refine W_gh (Ghost_fr 4 rfl) ?_
  refine W_gh (Ghost_fr 6 rfl) ?_
  refine W_ret ?_
  refine KBody_ret [] ?_
  obtain rfl := Option.some.inj hm
  exact en
end Pam

/- the walk of ref_F, printed by a program of ours -/
namespace Pam
open Go Go.Proofs
set_option maxRecDepth 100000 in
set_option maxHeartbeats 1000000 in
theorem ref_F_ok (p1 : Int) (p2 : Int) (r : TFault) (hm : ref_F p1 p2 = some r) : SpecF Try.prog 55 [.c (.int .i64 p1), .c (.int .i64 p2)] (.a [.int .i64 ((r).code), .int .i64 ((r).at_)]) := by
 refine Spec_ofD 8 [.cell 4 33] Try.func55 rfl rfl rfl (by kernel_rfl) (by simp) ?_
 refine W_eqf ?_
 unfold ref_F at hm
 refine W_rg [] ?_
 refine W_rg [0, 1, 5, 6, 7] ?_
 refine W_ret ?_
 refine KBody_ret [] ?_
 obtain rfl := Option.some.inj hm
 exact en
end Pam

/- the walk of ref_In, printed by a program of ours -/
namespace Pam
open Go Go.Proofs
set_option maxRecDepth 100000 in
set_option maxHeartbeats 1000000 in
theorem ref_In_ok (p1 : List Int) (p2 : Int) (r : Bool) (hm : ref_In p1 p2 = some r) : SpecF Try.prog 61 [.c (.tree 1 (p1.map (eK .i64))), .c (.int .i64 p2)] (.c (.bool r)) := by
 refine Spec_ofD 18 [.tmp 4] Try.func61 rfl rfl rfl (by kernel_rfl) (by simp) ?_
 refine W_eqf ?_
 unfold ref_In at hm
 refine W_rg [4] ?_
 refine W_joinM (S := Unit) (V := Unit) [0, 1, 4, 5, 6, 7, 8, 9, 10, 11, 12, 13, 14, 15, 16, 17] (fun _ _ => []) (fun _ _ => []) (fun _ => ref_In_j1 = some r) ?_ ?_
 ·skip
  refine W_rg [] ?_
  refine W_block ?_
  obtain ⟨o1, hl1, hm1⟩ := bd hm
  refine W_loopM (S := Int) (V := Unit) (O := Unit ⊕ Bool) [4, 5, 6, 7, 8, 9, 10, 11, 12, 13, 14, 15, 16, 17] (fun x3 _ => [(5, .c (.int .i64 x3))]) (fun x3 _ => []) _ _ () hl1 ?_ ?_
  ·exact ls
  ·rintro x3 _ r1 hm hr1
   replace hm : ref_In_l1 p1 p2 x3 = some r1 := hm
   refine W_eqm ?_
   unfold ref_In_l1 at hm
   refine W_seq_k fun k1 hk1 => ?_
   refine W_rg [6, 7, 8] ?_
   by_cases h1 : x3 < (p1.length : Int)
   ·rw [if_pos h1] at hm
    refine W_condt rfl (decide_eq_true h1) ?_
    refine W_skip ?_
    refine KThen_n (hk1 _ _ ?_)
    refine W_seq_k fun k2 hk2 => ?_
    refine W_block ?_
    obtain ⟨hg2a, hm⟩ := gd hm
    refine W_rgx (em (eK .i64) p1 x3.toNat) [9, 12, 13, 14, 15, 16] ?_
    by_cases h3 : (p1.getD x3.toNat default) = p2
    ·rw [if_pos h3] at hm
     refine W_condt rfl (beq_iff_eq.2 h3) ?_
     refine W_rg [0, 1, 5, 17] ?_
     have ho4 := out_eq hm hr1
     subst ho4
     replace hm : some true = some r := hm1
     refine W_ret ?_
     refine KBlock_r ?_
     refine KThen_r ?_
     refine KLoopM_r ?_
     refine KBlock_r ?_
     refine KJoinM_r ?_
     refine KBody_ret [] ?_
     obtain rfl := Option.some.inj hm
     exact en
    ·rw [if_neg h3] at hm
     refine W_condf rfl (beq_eq_false_iff_ne.2 h3) ?_
     refine W_skip ?_
     refine KBlock_n ?_
     refine KThen_n (hk2 _ _ ?_)
     refine W_rn ?_
     refine KLoopM_n (IntKind.wrap .i64 (x3 + 1)) () hm ?_
     exact ls
   ·rw [if_neg h1] at hm
    refine W_condf rfl (decide_eq_false h1) ?_
    refine W_exit ?_
    have ho5 := out_eq hm hr1
    subst ho5
    replace hm : ref_In_j1 = some r := hm1
    refine KThen_x ?_
    refine KLoopM_x ?_
    refine KBlock_hit ?_
    refine KJoinM_n () () hm ?_
    exact ls
 ·rintro _ _ hm
  replace hm : ref_In_j1 = some r := hm
  refine W_eqm ?_
  unfold ref_In_j1 at hm
  refine W_rg [] ?_
  refine W_ret ?_
  refine KBody_ret [] ?_
  obtain rfl := Option.some.inj hm
  exact en
end Pam

/- the walk of ref_headOf, printed by a program of ours -/
namespace Pam
open Go Go.Proofs
set_option maxRecDepth 100000 in
set_option maxHeartbeats 8000000 in
theorem ref_headOf_ok (p1 : TSystem) (r : TFault) (hm : ref_headOf p1 = some r) : SpecF Try.prog 84 [.a [.tree 2 (p1.vars.map TVar.enc), .tree 1 (p1.in_.map (eK .i64)), .tree 1 (p1.out_.map (eK .i64)), .tree 6 (p1.rules.map TRule.enc)]] (.a [.int .i64 ((r).code), .int .i64 ((r).at_)]) := by
 refine Spec_ofD 136 [.cell 2 33] Try.func84 rfl rfl rfl (by kernel_rfl) (by simp) ?_
 refine W_eqf ?_
 unfold ref_headOf at hm
 refine W_rg [0] ?_
 refine W_seq_k fun k1 hk1 => ?_
 refine W_regG [6, 7, 8, 9, 10, 11, 12, 13, 14, 15, 16, 17, 18, 19, 20, 21, 22, 23, 24, 25, 26] fun k kp hk hp => ?_
 refine RunRest_cut 5 ?_
 refine go ?_
 by_cases h1 : (p1.vars.length : Int) > 400
 ·rw [if_pos h1] at hm
  have h1b : decide ((p1.vars.length : Int) > 400) = true := decide_eq_true h1
  refine RunRest_ops ?_
  refine gox h1b ?_
  refine hk _ _ ?_
  clear hk hp k kp
  refine W_condt rfl rfl ?_
  refine W_regF [1, 27, 28] fun k kp hk hp => ?_
  refine go ?_
  obtain ⟨y1, hc2, hm⟩ := bd hm
  refine RP (fun _ => ref_F_ok 7 (-1) _ hc2) ?_
  refine RunRest_ops ?_
  refine go ?_
  refine hk _ _ ?_
  clear hk hp k kp
  refine W_ret ?_
  refine KThen_r ?_
  refine KBody_ret [] ?_
  obtain rfl := Option.some.inj hm
  exact en
 ·rw [if_neg h1] at hm
  have h1b : decide ((p1.vars.length : Int) > 400) = false := decide_eq_false h1
  refine RunRest_cut 6 ?_
  refine gox h1b ?_
  by_cases h3 : (p1.in_.length : Int) > 400
  ·rw [if_pos h3] at hm
   have h3b : decide ((p1.in_.length : Int) > 400) = true := decide_eq_true h3
   refine RunRest_ops ?_
   refine gox (a2 h1b h3b) ?_
   refine hk _ _ ?_
   clear hk hp k kp
   refine W_condt rfl rfl ?_
   refine W_regF [1, 27, 28] fun k kp hk hp => ?_
   refine go ?_
   obtain ⟨y2, hc4, hm⟩ := bd hm
   refine RP (fun _ => ref_F_ok 7 (-1) _ hc4) ?_
   refine RunRest_ops ?_
   refine go ?_
   refine hk _ _ ?_
   clear hk hp k kp
   refine W_ret ?_
   refine KThen_r ?_
   refine KBody_ret [] ?_
   obtain rfl := Option.some.inj hm
   exact en
  ·rw [if_neg h3] at hm
   have h3b : decide ((p1.in_.length : Int) > 400) = false := decide_eq_false h3
   refine RunRest_cut 6 ?_
   refine gox (a2 h1b h3b) ?_
   by_cases h5 : (p1.out_.length : Int) > 400
   ·rw [if_pos h5] at hm
    have h5b : decide ((p1.out_.length : Int) > 400) = true := decide_eq_true h5
    refine RunRest_ops ?_
    refine gox (a2 h1b (a2 h3b h5b)) ?_
    refine hk _ _ ?_
    clear hk hp k kp
    refine W_condt rfl rfl ?_
    refine W_regF [1, 27, 28] fun k kp hk hp => ?_
    refine go ?_
    obtain ⟨y3, hc6, hm⟩ := bd hm
    refine RP (fun _ => ref_F_ok 7 (-1) _ hc6) ?_
    refine RunRest_ops ?_
    refine go ?_
    refine hk _ _ ?_
    clear hk hp k kp
    refine W_ret ?_
    refine KThen_r ?_
    refine KBody_ret [] ?_
    obtain rfl := Option.some.inj hm
    exact en
   ·rw [if_neg h5] at hm
    have h5b : decide ((p1.out_.length : Int) > 400) = false := decide_eq_false h5
    refine RunRest_ops ?_
    refine gox (a2 h1b (a2 h3b h5b)) ?_
    refine hk _ _ ?_
    clear hk hp k kp
    by_cases h7 : (p1.rules.length : Int) > 400
    ·rw [if_pos h7] at hm
     refine W_condt rfl (decide_eq_true h7) ?_
     refine W_regF [1, 27, 28] fun k kp hk hp => ?_
     refine go ?_
     obtain ⟨y4, hc8, hm⟩ := bd hm
     refine RP (fun _ => ref_F_ok 7 (-1) _ hc8) ?_
     refine RunRest_ops ?_
     refine go ?_
     refine hk _ _ ?_
     clear hk hp k kp
     refine W_ret ?_
     refine KThen_r ?_
     refine KBody_ret [] ?_
     obtain rfl := Option.some.inj hm
     exact en
    ·rw [if_neg h7] at hm
     refine W_condf rfl (decide_eq_false h7) ?_
     refine W_skip ?_
     refine KThen_n (hk1 _ _ ?_)
     refine W_joinM (S := Unit) (V := Unit) [3, 27, 29, 30, 31, 32, 33, 34, 35, 36, 37, 38, 39, 40, 41, 42, 43, 44, 45, 46, 47, 48, 49, 50, 51, 52, 53, 54, 55, 56, 57, 58, 59, 60, 61, 62, 63, 64, 65, 66, 67, 68, 69, 70, 71, 72, 73] (fun _ _ => []) (fun _ _ => [.box [.tree 2 (p1.vars.map TVar.enc), .tree 1 (p1.in_.map (eK .i64)), .tree 1 (p1.out_.map (eK .i64)), .tree 6 (p1.rules.map TRule.enc)], .box [.int .i64 0, .int .i64 0]]) (fun _ => ref_headOf_j1 p1 = some r) ?_ ?_
     ·skip
      refine W_rg [27] ?_
      refine W_block ?_
      obtain ⟨o3, hl3, hm3⟩ := bd hm
      refine W_loopM (S := Int) (V := Unit) (O := Unit ⊕ TFault) [3, 29, 30, 31, 32, 33, 34, 35, 36, 37, 38, 39, 40, 41, 42, 43, 44, 45, 46, 47, 48, 49, 50, 51, 52, 53, 54, 55, 56, 57, 58, 59, 60, 61, 62, 63, 64, 65, 66, 67, 68, 69, 70, 71, 72, 73] (fun x21 _ => [(3, .c (.int .i64 x21))]) (fun x21 _ => [.box [.tree 2 (p1.vars.map TVar.enc), .tree 1 (p1.in_.map (eK .i64)), .tree 1 (p1.out_.map (eK .i64)), .tree 6 (p1.rules.map TRule.enc)], .box [.int .i64 0, .int .i64 0]]) _ _ () hl3 ?_ ?_
      ·exact ls
      ·rintro x21 _ r3 hm hr3
       replace hm : ref_headOf_l3 p1 x21 = some r3 := hm
       refine W_eqm ?_
       unfold ref_headOf_l3 at hm
       refine W_seq_k fun k7 hk7 => ?_
       refine W_rg [29, 30, 31, 32] ?_
       by_cases h32 : x21 < (p1.vars.length : Int)
       ·rw [if_pos h32] at hm
        refine W_condt rfl (decide_eq_true h32) ?_
        refine W_skip ?_
        refine KThen_n (hk7 _ _ ?_)
        refine W_seq_k fun k8 hk8 => ?_
        refine W_block ?_
        refine W_joinM (S := Unit) (V := Unit) [33, 36, 37, 38, 39, 40, 41, 42, 43, 44, 45, 46, 47, 48, 49, 50, 51, 52, 53, 54] (fun _ _ => []) (fun _ _ => [.box [.tree 2 (p1.vars.map TVar.enc), .tree 1 (p1.in_.map (eK .i64)), .tree 1 (p1.out_.map (eK .i64)), .tree 6 (p1.rules.map TRule.enc)], .box [.int .i64 0, .int .i64 0]]) (fun _ => ref_headOf_j4 p1 x21 = some r3) ?_ ?_
        ·skip
         obtain ⟨hg40a, hm⟩ := gd hm
         refine W_regG [33, 36, 37, 38, 39, 40, 41, 42, 43, 44, 45, 46, 47, 48, 49, 50] fun k kp hk hp => ?_
         refine RunRest_cut 8 ?_
         refine gox (em TVar.enc p1.vars x21.toNat) ?_
         by_cases h41 : ¬ ((p1.vars.getD x21.toNat default).elem) = 105
         ·rw [if_pos h41] at hm
          have h41b : (((p1.vars.getD x21.toNat default).elem) != 105) = true := bne_iff_ne.2 h41
          refine RunRest_ops ?_
          refine gox (a2 (em TVar.enc p1.vars x21.toNat) h41b) ?_
          refine hk _ _ ?_
          clear hk hp k kp
          by_cases h42 : ¬ ((p1.vars.getD x21.toNat default).elem) = 98
          ·rw [if_pos h42] at hm
           refine W_condt rfl (bne_iff_ne.2 h42) ?_
           refine W_regF [1, 3, 51, 52, 53, 54] fun k kp hk hp => ?_
           refine go ?_
           obtain ⟨y24, hc43, hm⟩ := bd hm
           refine RP (fun _ => ref_F_ok 10 (IntKind.wrap .i64 ((-2) - x21)) _ hc43) ?_
           refine RunRest_ops ?_
           refine go ?_
           refine hk _ _ ?_
           clear hk hp k kp
           have ho44 := out_eq hm hr3
           subst ho44
           replace hm : some (y24) = some r := hm3
           refine W_ret ?_
           refine KJoinM_r ?_
           refine KBlock_r ?_
           refine KThen_r ?_
           refine KLoopM_r ?_
           refine KBlock_r ?_
           refine KJoinM_r ?_
           refine KBody_ret [] ?_
           obtain rfl := Option.some.inj hm
           exact en
          ·rw [if_neg h42] at hm
           refine W_condf rfl (bne_eq_false_iff_eq.2 (Decidable.not_not.1 h42)) ?_
           refine W_skip ?_
           refine KJoinM_n () () hm ?_
           exact ls
         ·rw [if_neg h41] at hm
          have h41b : (((p1.vars.getD x21.toNat default).elem) != 105) = false := bne_eq_false_iff_eq.2 (Decidable.not_not.1 h41)
          refine RunRest_ops ?_
          refine gox h41b ?_
          refine hk _ _ ?_
          clear hk hp k kp
          refine W_condf rfl rfl ?_
          refine W_skip ?_
          refine KJoinM_n () () hm ?_
          exact ls
        ·rintro _ _ hm
         replace hm : ref_headOf_j4 p1 x21 = some r3 := hm
         refine W_eqm ?_
         unfold ref_headOf_j4 at hm
         obtain ⟨hg33a, hm⟩ := gd hm
         refine W_regG [55, 56, 57, 58, 59, 60, 61, 62, 63, 64, 65, 66, 67, 68, 69] fun k kp hk hp => ?_
         refine RunRest_cut 8 ?_
         refine gox (em TVar.enc p1.vars x21.toNat) ?_
         by_cases h34 : ((p1.vars.getD x21.toNat default).n) < 0
         ·rw [if_pos h34] at hm
          have h34b : decide (((p1.vars.getD x21.toNat default).n) < 0) = true := decide_eq_true h34
          refine RunRest_ops ?_
          refine gox h34b ?_
          refine hk _ _ ?_
          clear hk hp k kp
          refine W_condt rfl rfl ?_
          refine W_regF [1, 3, 70, 71, 72, 73] fun k kp hk hp => ?_
          refine go ?_
          obtain ⟨y22, hc35, hm⟩ := bd hm
          refine RP (fun _ => ref_F_ok 13 (IntKind.wrap .i64 ((-2) - x21)) _ hc35) ?_
          refine RunRest_ops ?_
          refine go ?_
          refine hk _ _ ?_
          clear hk hp k kp
          have ho36 := out_eq hm hr3
          subst ho36
          replace hm : some (y22) = some r := hm3
          refine W_ret ?_
          refine KBlock_r ?_
          refine KThen_r ?_
          refine KLoopM_r ?_
          refine KBlock_r ?_
          refine KJoinM_r ?_
          refine KBody_ret [] ?_
          obtain rfl := Option.some.inj hm
          exact en
         ·rw [if_neg h34] at hm
          have h34b : decide (((p1.vars.getD x21.toNat default).n) < 0) = false := decide_eq_false h34
          refine RunRest_ops ?_
          refine gox (a2 (em TVar.enc p1.vars x21.toNat) h34b) ?_
          refine hk _ _ ?_
          clear hk hp k kp
          by_cases h37 : ((p1.vars.getD x21.toNat default).n) > 300
          ·rw [if_pos h37] at hm
           refine W_condt rfl (decide_eq_true h37) ?_
           refine W_regF [1, 3, 70, 71, 72, 73] fun k kp hk hp => ?_
           refine go ?_
           obtain ⟨y23, hc38, hm⟩ := bd hm
           refine RP (fun _ => ref_F_ok 13 (IntKind.wrap .i64 ((-2) - x21)) _ hc38) ?_
           refine RunRest_ops ?_
           refine go ?_
           refine hk _ _ ?_
           clear hk hp k kp
           have ho39 := out_eq hm hr3
           subst ho39
           replace hm : some (y23) = some r := hm3
           refine W_ret ?_
           refine KBlock_r ?_
           refine KThen_r ?_
           refine KLoopM_r ?_
           refine KBlock_r ?_
           refine KJoinM_r ?_
           refine KBody_ret [] ?_
           obtain rfl := Option.some.inj hm
           exact en
          ·rw [if_neg h37] at hm
           refine W_condf rfl (decide_eq_false h37) ?_
           refine W_skip ?_
           refine KBlock_n ?_
           refine KThen_n (hk8 _ _ ?_)
           refine W_rn ?_
           refine KLoopM_n (IntKind.wrap .i64 (x21 + 1)) () hm ?_
           exact ls
       ·rw [if_neg h32] at hm
        refine W_condf rfl (decide_eq_false h32) ?_
        refine W_exit ?_
        have ho45 := out_eq hm hr3
        subst ho45
        replace hm : ref_headOf_j1 p1 = some r := hm3
        refine KThen_x ?_
        refine KLoopM_x ?_
        refine KBlock_hit ?_
        refine KJoinM_n () () hm ?_
        exact ls
     ·rintro _ _ hm
      replace hm : ref_headOf_j1 p1 = some r := hm
      refine W_eqm ?_
      unfold ref_headOf_j1 at hm
      refine W_joinM (S := Unit) (V := Unit) [4, 74, 75, 76, 77, 78, 79, 80, 81, 82, 83, 84, 85, 86, 87, 88, 89, 90, 91, 92, 93, 94, 95, 96, 97, 98, 99, 100, 101, 102, 103, 104, 105, 106, 107, 108, 109] (fun _ _ => []) (fun _ _ => [.box [.tree 2 (p1.vars.map TVar.enc), .tree 1 (p1.in_.map (eK .i64)), .tree 1 (p1.out_.map (eK .i64)), .tree 6 (p1.rules.map TRule.enc)], .box [.int .i64 0, .int .i64 0]]) (fun _ => ref_headOf_j2 p1 = some r) ?_ ?_
      ·skip
       refine W_rg [] ?_
       refine W_block ?_
       obtain ⟨o2, hl2, hm2⟩ := bd hm
       refine W_loopM (S := Int) (V := Unit) (O := Unit ⊕ TFault) [4, 74, 75, 76, 77, 78, 79, 80, 81, 82, 83, 84, 85, 86, 87, 88, 89, 90, 91, 92, 93, 94, 95, 96, 97, 98, 99, 100, 101, 102, 103, 104, 105, 106, 107, 108, 109] (fun x13 _ => [(4, .c (.int .i64 x13))]) (fun x13 _ => [.box [.tree 2 (p1.vars.map TVar.enc), .tree 1 (p1.in_.map (eK .i64)), .tree 1 (p1.out_.map (eK .i64)), .tree 6 (p1.rules.map TRule.enc)], .box [.int .i64 0, .int .i64 0]]) _ _ () hl2 ?_ ?_
       ·exact ls
       ·rintro x13 _ r2 hm hr2
        replace hm : ref_headOf_l2 p1 x13 = some r2 := hm
        refine W_eqm ?_
        unfold ref_headOf_l2 at hm
        refine W_seq_k fun k4 hk4 => ?_
        refine W_rg [74, 75, 76, 77] ?_
        by_cases h18 : x13 < (p1.in_.length : Int)
        ·rw [if_pos h18] at hm
         refine W_condt rfl (decide_eq_true h18) ?_
         refine W_skip ?_
         refine KThen_n (hk4 _ _ ?_)
         refine W_seq_k fun k5 hk5 => ?_
         refine W_block ?_
         refine W_seq_k fun k6 hk6 => ?_
         obtain ⟨hg19a, hm⟩ := gd hm
         refine W_anyTF [78, 81, 82, 83, 84, 85, 86, 87, 88, 89, 90, 91, 92, 93, 94, 95, 96] (by kernel_rfl) [0, 1, 0, 7, 15, 31, 63, 127, 255, 127, 1023, 2047, 127, 4223, 12415, 32767, 65535] [false, false, false, true, true, true, true, false, false, false, false, false, false, false, false, true, true] (by kernel_rfl) fun k hk => ?_
         refine TR_cut 7 rfl ?_
         refine gax (em (eK .i64) p1.in_ x13.toNat) ?_
         by_cases h20 : (p1.in_.getD x13.toNat default) < 0
         ·rw [if_pos h20] at hm
          have h20b : decide ((p1.in_.getD x13.toNat default) < 0) = true := decide_eq_true h20
          refine TR_ops ?_
          refine gax h20b ?_
          refine hk _ _ ?_
          clear hk k
          refine W_condt rfl rfl ?_
          refine W_regF [1, 4, 97, 98] fun k kp hk hp => ?_
          refine go ?_
          obtain ⟨y14, hc21, hm⟩ := bd hm
          refine RP (fun _ => ref_F_ok 16 (-1) _ hc21) ?_
          refine RunRest_ops ?_
          refine go ?_
          refine hk _ _ ?_
          clear hk hp k kp
          have ho22 := out_eq hm hr2
          subst ho22
          replace hm : some (y14) = some r := hm2
          refine W_ret ?_
          refine KThen_r ?_
          refine KBlock_r ?_
          refine KThen_r ?_
          refine KLoopM_r ?_
          refine KBlock_r ?_
          refine KJoinM_r ?_
          refine KBody_ret [] ?_
          obtain rfl := Option.some.inj hm
          exact en
         ·rw [if_neg h20] at hm
          have h20b : decide ((p1.in_.getD x13.toNat default) < 0) = false := decide_eq_false h20
          refine TR_ops ?_
          refine gax (a2 (em (eK .i64) p1.in_ x13.toNat) h20b) ?_
          refine hk _ _ ?_
          clear hk k
          by_cases h23 : (p1.in_.getD x13.toNat default) ≥ (p1.vars.length : Int)
          ·rw [if_pos h23] at hm
           refine W_condt rfl (decide_eq_true h23) ?_
           refine W_regF [1, 4, 97, 98] fun k kp hk hp => ?_
           refine go ?_
           obtain ⟨y15, hc24, hm⟩ := bd hm
           refine RP (fun _ => ref_F_ok 16 (-1) _ hc24) ?_
           refine RunRest_ops ?_
           refine go ?_
           refine hk _ _ ?_
           clear hk hp k kp
           have ho25 := out_eq hm hr2
           subst ho25
           replace hm : some (y15) = some r := hm2
           refine W_ret ?_
           refine KThen_r ?_
           refine KBlock_r ?_
           refine KThen_r ?_
           refine KLoopM_r ?_
           refine KBlock_r ?_
           refine KJoinM_r ?_
           refine KBody_ret [] ?_
           obtain rfl := Option.some.inj hm
           exact en
          ·rw [if_neg h23] at hm
           refine W_condf rfl (decide_eq_false h23) ?_
           refine W_skip ?_
           refine KThen_n (hk6 _ _ ?_)
           obtain ⟨hg26a, hm⟩ := gd hm
           refine W_anyF [97, 99, 100, 101, 102, 103, 104, 105, 106, 107] (by kernel_rfl) [0, 1, 0, 7, 0, 16, 0, 112, 240, 511] [false, false, false, false, false, false, false, false, false, true] (by kernel_rfl) fun k hk => ?_
           refine gax (em (eK .i64) p1.in_ x13.toNat) ?_
           obtain ⟨y16, hc27, hm⟩ := bd hm
           refine AP (fun _ => ref_In_ok (p1.in_.take x13.toNat) (p1.in_.getD x13.toNat default) _ hc27) ?_
           refine gax (em (eK .i64) p1.in_ x13.toNat) ?_
           refine hk _ _ ?_
           clear hk k
           by_cases h28 : y16 = true
           ·rw [if_pos h28] at hm
            refine W_condt rfl (h28) ?_
            refine W_regF [1, 4, 108, 109] fun k kp hk hp => ?_
            refine go ?_
            obtain ⟨y17, hc29, hm⟩ := bd hm
            refine RP (fun _ => ref_F_ok 8 (-1) _ hc29) ?_
            refine RunRest_ops ?_
            refine go ?_
            refine hk _ _ ?_
            clear hk hp k kp
            have ho30 := out_eq hm hr2
            subst ho30
            replace hm : some (y17) = some r := hm2
            refine W_ret ?_
            refine KBlock_r ?_
            refine KThen_r ?_
            refine KLoopM_r ?_
            refine KBlock_r ?_
            refine KJoinM_r ?_
            refine KBody_ret [] ?_
            obtain rfl := Option.some.inj hm
            exact en
           ·rw [if_neg h28] at hm
            refine W_condf rfl (Bool.eq_false_iff.2 h28) ?_
            refine W_skip ?_
            refine KBlock_n ?_
            refine KThen_n (hk5 _ _ ?_)
            refine W_rn ?_
            refine KLoopM_n (IntKind.wrap .i64 (x13 + 1)) () hm ?_
            exact ls
        ·rw [if_neg h18] at hm
         refine W_condf rfl (decide_eq_false h18) ?_
         refine W_exit ?_
         have ho31 := out_eq hm hr2
         subst ho31
         replace hm : ref_headOf_j2 p1 = some r := hm2
         refine KThen_x ?_
         refine KLoopM_x ?_
         refine KBlock_hit ?_
         refine KJoinM_n () () hm ?_
         exact ls
      ·rintro _ _ hm
       replace hm : ref_headOf_j2 p1 = some r := hm
       refine W_eqm ?_
       unfold ref_headOf_j2 at hm
       refine W_joinM (S := Unit) (V := Unit) [1, 5, 110, 111, 112, 113, 114, 115, 116, 117, 118, 119, 120, 121, 122, 123, 124, 125, 126, 127, 128, 129, 130, 131, 132, 133, 134] (fun _ _ => []) (fun _ _ => [.box [.tree 2 (p1.vars.map TVar.enc), .tree 1 (p1.in_.map (eK .i64)), .tree 1 (p1.out_.map (eK .i64)), .tree 6 (p1.rules.map TRule.enc)], .box [.int .i64 0, .int .i64 0]]) (fun _ => ref_headOf_j3 = some r) ?_ ?_
       ·skip
        refine W_rg [] ?_
        refine W_block ?_
        obtain ⟨o1, hl1, hm1⟩ := bd hm
        refine W_loopM (S := Int) (V := Unit) (O := Unit ⊕ TFault) [5, 110, 111, 112, 113, 114, 115, 116, 117, 118, 119, 120, 121, 122, 123, 124, 125, 126, 127, 128, 129, 130, 131, 132, 133, 134] (fun x7 _ => [(5, .c (.int .i64 x7))]) (fun x7 _ => [.box [.tree 2 (p1.vars.map TVar.enc), .tree 1 (p1.in_.map (eK .i64)), .tree 1 (p1.out_.map (eK .i64)), .tree 6 (p1.rules.map TRule.enc)], .box [.int .i64 0, .int .i64 0]]) _ _ () hl1 ?_ ?_
        ·exact ls
        ·rintro x7 _ r1 hm hr1
         replace hm : ref_headOf_l1 p1 x7 = some r1 := hm
         refine W_eqm ?_
         unfold ref_headOf_l1 at hm
         refine W_seq_k fun k2 hk2 => ?_
         refine W_rg [110, 111, 112, 113] ?_
         by_cases h9 : x7 < (p1.out_.length : Int)
         ·rw [if_pos h9] at hm
          refine W_condt rfl (decide_eq_true h9) ?_
          refine W_skip ?_
          refine KThen_n (hk2 _ _ ?_)
          refine W_seq_k fun k3 hk3 => ?_
          refine W_block ?_
          obtain ⟨hg10a, hm⟩ := gd hm
          refine W_anyTF [114, 117, 118, 119, 120, 121, 122, 123, 124, 125, 126, 127, 128, 129, 130, 131, 132] (by kernel_rfl) [0, 1, 0, 7, 15, 31, 63, 127, 255, 127, 1023, 2047, 127, 4223, 12415, 32767, 65535] [false, false, false, true, true, true, true, false, false, false, false, false, false, false, false, true, true] (by kernel_rfl) fun k hk => ?_
          refine TR_cut 7 rfl ?_
          refine gax (em (eK .i64) p1.out_ x7.toNat) ?_
          by_cases h11 : (p1.out_.getD x7.toNat default) < 0
          ·rw [if_pos h11] at hm
           have h11b : decide ((p1.out_.getD x7.toNat default) < 0) = true := decide_eq_true h11
           refine TR_ops ?_
           refine gax h11b ?_
           refine hk _ _ ?_
           clear hk k
           refine W_condt rfl rfl ?_
           refine W_regF [1, 5, 133, 134] fun k kp hk hp => ?_
           refine go ?_
           obtain ⟨y8, hc12, hm⟩ := bd hm
           refine RP (fun _ => ref_F_ok 16 (-1) _ hc12) ?_
           refine RunRest_ops ?_
           refine go ?_
           refine hk _ _ ?_
           clear hk hp k kp
           have ho13 := out_eq hm hr1
           subst ho13
           replace hm : some (y8) = some r := hm1
           refine W_ret ?_
           refine KBlock_r ?_
           refine KThen_r ?_
           refine KLoopM_r ?_
           refine KBlock_r ?_
           refine KJoinM_r ?_
           refine KBody_ret [] ?_
           obtain rfl := Option.some.inj hm
           exact en
          ·rw [if_neg h11] at hm
           have h11b : decide ((p1.out_.getD x7.toNat default) < 0) = false := decide_eq_false h11
           refine TR_ops ?_
           refine gax (a2 (em (eK .i64) p1.out_ x7.toNat) h11b) ?_
           refine hk _ _ ?_
           clear hk k
           by_cases h14 : (p1.out_.getD x7.toNat default) ≥ (p1.vars.length : Int)
           ·rw [if_pos h14] at hm
            refine W_condt rfl (decide_eq_true h14) ?_
            refine W_regF [1, 5, 133, 134] fun k kp hk hp => ?_
            refine go ?_
            obtain ⟨y9, hc15, hm⟩ := bd hm
            refine RP (fun _ => ref_F_ok 16 (-1) _ hc15) ?_
            refine RunRest_ops ?_
            refine go ?_
            refine hk _ _ ?_
            clear hk hp k kp
            have ho16 := out_eq hm hr1
            subst ho16
            replace hm : some (y9) = some r := hm1
            refine W_ret ?_
            refine KBlock_r ?_
            refine KThen_r ?_
            refine KLoopM_r ?_
            refine KBlock_r ?_
            refine KJoinM_r ?_
            refine KBody_ret [] ?_
            obtain rfl := Option.some.inj hm
            exact en
           ·rw [if_neg h14] at hm
            refine W_condf rfl (decide_eq_false h14) ?_
            refine W_skip ?_
            refine KBlock_n ?_
            refine KThen_n (hk3 _ _ ?_)
            refine W_rn ?_
            refine KLoopM_n (IntKind.wrap .i64 (x7 + 1)) () hm ?_
            exact ls
         ·rw [if_neg h9] at hm
          refine W_condf rfl (decide_eq_false h9) ?_
          refine W_exit ?_
          have ho17 := out_eq hm hr1
          subst ho17
          replace hm : ref_headOf_j3 = some r := hm1
          refine KThen_x ?_
          refine KLoopM_x ?_
          refine KBlock_hit ?_
          refine KJoinM_n () () hm ?_
          exact ls
       ·rintro _ _ hm
        replace hm : ref_headOf_j3 = some r := hm
        refine W_eqm ?_
        unfold ref_headOf_j3 at hm
        refine W_rg [135] ?_
        refine W_ret ?_
        refine KBody_ret [] ?_
        obtain rfl := Option.some.inj hm
        exact en
end Pam

/- the walk of ref_made, printed by a program of ours -/
namespace Pam
open Go Go.Proofs
set_option maxRecDepth 100000 in
set_option maxHeartbeats 1000000 in
theorem ref_made_ok (p1 : TSystem) (p2 : Int) (r : (List Int)) (hm : ref_made p1 p2 = some r) : SpecF Try.prog 85 [.a [.tree 2 (p1.vars.map TVar.enc), .tree 1 (p1.in_.map (eK .i64)), .tree 1 (p1.out_.map (eK .i64)), .tree 6 (p1.rules.map TRule.enc)], .c (.int .i64 p2)] (.c (.tree 1 (r.map (eK .i64)))) := by
 refine Spec_ofD 22 [.tmp 4] Try.func85 rfl rfl rfl (by kernel_rfl) (by simp) ?_
 refine W_eqf ?_
 unfold ref_made at hm
 refine W_rg [0, 4] ?_
 refine W_rg [] ?_
 refine W_ghost (Ghost_nil 5 1 3 (by decide) rfl (Nat.le_of_ble_eq_true rfl)) ?_
 refine W_eql ?_
 refine W_joinM (S := (List Int)) (V := Nat) [1, 2, 5, 6, 7, 8, 9, 10, 11, 12, 13, 14, 15, 16, 17, 18, 19, 20] (fun l3 v4 => [(5, .c (.osl 1 v4 0 l3.length))]) (fun l3 v4 => [.box [.tree 2 (p1.vars.map TVar.enc), .tree 1 (p1.in_.map (eK .i64)), .tree 1 (p1.out_.map (eK .i64)), .tree 6 (p1.rules.map TRule.enc)], .arr 1 v4 3 (l3.map (eK .i64))]) (fun l3 => ref_made_j1 l3 = some r) ?_ ?_
 ·skip
  refine W_rg [] ?_
  refine W_block ?_
  obtain ⟨o1, hl1, hm1⟩ := bd hm
  refine W_loopM (S := ((List Int) × Int)) (V := Nat) (O := (List Int)) [5, 6, 7, 8, 9, 10, 11, 12, 13, 14, 15, 16, 17, 18, 19, 20] (fun (l17, x19) v18 => [(5, .c (.osl 1 v18 0 l17.length)), (6, .c (.int .i64 x19))]) (fun (l17, x19) v18 => [.box [.tree 2 (p1.vars.map TVar.enc), .tree 1 (p1.in_.map (eK .i64)), .tree 1 (p1.out_.map (eK .i64)), .tree 6 (p1.rules.map TRule.enc)], .arr 1 v18 3 (l17.map (eK .i64))]) _ _ 0 hl1 ?_ ?_
  ·exact ls
  ·rintro ⟨l17, x19⟩ v18 r1 hm hr1
   replace hm : ref_made_l1 p1 p2 l17 x19 = some r1 := hm
   refine W_eqm ?_
   unfold ref_made_l1 at hm
   refine W_seq_k fun k1 hk1 => ?_
   refine W_rg [7, 8] ?_
   by_cases h1 : x19 < p2
   ·rw [if_pos h1] at hm
    refine W_condt rfl (decide_eq_true h1) ?_
    refine W_skip ?_
    refine KThen_n (hk1 _ _ ?_)
    refine W_seq_k fun k2 hk2 => ?_
    refine W_block ?_
    obtain ⟨⟨hg2a, ⟨hg2bx, hg2by⟩⟩, hm⟩ := gd hm
    refine W_rnx (em TRule.enc p1.rules x19.toNat) ?_
    refine KBlock_n ?_
    refine KThen_n (hk2 _ _ ?_)
    refine W_rn ?_
    refine KLoopM_n ((l17 ++ (lit ([(p1.rules.getD x19.toNat default).out_] : List Int))), (IntKind.wrap .i64 (x19 + 1))) (v18 + 1) hm ?_
    exact ls
   ·rw [if_neg h1] at hm
    refine W_condf rfl (decide_eq_false h1) ?_
    refine W_exit ?_
    have ho3 := out_eq hm hr1
    subst ho3
    replace hm : ref_made_j1 l17 = some r := hm1
    refine KThen_x ?_
    refine KLoopM_x ?_
    refine KBlock_hit ?_
    refine KJoinM_n l17 v18 hm ?_
    exact ls
 ·rintro l3 v4 hm
  replace hm : ref_made_j1 l3 = some r := hm
  refine W_eqm ?_
  unfold ref_made_j1 at hm
  refine W_rg [5, 21] ?_
  refine W_gh (Ghost_fr 1 rfl) ?_
  refine W_ret ?_
  refine KBody_ret [] ?_
  obtain rfl := Option.some.inj hm
  exact en
end Pam

/- the walk of ref_partsOf, printed by a program of ours -/
namespace Pam
open Go Go.Proofs
set_option maxRecDepth 100000 in
set_option maxHeartbeats 1000000 in
theorem ref_partsOf_ok (p1 : Int) (r : Int) (hm : ref_partsOf p1 = some r) : SpecF Try.prog 86 [.c (.int .i64 p1)] (.c (.int .i64 r)) := by
  refine Spec_ofD 17 [.tmp 2] Try.func86 rfl rfl rfl (by kernel_rfl) (by simp) ?_
  refine W_eqE (by simp only [argSlots, Env.ofList, List.length_nil, List.length_cons, bE, Nat.reduceDiv, Nat.reduceMod, Nat.reduceLT, Nat.reduceLeDiff, Nat.reduceAdd, Nat.reduceSub, Nat.reduceMul, Nat.reduceEqDiff, Nat.reduceBEq, Nat.reduceBNe, Nat.reduceGT, Int.reduceToNat]; rfl) rfl ?_
  unfold ref_partsOf at hm
  refine W_regF [2] fun k kp hk hp => ?_
  simp only [bR, bT, tab, bX, reduceIte, ↓reduceIte, reduceCtorEq, Int.reduceToNat, Nat.reduceDiv, Nat.reduceMod, Nat.reduceLT, Nat.reduceLeDiff, Nat.reduceAdd, Nat.reduceSub, Nat.reduceMul, Nat.reduceEqDiff, Nat.reduceBEq, Nat.reduceBNe, Nat.reduceGT]
  repeat refine ⟨by first | omega | assumption | decide | exact all_len fun _ => rfl | (intro _; omega) | rfl | exact fun e => absurd (List.map_eq_nil_iff.1 e) (by assumption) | (and_intros <;> first | omega | assumption | decide | exact all_len fun _ => rfl), ?_⟩
  refine hk _ _ ?_
  clear hk hp k kp
  refine W_regF [4] fun k kp hk hp => ?_
  simp only [bR, bT, tab, bX, reduceIte, ↓reduceIte, reduceCtorEq, Int.reduceToNat, Nat.reduceDiv, Nat.reduceMod, Nat.reduceLT, Nat.reduceLeDiff, Nat.reduceAdd, Nat.reduceSub, Nat.reduceMul, Nat.reduceEqDiff, Nat.reduceBEq, Nat.reduceBNe, Nat.reduceGT, List.replicate, List.foldr]
  repeat refine ⟨by first | omega | assumption | decide | exact all_len fun _ => rfl | (intro _; omega) | rfl | exact fun e => absurd (List.map_eq_nil_iff.1 e) (by assumption) | (and_intros <;> first | omega | assumption | decide | exact all_len fun _ => rfl), ?_⟩
  refine hk _ _ ?_
  clear hk hp k kp
  refine W_eqE rfl (show _ = [.arr 1 0 3 ((lit ([(-1), 0, 1, 1, 2, 3, 2, 2, 1, 3, 3, 1, 2, 2, 0, 1, 1] : List Int)).map (eK .i64))] from by first | rfl | (simp only [List.take_of_length_le, List.length_map, List.length_append, List.length_cons, List.length_nil, List.length_replicate, List.length_set, List.map_append, List.map_cons, List.map_nil, List.map_replicate, List.map_set, Nat.le_refl, Nat.zero_add, List.nil_append, List.set_cons_zero, List.set_cons_succ, bX, eK, eB, eS, eL]; done) | (simp only [List.take_of_length_le, List.length_map, List.length_append, List.length_cons, List.length_nil, List.length_replicate, List.length_set, List.map_append, List.map_cons, List.map_nil, List.map_replicate, List.map_set, Nat.le_refl, Nat.zero_add, List.nil_append, List.set_cons_zero, List.set_cons_succ, bX, eK, eB, eS, eL]; rfl) | (simp; done)) ?_
  refine W_seq_k fun k1 hk1 => ?_
  by_cases h1 : p1 < 0
  · rw [if_pos h1] at hm
    have h1b : decide (p1 < 0) = true := decide_eq_true h1
    refine W_regF [5, 6, 7, 8, 9, 10, 11] fun k kp hk hp => ?_
    simp only [bR, bT, tab, bX, reduceIte, ↓reduceIte, reduceCtorEq, Int.reduceToNat, Nat.reduceDiv, Nat.reduceMod, Nat.reduceLT, Nat.reduceLeDiff, Nat.reduceAdd, Nat.reduceSub, Nat.reduceMul, Nat.reduceEqDiff, Nat.reduceBEq, Nat.reduceBNe, Nat.reduceGT, h1b]
    repeat refine ⟨by first | omega | assumption | decide | exact all_len fun _ => rfl | (intro _; omega) | rfl | exact fun e => absurd (List.map_eq_nil_iff.1 e) (by assumption) | (and_intros <;> first | omega | assumption | decide | exact all_len fun _ => rfl), ?_⟩
    refine hk _ _ ?_
    clear hk hp k kp
    refine W_condt rfl rfl ?_
    refine W_regF [0, 3, 12] fun k kp hk hp => ?_
    simp only [bR, bT, tab, bX, reduceIte, ↓reduceIte, reduceCtorEq, Int.reduceToNat, Nat.reduceDiv, Nat.reduceMod, Nat.reduceLT, Nat.reduceLeDiff, Nat.reduceAdd, Nat.reduceSub, Nat.reduceMul, Nat.reduceEqDiff, Nat.reduceBEq, Nat.reduceBNe, Nat.reduceGT]
    repeat refine ⟨by first | omega | assumption | decide | exact all_len fun _ => rfl | (intro _; omega) | rfl | exact fun e => absurd (List.map_eq_nil_iff.1 e) (by assumption) | (and_intros <;> first | omega | assumption | decide | exact all_len fun _ => rfl), ?_⟩
    refine hk _ _ ?_
    clear hk hp k kp
    refine W_ret ?_
    refine KThen_r ?_
    refine KBody_ret [] ?_
    obtain rfl := Option.some.inj hm
    simp only [bF, bT, tab, bX, Sum.elim_inl, Sum.elim_inr, reduceIte, ↓reduceIte, reduceCtorEq, Int.reduceToNat, Nat.reduceDiv, Nat.reduceMod, Nat.reduceLT, Nat.reduceLeDiff, Nat.reduceAdd, Nat.reduceSub, Nat.reduceMul, Nat.reduceEqDiff, Nat.reduceBEq, Nat.reduceBNe, Nat.reduceGT] <;> first | done | rfl | (and_intros <;> first | rfl | omega | (simp; done))
  · rw [if_neg h1] at hm
    have h1b : decide (p1 < 0) = false := decide_eq_false h1
    refine W_regF [5, 6, 7, 8, 9, 10, 11] fun k kp hk hp => ?_
    simp only [bR, bT, tab, bX, reduceIte, ↓reduceIte, reduceCtorEq, Int.reduceToNat, Nat.reduceDiv, Nat.reduceMod, Nat.reduceLT, Nat.reduceLeDiff, Nat.reduceAdd, Nat.reduceSub, Nat.reduceMul, Nat.reduceEqDiff, Nat.reduceBEq, Nat.reduceBNe, Nat.reduceGT, h1b]
    repeat refine ⟨by first | omega | assumption | decide | exact all_len fun _ => rfl | (intro _; omega) | rfl | exact fun e => absurd (List.map_eq_nil_iff.1 e) (by assumption) | (and_intros <;> first | omega | assumption | decide | exact all_len fun _ => rfl), ?_⟩
    refine hk _ _ ?_
    clear hk hp k kp
    by_cases h2 : p1 ≥ (17 : Int)
    · rw [if_pos h2] at hm
      refine W_condt rfl (decide_eq_true h2) ?_
      refine W_regF [0, 3, 12] fun k kp hk hp => ?_
      simp only [bR, bT, tab, bX, reduceIte, ↓reduceIte, reduceCtorEq, Int.reduceToNat, Nat.reduceDiv, Nat.reduceMod, Nat.reduceLT, Nat.reduceLeDiff, Nat.reduceAdd, Nat.reduceSub, Nat.reduceMul, Nat.reduceEqDiff, Nat.reduceBEq, Nat.reduceBNe, Nat.reduceGT]
      repeat refine ⟨by first | omega | assumption | decide | exact all_len fun _ => rfl | (intro _; omega) | rfl | exact fun e => absurd (List.map_eq_nil_iff.1 e) (by assumption) | (and_intros <;> first | omega | assumption | decide | exact all_len fun _ => rfl), ?_⟩
      refine hk _ _ ?_
      clear hk hp k kp
      refine W_ret ?_
      refine KThen_r ?_
      refine KBody_ret [] ?_
      obtain rfl := Option.some.inj hm
      simp only [bF, bT, tab, bX, Sum.elim_inl, Sum.elim_inr, reduceIte, ↓reduceIte, reduceCtorEq, Int.reduceToNat, Nat.reduceDiv, Nat.reduceMod, Nat.reduceLT, Nat.reduceLeDiff, Nat.reduceAdd, Nat.reduceSub, Nat.reduceMul, Nat.reduceEqDiff, Nat.reduceBEq, Nat.reduceBNe, Nat.reduceGT] <;> first | done | rfl | (and_intros <;> first | rfl | omega | (simp; done))
    · rw [if_neg h2] at hm
      refine W_condf rfl (decide_eq_false h2) ?_
      refine W_skip ?_
      refine KThen_n (hk1 _ _ ?_)
      obtain ⟨hg3a, hm⟩ := gd hm
      refine W_regF [0, 3, 12, 13, 14, 15, 16] fun k kp hk hp => ?_
      simp only [bR, bT, tab, bX, reduceIte, ↓reduceIte, reduceCtorEq, Int.reduceToNat, Nat.reduceDiv, Nat.reduceMod, Nat.reduceLT, Nat.reduceLeDiff, Nat.reduceAdd, Nat.reduceSub, Nat.reduceMul, Nat.reduceEqDiff, Nat.reduceBEq, Nat.reduceBNe, Nat.reduceGT, elt_map (eK .i64) (lit ([(-1), 0, 1, 1, 2, 3, 2, 2, 1, 3, 3, 1, 2, 2, 0, 1, 1] : List Int)) p1.toNat (by first | omega | (simp only [len_lit, List.length_cons, List.length_nil, List.length_append, List.length_set, List.length_replicate, List.length_map, List.length_take, List.length_drop]; omega))]
      repeat refine ⟨by first | omega | assumption | decide | exact all_len fun _ => rfl | (intro _; omega) | rfl | exact fun e => absurd (List.map_eq_nil_iff.1 e) (by assumption) | (and_intros <;> first | omega | assumption | decide | exact all_len fun _ => rfl), ?_⟩
      refine hk _ _ ?_
      clear hk hp k kp
      refine W_ret ?_
      refine KBody_ret [] ?_
      obtain rfl := Option.some.inj hm
      simp only [bF, bT, tab, bX, Sum.elim_inl, Sum.elim_inr, reduceIte, ↓reduceIte, reduceCtorEq, Int.reduceToNat, Nat.reduceDiv, Nat.reduceMod, Nat.reduceLT, Nat.reduceLeDiff, Nat.reduceAdd, Nat.reduceSub, Nat.reduceMul, Nat.reduceEqDiff, Nat.reduceBEq, Nat.reduceBNe, Nat.reduceGT] <;> first | done | rfl | (and_intros <;> first | rfl | omega | (simp; done))
end Pam

/- the walk of ref_insert, printed by a program of ours -/
namespace Pam
open Go Go.Proofs
set_option maxRecDepth 100000 in
set_option maxHeartbeats 1000000 in
theorem ref_insert_ok (p1 : List Int) (p2 : Int) (r : (List Int)) (hm : ref_insert p1 p2 = some r) : SpecF Try.prog 92 [.c (.tree 1 (p1.map (eK .i64))), .c (.int .i64 p2)] (.c (.tree 1 (r.map (eK .i64)))) := by
 refine Spec_ofD 48 [.tmp 4] Try.func92 rfl rfl rfl (by kernel_rfl) (by simp) ?_
 refine W_eqf ?_
 unfold ref_insert at hm
 refine W_rg [4] ?_
 refine W_rg [] ?_
 refine W_rg [] ?_
 refine W_ghost (Ghost_nil 5 1 3 (by decide) rfl (Nat.le_of_ble_eq_true rfl)) ?_
 refine W_eql ?_
 refine W_joinM (S := ((List Int) × Bool)) (V := Nat) [0, 5, 6, 7, 8, 9, 10, 11, 12, 13, 14, 15, 16, 17, 18, 19, 20, 21, 22, 23, 24, 25, 26, 27, 28, 29, 30, 31, 32, 33, 34, 35, 36, 37, 38, 39, 40] (fun (l3, b5) v4 => [(5, .c (.osl 0 v4 0 l3.length)), (6, .c (.bool b5))]) (fun (l3, b5) v4 => [.arr 1 v4 3 (l3.map (eK .i64))]) (fun (l3, b5) => ref_insert_j1 p2 l3 b5 = some r) ?_ ?_
 ·skip
  refine W_rg [] ?_
  refine W_block ?_
  obtain ⟨o1, hl1, hm1⟩ := bd hm
  refine W_loopM (S := ((List Int) × Bool × Int)) (V := Nat) (O := ((List Int) × Bool)) [5, 6, 7, 8, 9, 10, 11, 12, 13, 14, 15, 16, 17, 18, 19, 20, 21, 22, 23, 24, 25, 26, 27, 28, 29, 30, 31, 32, 33, 34, 35, 36, 37, 38, 39, 40] (fun (l20, b22, x23) v21 => [(5, .c (.osl 0 v21 0 l20.length)), (6, .c (.bool b22)), (7, .c (.int .i64 x23))]) (fun (l20, b22, x23) v21 => [.arr 1 v21 3 (l20.map (eK .i64))]) _ _ 0 hl1 ?_ ?_
  ·exact ls
  ·rintro ⟨l20, b22, x23⟩ v21 r1 hm hr1
   replace hm : ref_insert_l1 p1 p2 l20 b22 x23 = some r1 := hm
   refine W_eqm ?_
   unfold ref_insert_l1 at hm
   refine W_seq_k fun k2 hk2 => ?_
   refine W_rg [8, 9, 10] ?_
   by_cases h3 : x23 < (p1.length : Int)
   ·rw [if_pos h3] at hm
    refine W_condt rfl (decide_eq_true h3) ?_
    refine W_skip ?_
    refine KThen_n (hk2 _ _ ?_)
    refine W_seq_k fun k3 hk3 => ?_
    refine W_block ?_
    refine W_joinM (S := ((List Int) × Bool)) (V := Nat) [5, 6, 11, 14, 15, 16, 17, 18, 19, 20, 21, 22, 23, 24, 25, 26, 27, 28, 29, 30, 31, 32, 33] (fun (l26, b28) v27 => [(5, .c (.osl 0 v27 0 l26.length)), (6, .c (.bool b28))]) (fun (l26, b28) v27 => [.arr 1 v27 3 (l26.map (eK .i64))]) (fun (l26, b28) => ref_insert_j2 p1 x23 l26 b28 = some r1) ?_ ?_
    ·skip
     by_cases h5 : b22 = true
     ·rw [if_pos h5] at hm
      have h5b : b22 = true := h5
      have h5c : (!b22) = false := by rw [h5b]; rfl
      refine W_rgx (a2 h5b h5c) [11, 14, 15, 16, 17, 18, 19, 20, 21, 22] ?_
      refine W_condf rfl rfl ?_
      refine W_skip ?_
      refine KJoinM_n (l20, b22) v21 hm ?_
      first | (simp only [bS, bX, reduceIte, ↓reduceIte, reduceCtorEq, Int.reduceToNat, Nat.reduceDiv, Nat.reduceMod, Nat.reduceLT, Nat.reduceLeDiff, Nat.reduceAdd, Nat.reduceSub, Nat.reduceMul, Nat.reduceEqDiff, Nat.reduceBEq, Nat.reduceBNe, Nat.reduceGT] <;> first | done | (and_intros <;> first | rfl | (simp; done) | omega | (simp [lit, bX, eK, eB, eS, eL]; done) | (simp only [len_lit, List.length_cons, List.length_nil, List.length_append, List.length_set, List.length_replicate, List.length_map, List.length_take, List.length_drop]; omega))) | (simp only [bS, bX, reduceIte, ↓reduceIte, reduceCtorEq, Int.reduceToNat, Nat.reduceDiv, Nat.reduceMod, Nat.reduceLT, Nat.reduceLeDiff, Nat.reduceAdd, Nat.reduceSub, Nat.reduceMul, Nat.reduceEqDiff, Nat.reduceBEq, Nat.reduceBNe, Nat.reduceGT, *] <;> first | done | (and_intros <;> first | rfl | (simp; done) | omega | (simp [lit, bX, eK, eB, eS, eL]; done) | (simp only [len_lit, List.length_cons, List.length_nil, List.length_append, List.length_set, List.length_replicate, List.length_map, List.length_take, List.length_drop]; omega)))
     ·rw [if_neg h5] at hm
      have h5b : b22 = false := Bool.eq_false_iff.2 h5
      have h5c : (!b22) = true := by rw [h5b]; rfl
      obtain ⟨hg6a, hm⟩ := gd hm
      refine W_rgx (a2 (em (eK .i64) p1 x23.toNat) (a2 h5b h5c)) [11, 14, 15, 16, 17, 18, 19, 20, 21, 22] ?_
      by_cases h7 : (p1.getD x23.toNat default) ≥ p2
      ·rw [if_pos h7] at hm
       refine W_condt rfl (decide_eq_true h7) ?_
       refine W_seq_k fun k4 hk4 => ?_
       refine W_rgx (em (eK .i64) p1 x23.toNat) [6, 23, 24, 25, 26, 27, 28] ?_
       by_cases h8 : (p1.getD x23.toNat default) > p2
       ·rw [if_pos h8] at hm
        refine W_condt rfl (decide_eq_true h8) ?_
        obtain ⟨⟨hg9ax, hg9ay⟩, hm⟩ := gd hm
        refine W_rn ?_
        refine KThen_n (hk4 _ _ ?_)
        refine W_rn ?_
        refine KJoinM_n ((l20 ++ (lit ([p2] : List Int))), true) (v21 + 1) hm ?_
        first | (simp only [bS, bX, reduceIte, ↓reduceIte, reduceCtorEq, Int.reduceToNat, Nat.reduceDiv, Nat.reduceMod, Nat.reduceLT, Nat.reduceLeDiff, Nat.reduceAdd, Nat.reduceSub, Nat.reduceMul, Nat.reduceEqDiff, Nat.reduceBEq, Nat.reduceBNe, Nat.reduceGT] <;> first | done | (and_intros <;> first | rfl | (simp; done) | omega | (simp [lit, bX, eK, eB, eS, eL]; done) | (simp only [len_lit, List.length_cons, List.length_nil, List.length_append, List.length_set, List.length_replicate, List.length_map, List.length_take, List.length_drop]; omega))) | (simp only [bS, bX, reduceIte, ↓reduceIte, reduceCtorEq, Int.reduceToNat, Nat.reduceDiv, Nat.reduceMod, Nat.reduceLT, Nat.reduceLeDiff, Nat.reduceAdd, Nat.reduceSub, Nat.reduceMul, Nat.reduceEqDiff, Nat.reduceBEq, Nat.reduceBNe, Nat.reduceGT, *] <;> first | done | (and_intros <;> first | rfl | (simp; done) | omega | (simp [lit, bX, eK, eB, eS, eL]; done) | (simp only [len_lit, List.length_cons, List.length_nil, List.length_append, List.length_set, List.length_replicate, List.length_map, List.length_take, List.length_drop]; omega)))
       ·rw [if_neg h8] at hm
        refine W_condf rfl (decide_eq_false h8) ?_
        refine W_skip ?_
        refine KThen_n (hk4 _ _ ?_)
        refine W_rn ?_
        refine KJoinM_n (l20, true) v21 hm ?_
        first | (simp only [bS, bX, reduceIte, ↓reduceIte, reduceCtorEq, Int.reduceToNat, Nat.reduceDiv, Nat.reduceMod, Nat.reduceLT, Nat.reduceLeDiff, Nat.reduceAdd, Nat.reduceSub, Nat.reduceMul, Nat.reduceEqDiff, Nat.reduceBEq, Nat.reduceBNe, Nat.reduceGT] <;> first | done | (and_intros <;> first | rfl | (simp; done) | omega | (simp [lit, bX, eK, eB, eS, eL]; done) | (simp only [len_lit, List.length_cons, List.length_nil, List.length_append, List.length_set, List.length_replicate, List.length_map, List.length_take, List.length_drop]; omega))) | (simp only [bS, bX, reduceIte, ↓reduceIte, reduceCtorEq, Int.reduceToNat, Nat.reduceDiv, Nat.reduceMod, Nat.reduceLT, Nat.reduceLeDiff, Nat.reduceAdd, Nat.reduceSub, Nat.reduceMul, Nat.reduceEqDiff, Nat.reduceBEq, Nat.reduceBNe, Nat.reduceGT, *] <;> first | done | (and_intros <;> first | rfl | (simp; done) | omega | (simp [lit, bX, eK, eB, eS, eL]; done) | (simp only [len_lit, List.length_cons, List.length_nil, List.length_append, List.length_set, List.length_replicate, List.length_map, List.length_take, List.length_drop]; omega)))
      ·rw [if_neg h7] at hm
       refine W_condf rfl (decide_eq_false h7) ?_
       refine W_skip ?_
       refine KJoinM_n (l20, b22) v21 hm ?_
       first | (simp only [bS, bX, reduceIte, ↓reduceIte, reduceCtorEq, Int.reduceToNat, Nat.reduceDiv, Nat.reduceMod, Nat.reduceLT, Nat.reduceLeDiff, Nat.reduceAdd, Nat.reduceSub, Nat.reduceMul, Nat.reduceEqDiff, Nat.reduceBEq, Nat.reduceBNe, Nat.reduceGT] <;> first | done | (and_intros <;> first | rfl | (simp; done) | omega | (simp [lit, bX, eK, eB, eS, eL]; done) | (simp only [len_lit, List.length_cons, List.length_nil, List.length_append, List.length_set, List.length_replicate, List.length_map, List.length_take, List.length_drop]; omega))) | (simp only [bS, bX, reduceIte, ↓reduceIte, reduceCtorEq, Int.reduceToNat, Nat.reduceDiv, Nat.reduceMod, Nat.reduceLT, Nat.reduceLeDiff, Nat.reduceAdd, Nat.reduceSub, Nat.reduceMul, Nat.reduceEqDiff, Nat.reduceBEq, Nat.reduceBNe, Nat.reduceGT, *] <;> first | done | (and_intros <;> first | rfl | (simp; done) | omega | (simp [lit, bX, eK, eB, eS, eL]; done) | (simp only [len_lit, List.length_cons, List.length_nil, List.length_append, List.length_set, List.length_replicate, List.length_map, List.length_take, List.length_drop]; omega)))
    ·rintro ⟨l26, b28⟩ v27 hm
     replace hm : ref_insert_j2 p1 x23 l26 b28 = some r1 := hm
     refine W_eqm ?_
     unfold ref_insert_j2 at hm
     obtain ⟨⟨hg4a, ⟨hg4bx, hg4by⟩⟩, hm⟩ := gd hm
     refine W_rnx (em (eK .i64) p1 x23.toNat) ?_
     refine KBlock_n ?_
     refine KThen_n (hk3 _ _ ?_)
     refine W_rn ?_
     refine KLoopM_n ((l26 ++ (lit ([(p1.getD x23.toNat default)] : List Int))), b28, (IntKind.wrap .i64 (x23 + 1))) (v27 + 1) hm ?_
     exact ls
   ·rw [if_neg h3] at hm
    refine W_condf rfl (decide_eq_false h3) ?_
    refine W_exit ?_
    have ho10 := out_eq hm hr1
    subst ho10
    replace hm : ref_insert_j1 p2 l20 b22 = some r := hm1
    refine KThen_x ?_
    refine KLoopM_x ?_
    refine KBlock_hit ?_
    refine KJoinM_n (l20, b22) v21 hm ?_
    exact ls
 ·rintro ⟨l3, b5⟩ v4 hm
  replace hm : ref_insert_j1 p2 l3 b5 = some r := hm
  refine W_eqm ?_
  unfold ref_insert_j1 at hm
  refine W_seq_k fun k1 hk1 => ?_
  refine W_rg [6, 41] ?_
  by_cases h1 : b5 = true
  ·rw [if_pos h1] at hm
   refine W_condf rfl (by rw [show b5 = true from (h1)]; rfl) ?_
   refine W_skip ?_
   refine KThen_n (hk1 _ _ ?_)
   refine W_rg [1, 5, 42, 47] ?_
   refine W_gh (Ghost_fr 0 rfl) ?_
   refine W_ret ?_
   refine KBody_ret [] ?_
   obtain rfl := Option.some.inj hm
   exact en
  ·rw [if_neg h1] at hm
   refine W_condt rfl (by rw [show b5 = false from (Bool.eq_false_iff.2 h1)]; rfl) ?_
   obtain ⟨⟨hg2ax, hg2ay⟩, hm⟩ := gd hm
   refine W_rn ?_
   refine KThen_n (hk1 _ _ ?_)
   refine W_rg [1, 5, 42, 43, 44, 45, 46, 47] ?_
   refine W_eqa [.arr 1 (v4 + 1) 3 ((l3 ++ (lit ([p2] : List Int))).map (eK .i64)), .arr 1 0 3 ((lit ([p2] : List Int)).map (eK .i64))] ?_
   refine W_gh (Ghost_fr 0 rfl) ?_
   refine W_ret ?_
   refine KBody_ret [] ?_
   obtain rfl := Option.some.inj hm
   exact en
end Pam

/- the walk of ref_named, printed by a program of ours -/
namespace Pam
open Go Go.Proofs
set_option maxRecDepth 100000 in
set_option maxHeartbeats 1000000 in
theorem ref_named_ok (p1 : TPush) (r : Bool) (hm : ref_named p1 = some r) : SpecF Try.prog 93 [.a [.int .i64 p1.op, .int .i64 p1.k, .int .i64 p1.v, .int .i64 p1.n]] (.c (.bool r)) := by
 refine Spec_ofD 16 [.tmp 2] Try.func93 rfl rfl rfl (by kernel_rfl) (by simp) ?_
 refine W_eqf ?_
 unfold ref_named at hm
 refine W_rg [0, 2] ?_
 refine W_regG [1, 3, 4, 5, 6, 7, 8, 9, 10, 11, 12, 13, 14, 15] fun k kp hk hp => ?_
 refine RunRest_cut 4 ?_
 refine go ?_
 by_cases h1 : p1.op = 2
 ·rw [if_pos h1] at hm
  have h1b : (p1.op == 2) = true := beq_iff_eq.2 h1
  refine RunRest_ops ?_
  refine gox h1b ?_
  refine hk _ _ ?_
  clear hk hp k kp
  refine W_ret ?_
  refine KBody_ret [] ?_
  obtain rfl := Option.some.inj hm
  exact en
 ·rw [if_neg h1] at hm
  have h1b : (p1.op == 2) = false := beq_eq_false_iff_ne.2 h1
  refine RunRest_cut 5 ?_
  refine gox h1b ?_
  by_cases h2 : p1.op = 3
  ·rw [if_pos h2] at hm
   have h2b : (p1.op == 3) = true := beq_iff_eq.2 h2
   refine RunRest_ops ?_
   refine gox (a2 h1b h2b) ?_
   refine hk _ _ ?_
   clear hk hp k kp
   refine W_ret ?_
   refine KBody_ret [] ?_
   obtain rfl := Option.some.inj hm
   exact en
  ·rw [if_neg h2] at hm
   have h2b : (p1.op == 3) = false := beq_eq_false_iff_ne.2 h2
   refine RunRest_ops ?_
   refine gox (a2 h1b h2b) ?_
   refine hk _ _ ?_
   clear hk hp k kp
   refine W_ret ?_
   refine KBody_ret [] ?_
   obtain rfl := Option.some.inj hm
   exact en
end Pam

/- the walk of ref_Uses, printed by a program of ours -/
namespace Pam
open Go Go.Proofs
set_option maxRecDepth 100000 in
set_option maxHeartbeats 1000000 in
theorem ref_Uses_ok (p1 : TRule) (r : (List Int)) (hm : ref_Uses p1 = some r) : SpecF Try.prog 37 [.a [.int .i64 p1.op, .int .i64 p1.k, .int .i64 p1.out_, .int .i64 p1.n, .tree 1 (p1.a.map (eK .i64)), .tree 4 (p1.e.map TPush.enc)]] (.c (.tree 1 (r.map (eK .i64)))) := by
 refine Spec_ofD 42 [.tmp 2] Try.func37 rfl rfl rfl (by kernel_rfl) (by simp) ?_
 refine W_eqf ?_
 unfold ref_Uses at hm
 refine W_rg [0, 2] ?_
 refine W_rg [] ?_
 refine W_joinM (S := (List Int)) (V := Unit) [3, 4, 6, 7, 8, 9, 10, 11, 12, 13, 14, 15, 16, 17, 18, 19] (fun l1 _ => [(3, .c (.tree 1 (l1.map (eK .i64))))]) (fun l1 _ => [.box [.int .i64 p1.op, .int .i64 p1.k, .int .i64 p1.out_, .int .i64 p1.n, .tree 1 (p1.a.map (eK .i64)), .tree 4 (p1.e.map TPush.enc)]]) (fun l1 => ref_Uses_j1 p1 l1 = some r) ?_ ?_
 ·skip
  refine W_rg [] ?_
  refine W_block ?_
  refine W_ghost (Ghost_tree 3 1 rfl) ?_
  refine W_eqn ?_
  obtain ⟨o2, hl2, hm2⟩ := bd hm
  refine W_loopM (S := ((List Int) × Int)) (V := Unit) (O := (List Int)) [3, 4, 6, 7, 8, 9, 10, 11, 12, 13, 14, 15, 16, 17, 18, 19] (fun (l18, x19) _ => [(3, .c (.tree 1 (l18.map (eK .i64)))), (4, .c (.int .i64 x19))]) (fun (l18, x19) _ => [.box [.int .i64 p1.op, .int .i64 p1.k, .int .i64 p1.out_, .int .i64 p1.n, .tree 1 (p1.a.map (eK .i64)), .tree 4 (p1.e.map TPush.enc)]]) _ _ () hl2 ?_ ?_
  ·exact ls
  ·rintro ⟨l18, x19⟩ _ r2 hm hr2
   replace hm : ref_Uses_l2 p1 l18 x19 = some r2 := hm
   refine W_eqm ?_
   unfold ref_Uses_l2 at hm
   refine W_seq_k fun k3 hk3 => ?_
   refine W_rg [6, 7, 8, 9] ?_
   by_cases h7 : x19 < (p1.a.length : Int)
   ·rw [if_pos h7] at hm
    refine W_condt rfl (decide_eq_true h7) ?_
    refine W_skip ?_
    refine KThen_n (hk3 _ _ ?_)
    refine W_seq_k fun k4 hk4 => ?_
    refine W_block ?_
    obtain ⟨hg8a, hm⟩ := gd hm
    refine W_region fun k kp hk hp => ?_
    refine gox (em (eK .i64) p1.a x19.toNat) ?_
    obtain ⟨y20, hc9, hm⟩ := bd hm
    refine RP (fun _ => ref_insert_ok l18 (p1.a.getD x19.toNat default) _ hc9) ?_
    refine RunRest_ops ?_
    refine go ?_
    refine hk _ _ ?_
    clear hk hp k kp
    refine KBlock_n ?_
    refine KThen_n (hk4 _ _ ?_)
    refine W_rn ?_
    refine KLoopM_n (y20, (IntKind.wrap .i64 (x19 + 1))) () hm ?_
    exact ls
   ·rw [if_neg h7] at hm
    refine W_condf rfl (decide_eq_false h7) ?_
    refine W_exit ?_
    have ho10 := out_eq hm hr2
    subst ho10
    replace hm : ref_Uses_j1 p1 l18 = some r := hm2
    refine KThen_x ?_
    refine KLoopM_x ?_
    refine KBlock_hit ?_
    refine KJoinM_n l18 () hm ?_
    exact ls
 ·rintro l1 _ hm
  replace hm : ref_Uses_j1 p1 l1 = some r := hm
  refine W_eqm ?_
  unfold ref_Uses_j1 at hm
  refine W_joinM (S := (List Int)) (V := Unit) [1, 3, 5, 20, 21, 22, 23, 24, 25, 26, 27, 28, 29, 30, 31, 32, 33, 34, 35, 36, 37, 38, 39, 40] (fun l2 _ => [(3, .c (.tree 1 (l2.map (eK .i64))))]) (fun l2 _ => [.box [.int .i64 p1.op, .int .i64 p1.k, .int .i64 p1.out_, .int .i64 p1.n, .tree 1 (p1.a.map (eK .i64)), .tree 4 (p1.e.map TPush.enc)]]) (fun l2 => ref_Uses_j2 l2 = some r) ?_ ?_
  ·skip
   refine W_rg [] ?_
   refine W_block ?_
   obtain ⟨o1, hl1, hm1⟩ := bd hm
   refine W_loopM (S := ((List Int) × Int)) (V := Unit) (O := (List Int)) [3, 5, 20, 21, 22, 23, 24, 25, 26, 27, 28, 29, 30, 31, 32, 33, 34, 35, 36, 37, 38, 39, 40] (fun (l7, x8) _ => [(3, .c (.tree 1 (l7.map (eK .i64)))), (5, .c (.int .i64 x8))]) (fun (l7, x8) _ => [.box [.int .i64 p1.op, .int .i64 p1.k, .int .i64 p1.out_, .int .i64 p1.n, .tree 1 (p1.a.map (eK .i64)), .tree 4 (p1.e.map TPush.enc)]]) _ _ () hl1 ?_ ?_
   ·exact ls
   ·rintro ⟨l7, x8⟩ _ r1 hm hr1
    replace hm : ref_Uses_l1 p1 l7 x8 = some r1 := hm
    refine W_eqm ?_
    unfold ref_Uses_l1 at hm
    refine W_seq_k fun k1 hk1 => ?_
    refine W_rg [20, 21, 22, 23] ?_
    by_cases h1 : x8 < (p1.e.length : Int)
    ·rw [if_pos h1] at hm
     refine W_condt rfl (decide_eq_true h1) ?_
     refine W_skip ?_
     refine KThen_n (hk1 _ _ ?_)
     refine W_seq_k fun k2 hk2 => ?_
     refine W_block ?_
     obtain ⟨hg2a, hm⟩ := gd hm
     refine W_regF [24, 27, 28, 29, 30, 31] fun k kp hk hp => ?_
     refine gox (em TPush.enc p1.e x8.toNat) ?_
     obtain ⟨y9, hc3, hm⟩ := bd hm
     refine RP (fun _ => ref_named_ok (p1.e.getD x8.toNat default) _ hc3) ?_
     refine RunRest_ops ?_
     refine gox (em TPush.enc p1.e x8.toNat) ?_
     refine hk _ _ ?_
     clear hk hp k kp
     by_cases h4 : y9 = true
     ·rw [if_pos h4] at hm
      refine W_condt rfl (h4) ?_
      refine W_region fun k kp hk hp => ?_
      refine gox (em TPush.enc p1.e x8.toNat) ?_
      obtain ⟨y10, hc5, hm⟩ := bd hm
      refine RP (fun _ => ref_insert_ok l7 ((p1.e.getD x8.toNat default).v) _ hc5) ?_
      refine RunRest_ops ?_
      refine go ?_
      refine hk _ _ ?_
      clear hk hp k kp
      refine KBlock_n ?_
      refine KThen_n (hk2 _ _ ?_)
      refine W_rn ?_
      refine KLoopM_n (y10, (IntKind.wrap .i64 (x8 + 1))) () hm ?_
      exact ls
     ·rw [if_neg h4] at hm
      refine W_condf rfl (Bool.eq_false_iff.2 h4) ?_
      refine W_skip ?_
      refine KBlock_n ?_
      refine KThen_n (hk2 _ _ ?_)
      refine W_rn ?_
      refine KLoopM_n (l7, (IntKind.wrap .i64 (x8 + 1))) () hm ?_
      exact ls
    ·rw [if_neg h1] at hm
     refine W_condf rfl (decide_eq_false h1) ?_
     refine W_exit ?_
     have ho6 := out_eq hm hr1
     subst ho6
     replace hm : ref_Uses_j2 l7 = some r := hm1
     refine KThen_x ?_
     refine KLoopM_x ?_
     refine KBlock_hit ?_
     refine KJoinM_n l7 () hm ?_
     exact ls
  ·rintro l2 _ hm
   replace hm : ref_Uses_j2 l2 = some r := hm
   refine W_eqm ?_
   unfold ref_Uses_j2 at hm
   refine W_rg [3, 41] ?_
   refine W_ret ?_
   refine KBody_ret [] ?_
   obtain rfl := Option.some.inj hm
   exact en
end Pam

/- the walk of ref_used, printed by a program of ours -/
namespace Pam
open Go Go.Proofs
set_option maxRecDepth 100000 in
set_option maxHeartbeats 1000000 in
theorem ref_used_ok (p1 : TRule) (r : (List Int)) (hm : ref_used p1 = some r) : SpecF Try.prog 87 [.a [.int .i64 p1.op, .int .i64 p1.k, .int .i64 p1.out_, .int .i64 p1.n, .tree 1 (p1.a.map (eK .i64)), .tree 4 (p1.e.map TPush.enc)]] (.c (.tree 1 (r.map (eK .i64)))) := by
 refine Spec_ofD 9 [.tmp 2] Try.func87 rfl rfl rfl (by kernel_rfl) (by simp) ?_
 refine W_eqf ?_
 unfold ref_used at hm
 refine W_rg [0, 2] ?_
 refine W_joinM (S := (List TPush)) (V := Unit) [3, 4, 5, 6] (fun l1 _ => []) (fun l1 _ => [.box [.int .i64 p1.op, .int .i64 p1.k, .int .i64 p1.out_, .int .i64 p1.n, .tree 1 (p1.a.map (eK .i64)), .tree 4 (l1.map TPush.enc)]]) (fun l1 => ref_used_j1 p1 l1 = some r) ?_ ?_
 ·skip
  refine W_rg [3, 4] ?_
  by_cases h2 : p1.op < 14
  ·rw [if_pos h2] at hm
   refine W_condt rfl (decide_eq_true h2) ?_
   refine W_rn ?_
   refine KJoinM_g (Ghost_ntB 0 [.int .i64 p1.op, .int .i64 p1.k, .int .i64 p1.out_, .int .i64 p1.n, .tree 1 (p1.a.map (eK .i64)), .tree 4 []] rfl (by and_intros <;> trivial)) ?_
   refine gz ?_
   refine KJoinM_n [] () hm ?_
   exact ls
  ·rw [if_neg h2] at hm
   refine W_condf rfl (decide_eq_false h2) ?_
   refine W_skip ?_
   refine KJoinM_n p1.e () hm ?_
   exact ls
 ·rintro l1 _ hm
  replace hm : ref_used_j1 p1 l1 = some r := hm
  refine W_eqm ?_
  unfold ref_used_j1 at hm
  refine W_regF [1, 7, 8] fun k kp hk hp => ?_
  refine go ?_
  obtain ⟨y2, hc1, hm⟩ := bd hm
  refine RP (fun _ => ref_Uses_ok (TRule.mk p1.op p1.k p1.out_ p1.n p1.a l1) _ hc1) ?_
  refine RunRest_ops ?_
  refine go ?_
  refine hk _ _ ?_
  clear hk hp k kp
  refine W_ret ?_
  refine KBody_ret [] ?_
  obtain rfl := Option.some.inj hm
  exact en
end Pam

/- the walk of ref_OpOf, printed by a program of ours -/
namespace Pam
open Go Go.Proofs
set_option maxRecDepth 100000 in
set_option maxHeartbeats 1000000 in
theorem ref_OpOf_ok (p1 : Int) (r : (Int × Int × Int)) (hm : ref_OpOf p1 = some r) : SpecF Try.prog 120 [.c (.int .i64 p1)] (.t [.c (.int .u8 r.1), .c (.int .u8 r.2.1), .c (.int .i64 r.2.2)]) := by
 refine Spec_ofD 23 [.tmp 2, .tmp 3, .tmp 4] Try.func120 rfl rfl rfl (by kernel_rfl) (by simp) ?_
 refine W_eqf ?_
 unfold ref_OpOf at hm
 refine W_rg [2, 3, 4] ?_
 refine W_rg [] ?_
 refine W_rg [] ?_
 refine W_seq_k fun k1 hk1 => ?_
 by_cases h1 : p1 < 1
 ·rw [if_pos h1] at hm
  have h1b : decide (p1 < 1) = true := decide_eq_true h1
  refine W_rgx h1b [8, 9, 10, 11, 12] ?_
  refine W_condt rfl rfl ?_
  refine W_rg [0, 5, 6, 13] ?_
  refine W_ret ?_
  refine KThen_r ?_
  refine KBody_ret [] ?_
  obtain rfl := Option.some.inj hm
  exact en
 ·rw [if_neg h1] at hm
  have h1b : decide (p1 < 1) = false := decide_eq_false h1
  refine W_rgx h1b [8, 9, 10, 11, 12] ?_
  by_cases h2 : p1 > 14
  ·rw [if_pos h2] at hm
   refine W_condt rfl (decide_eq_true h2) ?_
   refine W_rg [0, 5, 6, 13] ?_
   refine W_ret ?_
   refine KThen_r ?_
   refine KBody_ret [] ?_
   obtain rfl := Option.some.inj hm
   exact en
  ·rw [if_neg h2] at hm
   refine W_condf rfl (decide_eq_false h2) ?_
   refine W_skip ?_
   refine KThen_n (hk1 _ _ ?_)
   refine W_rg [13] ?_
   refine W_joinM (S := Int) (V := Unit) [7, 14, 15] (fun x1 _ => [(7, .c (.int .i64 x1))]) (fun x1 _ => []) (fun x1 => ref_OpOf_j1 p1 x1 = some r) ?_ ?_
   ·skip
    refine W_rg [14] ?_
    by_cases h4 : p1 ≥ 13
    ·rw [if_pos h4] at hm
     refine W_condt rfl (decide_eq_true h4) ?_
     refine W_rn ?_
     refine KJoinM_n 1 () hm ?_
     exact ls
    ·rw [if_neg h4] at hm
     refine W_condf rfl (decide_eq_false h4) ?_
     refine W_skip ?_
     refine KJoinM_n 2 () hm ?_
     exact ls
   ·rintro x1 _ hm
    replace hm : ref_OpOf_j1 p1 x1 = some r := hm
    refine W_eqm ?_
    unfold ref_OpOf_j1 at hm
    obtain ⟨⟨hg3a, hg3b⟩, hm⟩ := gd hm
    refine W_ag [0, 5, 6, 7, 16, 17, 18, 19, 20, 21, 22] [0, 0, 3, 0, 0, 24, 0, 7, 191, 511] [false, false, false, false, false, false, false, false, false, true] ?_
    refine W_ret ?_
    refine KBody_ret [] ?_
    obtain rfl := Option.some.inj hm
    exact en
end Pam

/- the walk of ref_Folds, printed by a program of ours -/
namespace Pam
open Go Go.Proofs
set_option maxRecDepth 100000 in
set_option maxHeartbeats 1000000 in
theorem ref_Folds_ok (p1 : Int) (r : Bool) (hm : ref_Folds p1 = some r) : SpecF Try.prog 129 [.c (.int .i64 p1)] (.c (.bool r)) := by
 refine Spec_ofD 19 [.tmp 2] Try.func129 rfl rfl rfl (by kernel_rfl) (by simp) ?_
 refine W_eqf ?_
 unfold ref_Folds at hm
 refine W_rg [2] ?_
 refine W_regF [0, 6, 7, 8, 9, 10, 11] fun k kp hk hp => ?_
 refine go ?_
 obtain ⟨y1, hc1, hm⟩ := bd hm
 refine RP (fun _ => ref_OpOf_ok p1 _ hc1) ?_
 refine RunRest_ops ?_
 refine go ?_
 refine hk _ _ ?_
 clear hk hp k kp
 by_cases h2 : y1.2.2 = 2
 ·rw [if_pos h2] at hm
  have h2b : (y1.2.2 == 2) = true := beq_iff_eq.2 h2
  refine W_rgx h2b [3, 4, 5, 12, 13, 14, 15, 16, 17, 18] ?_
  refine W_ret ?_
  refine KBody_ret [] ?_
  obtain rfl := Option.some.inj hm
  exact en
 ·rw [if_neg h2] at hm
  have h2b : (y1.2.2 == 2) = false := beq_eq_false_iff_ne.2 h2
  refine W_rgx h2b [3, 4, 5, 12, 13, 14, 15, 16, 17, 18] ?_
  refine W_ret ?_
  refine KBody_ret [] ?_
  obtain rfl := Option.some.inj hm
  exact en
end Pam

/- the walk of ref_small6, printed by a program of ours -/
namespace Pam
open Go Go.Proofs
set_option maxRecDepth 100000 in
set_option maxHeartbeats 1000000 in
theorem ref_small6_ok (p1 : Int) (r : Bool) (hm : ref_small6 p1 = some r) : SpecF Try.prog 151 [.c (.int .i64 p1)] (.c (.bool r)) := by
 refine Spec_ofD 9 [.tmp 2] Try.func151 rfl rfl rfl (by kernel_rfl) (by simp) ?_
 refine W_eqf ?_
 unfold ref_small6 at hm
 refine W_rg [2] ?_
 by_cases h1 : p1 ≥ (-1000000)
 ·rw [if_pos h1] at hm
  have h1b : decide (p1 ≥ (-1000000)) = true := decide_eq_true h1
  refine W_rgx h1b [0, 3, 4, 5, 6, 7, 8] ?_
  refine W_ret ?_
  refine KBody_ret [] ?_
  obtain rfl := Option.some.inj hm
  exact en
 ·rw [if_neg h1] at hm
  have h1b : decide (p1 ≥ (-1000000)) = false := decide_eq_false h1
  refine W_rgx h1b [0, 3, 4, 5, 6, 7, 8] ?_
  refine W_ret ?_
  refine KBody_ret [] ?_
  obtain rfl := Option.some.inj hm
  exact en
end Pam

/- the walk of ref_Tree, printed by a program of ours -/
namespace Pam
open Go Go.Proofs
set_option maxRecDepth 100000 in
set_option maxHeartbeats 8000000 in
theorem ref_Tree_ok (p1 : TSystem) (p2 : List TPush) (p3 : Int) (r : Int) (hm : ref_Tree p1 p2 p3 = some r) : SpecF Try.prog 130 [.a [.tree 2 (p1.vars.map TVar.enc), .tree 1 (p1.in_.map (eK .i64)), .tree 1 (p1.out_.map (eK .i64)), .tree 6 (p1.rules.map TRule.enc)], .c (.tree 4 (p2.map TPush.enc)), .c (.int .i64 p3)] (.c (.int .u8 r)) := by
 refine Spec_ofD 277 [.tmp 6] Try.func130 rfl rfl rfl (by kernel_rfl) (by simp) ?_
 refine W_eqf ?_
 unfold ref_Tree at hm
 refine W_rg [0, 6] ?_
 refine W_rg [] ?_
 refine W_ghost (Ghost_nil 7 1 5 (by decide) rfl (Nat.le_of_ble_eq_true rfl)) ?_
 refine W_eql ?_
 refine W_joinM (S := (List Int)) (V := Nat) [1, 2, 3, 6, 7, 8, 9, 10, 11, 12, 13, 14, 15, 16, 17, 18, 19, 20, 21, 22, 23, 24, 25, 26, 27, 28, 29, 30, 31, 32, 33, 34, 35, 36, 37, 38, 39, 40, 41, 42, 43, 44, 45, 46, 47, 48, 49, 50, 51, 52, 53, 54, 55, 56, 57, 58, 59, 60, 61, 62, 63, 64, 65, 66, 67, 68, 69, 70, 71, 72, 73, 74, 75, 76, 77, 78, 79, 80, 81, 82, 83, 84, 85, 86, 87, 88, 89, 90, 91, 92, 93, 94, 95, 96, 97, 98, 99, 100, 101, 102, 103, 104, 105, 106, 107, 108, 109, 110, 111, 112, 113, 114, 115, 116, 117, 118, 119, 120, 121, 122, 123, 124, 125, 126, 127, 128, 129, 130, 131, 132, 133, 134, 135, 136, 137, 138, 139, 140, 141, 142, 143, 144, 145, 146, 147, 148, 149, 150, 151, 152, 153, 154, 155, 156, 157, 158, 159, 160, 161, 162, 163, 164, 165, 166, 167, 168, 169, 170, 171, 172, 173, 174, 175, 176, 177, 178, 179, 180, 181, 182, 183, 184, 185, 186, 187, 188, 189, 190, 191, 192, 193, 194, 195, 196, 197, 198, 199, 200, 201, 202, 203, 204, 205, 206, 207, 208, 209, 210, 211, 212, 213, 214, 215, 216, 217, 218, 219, 220, 221, 222, 223, 224, 225, 226, 227, 228, 229, 230, 231, 232, 233, 234, 235, 236, 237, 238, 239, 240, 241, 242, 243, 244, 245, 246, 247, 248, 249, 250, 251, 252, 253, 254, 255, 256, 257, 258, 259, 260, 261, 262, 263, 264, 265, 266, 267, 268, 269, 270] (fun l3 v4 => [(7, .c (.osl 1 v4 0 l3.length))]) (fun l3 v4 => [.box [.tree 2 (p1.vars.map TVar.enc), .tree 1 (p1.in_.map (eK .i64)), .tree 1 (p1.out_.map (eK .i64)), .tree 6 (p1.rules.map TRule.enc)], .arr 1 v4 5 (l3.map (eK .u8))]) (fun l3 => ref_Tree_j1 l3 = some r) ?_ ?_
 ·skip
  refine W_rg [] ?_
  refine W_block ?_
  obtain ⟨o1, hl1, hm1⟩ := bd hm
  refine W_loopM (S := ((List Int) × Int)) (V := Nat) (O := (List Int) ⊕ Int) [6, 7, 8, 9, 10, 11, 12, 13, 14, 15, 16, 17, 18, 19, 20, 21, 22, 23, 24, 25, 26, 27, 28, 29, 30, 31, 32, 33, 34, 35, 36, 37, 38, 39, 40, 41, 42, 43, 44, 45, 46, 47, 48, 49, 50, 51, 52, 53, 54, 55, 56, 57, 58, 59, 60, 61, 62, 63, 64, 65, 66, 67, 68, 69, 70, 71, 72, 73, 74, 75, 76, 77, 78, 79, 80, 81, 82, 83, 84, 85, 86, 87, 88, 89, 90, 91, 92, 93, 94, 95, 96, 97, 98, 99, 100, 101, 102, 103, 104, 105, 106, 107, 108, 109, 110, 111, 112, 113, 114, 115, 116, 117, 118, 119, 120, 121, 122, 123, 124, 125, 126, 127, 128, 129, 130, 131, 132, 133, 134, 135, 136, 137, 138, 139, 140, 141, 142, 143, 144, 145, 146, 147, 148, 149, 150, 151, 152, 153, 154, 155, 156, 157, 158, 159, 160, 161, 162, 163, 164, 165, 166, 167, 168, 169, 170, 171, 172, 173, 174, 175, 176, 177, 178, 179, 180, 181, 182, 183, 184, 185, 186, 187, 188, 189, 190, 191, 192, 193, 194, 195, 196, 197, 198, 199, 200, 201, 202, 203, 204, 205, 206, 207, 208, 209, 210, 211, 212, 213, 214, 215, 216, 217, 218, 219, 220, 221, 222, 223, 224, 225, 226, 227, 228, 229, 230, 231, 232, 233, 234, 235, 236, 237, 238, 239, 240, 241, 242, 243, 244, 245, 246, 247, 248, 249, 250, 251, 252, 253, 254, 255, 256, 257, 258, 259, 260, 261, 262, 263, 264, 265, 266, 267, 268, 269, 270] (fun (l17, x19) v18 => [(7, .c (.osl 1 v18 0 l17.length)), (8, .c (.int .i64 x19))]) (fun (l17, x19) v18 => [.box [.tree 2 (p1.vars.map TVar.enc), .tree 1 (p1.in_.map (eK .i64)), .tree 1 (p1.out_.map (eK .i64)), .tree 6 (p1.rules.map TRule.enc)], .arr 1 v18 5 (l17.map (eK .u8))]) _ _ 0 hl1 ?_ ?_
  ·exact ls
  ·rintro ⟨l17, x19⟩ v18 r1 hm hr1
   replace hm : ref_Tree_l1 p1 p2 p3 l17 x19 = some r1 := hm
   refine W_eqm ?_
   unfold ref_Tree_l1 at hm
   refine W_seq_k fun k2 hk2 => ?_
   refine W_rg [19, 20, 21] ?_
   by_cases h3 : x19 < (p2.length : Int)
   ·rw [if_pos h3] at hm
    refine W_condt rfl (decide_eq_true h3) ?_
    refine W_skip ?_
    refine KThen_n (hk2 _ _ ?_)
    refine W_seq_k fun k3 hk3 => ?_
    refine W_block ?_
    obtain ⟨hg4a, hm⟩ := gd hm
    refine W_rgx (em TPush.enc p2 x19.toNat) [22, 25, 26, 27, 28] ?_
    refine W_rg [29, 30] ?_
    refine W_rg [31] ?_
    refine W_block ?_
    refine W_rg [34] ?_
    by_cases h5 : ((p2.getD x19.toNat default).op) = 1
    ·rw [if_pos h5] at hm
     refine W_condt rfl (beq_iff_eq.2 h5) ?_
     refine W_rg [10, 32, 33, 35, 36] ?_
     by_cases h6 : ((p2.getD x19.toNat default).k) = 0
     ·rw [if_pos h6] at hm
      refine W_condt rfl (beq_iff_eq.2 h6) ?_
      obtain ⟨⟨hg7ax, hg7ay⟩, hm⟩ := gd hm
      refine W_rn ?_
      refine KBlock_n ?_
      refine KBlock_n ?_
      refine KThen_n (hk3 _ _ ?_)
      refine W_rn ?_
      refine KLoopM_n ((l17 ++ (lit ([105] : List Int))), (IntKind.wrap .i64 (x19 + 1))) (v18 + 1) hm ?_
      exact ls
     ·rw [if_neg h6] at hm
      refine W_condf rfl (beq_eq_false_iff_ne.2 h6) ?_
      refine W_regG [9, 37, 41, 42, 43, 44, 45, 46, 47, 48, 49, 50, 51, 52] fun k kp hk hp => ?_
      refine RunRest_cut 4 ?_
      refine go ?_
      by_cases h8 : ((p2.getD x19.toNat default).k) = 1
      ·rw [if_pos h8] at hm
       have h8b : (((p2.getD x19.toNat default).k) == 1) = true := beq_iff_eq.2 h8
       refine RunRest_cut 4 ?_
       refine gox h8b ?_
       by_cases h9 : ((p2.getD x19.toNat default).n) = 0
       ·rw [if_pos h9] at hm
        have h9b : (((p2.getD x19.toNat default).n) == 0) = true := beq_iff_eq.2 h9
        refine RunRest_ops ?_
        refine gox (a2 h8b h9b) ?_
        refine hk _ _ ?_
        clear hk hp k kp
        refine W_condt rfl rfl ?_
        obtain ⟨⟨hg10ax, hg10ay⟩, hm⟩ := gd hm
        refine W_rn ?_
        refine KBlock_n ?_
        refine KBlock_n ?_
        refine KThen_n (hk3 _ _ ?_)
        refine W_rn ?_
        refine KLoopM_n ((l17 ++ (lit ([98] : List Int))), (IntKind.wrap .i64 (x19 + 1))) (v18 + 1) hm ?_
        exact ls
       ·rw [if_neg h9] at hm
        have h9b : (((p2.getD x19.toNat default).n) == 0) = false := beq_eq_false_iff_ne.2 h9
        refine RunRest_ops ?_
        refine gox (a2 h8b h9b) ?_
        refine hk _ _ ?_
        clear hk hp k kp
        by_cases h11 : ((p2.getD x19.toNat default).n) = 1
        ·rw [if_pos h11] at hm
         refine W_condt rfl (beq_iff_eq.2 h11) ?_
         obtain ⟨⟨hg12ax, hg12ay⟩, hm⟩ := gd hm
         refine W_rn ?_
         refine KBlock_n ?_
         refine KBlock_n ?_
         refine KThen_n (hk3 _ _ ?_)
         refine W_rn ?_
         refine KLoopM_n ((l17 ++ (lit ([98] : List Int))), (IntKind.wrap .i64 (x19 + 1))) (v18 + 1) hm ?_
         exact ls
        ·rw [if_neg h11] at hm
         refine W_condf rfl (beq_eq_false_iff_ne.2 h11) ?_
         refine W_rg [1, 2, 3, 7, 8, 53] ?_
         have ho13 := out_eq hm hr1
         subst ho13
         replace hm : some 0 = some r := hm1
         refine W_ret ?_
         refine KBlock_r ?_
         refine KBlock_r ?_
         refine KThen_r ?_
         refine KLoopM_r ?_
         refine KBlock_r ?_
         refine KJoinM_r ?_
         refine KBody_ret [] ?_
         obtain rfl := Option.some.inj hm
         exact en
      ·rw [if_neg h8] at hm
       have h8b : (((p2.getD x19.toNat default).k) == 1) = false := beq_eq_false_iff_ne.2 h8
       refine RunRest_ops ?_
       refine gox h8b ?_
       refine hk _ _ ?_
       clear hk hp k kp
       refine W_condf rfl rfl ?_
       refine W_rg [1, 2, 3, 7, 8, 53] ?_
       have ho14 := out_eq hm hr1
       subst ho14
       replace hm : some 0 = some r := hm1
       refine W_ret ?_
       refine KBlock_r ?_
       refine KBlock_r ?_
       refine KThen_r ?_
       refine KLoopM_r ?_
       refine KBlock_r ?_
       refine KJoinM_r ?_
       refine KBody_ret [] ?_
       obtain rfl := Option.some.inj hm
       exact en
    ·rw [if_neg h5] at hm
     refine W_condf rfl (beq_eq_false_iff_ne.2 h5) ?_
     refine W_rg [33, 58] ?_
     by_cases h15 : ((p2.getD x19.toNat default).op) = 2
     ·rw [if_pos h15] at hm
      refine W_condt rfl (beq_iff_eq.2 h15) ?_
      refine W_seq_k fun k4 hk4 => ?_
      obtain ⟨hg16a, hm⟩ := gd hm
      refine W_rgx (em TVar.enc p1.vars (((p2.getD x19.toNat default).v).toNat)) [10, 32, 57, 59, 60, 61, 62, 63, 64, 65] ?_
      by_cases h17 : ¬ ((p1.vars.getD (((p2.getD x19.toNat default).v).toNat) default).n) = 0
      ·rw [if_pos h17] at hm
       refine W_condt rfl (bne_iff_ne.2 h17) ?_
       refine W_rg [1, 2, 3, 7, 8, 9, 66] ?_
       have ho18 := out_eq hm hr1
       subst ho18
       replace hm : some 0 = some r := hm1
       refine W_ret ?_
       refine KThen_r ?_
       refine KBlock_r ?_
       refine KBlock_r ?_
       refine KThen_r ?_
       refine KLoopM_r ?_
       refine KBlock_r ?_
       refine KJoinM_r ?_
       refine KBody_ret [] ?_
       obtain rfl := Option.some.inj hm
       exact en
      ·rw [if_neg h17] at hm
       refine W_condf rfl (bne_eq_false_iff_eq.2 (Decidable.not_not.1 h17)) ?_
       refine W_skip ?_
       refine KThen_n (hk4 _ _ ?_)
       obtain ⟨⟨hg19ax, hg19ay⟩, hm⟩ := gd hm
       refine W_rnx (em TVar.enc p1.vars (((p2.getD x19.toNat default).v).toNat)) ?_
       refine KBlock_n ?_
       refine KBlock_n ?_
       refine KThen_n (hk3 _ _ ?_)
       refine W_rn ?_
       refine KLoopM_n ((l17 ++ (lit ([(p1.vars.getD (((p2.getD x19.toNat default).v).toNat) default).elem] : List Int))), (IntKind.wrap .i64 (x19 + 1))) (v18 + 1) hm ?_
       exact ls
     ·rw [if_neg h15] at hm
      refine W_condf rfl (beq_eq_false_iff_ne.2 h15) ?_
      refine W_rg [57, 78] ?_
      by_cases h20 : ((p2.getD x19.toNat default).op) = 3
      ·rw [if_pos h20] at hm
       refine W_condt rfl (beq_iff_eq.2 h20) ?_
       obtain ⟨hg21a, hm⟩ := gd hm
       refine W_rgx (em TVar.enc p1.vars (((p2.getD x19.toNat default).v).toNat)) [10, 32, 77, 79, 80, 81, 82, 83, 84, 85] ?_
       refine W_seq_k fun k5 hk5 => ?_
       by_cases h22 : ((p1.vars.getD (((p2.getD x19.toNat default).v).toNat) default).n) = 0
       ·rw [if_pos h22] at hm
        have h22b : (((p1.vars.getD (((p2.getD x19.toNat default).v).toNat) default).n) == 0) = true := beq_iff_eq.2 h22
        refine W_rgx h22b [11, 86, 87, 88, 89, 90, 91, 92, 93, 94, 95, 96, 97, 98, 99, 100, 101, 102, 103, 104] ?_
        refine W_condt rfl rfl ?_
        refine W_rg [1, 2, 3, 7, 8, 9, 105] ?_
        have ho23 := out_eq hm hr1
        subst ho23
        replace hm : some 0 = some r := hm1
        refine W_ret ?_
        refine KThen_r ?_
        refine KBlock_r ?_
        refine KBlock_r ?_
        refine KThen_r ?_
        refine KLoopM_r ?_
        refine KBlock_r ?_
        refine KJoinM_r ?_
        refine KBody_ret [] ?_
        obtain rfl := Option.some.inj hm
        exact en
       ·rw [if_neg h22] at hm
        have h22b : (((p1.vars.getD (((p2.getD x19.toNat default).v).toNat) default).n) == 0) = false := beq_eq_false_iff_ne.2 h22
        refine W_regG [11, 86, 87, 88, 89, 90, 91, 92, 93, 94, 95, 96, 97, 98, 99, 100, 101, 102, 103, 104] fun k kp hk hp => ?_
        refine RunRest_cut 8 ?_
        refine gox h22b ?_
        by_cases h24 : ((p2.getD x19.toNat default).n) < 0
        ·rw [if_pos h24] at hm
         have h24b : decide (((p2.getD x19.toNat default).n) < 0) = true := decide_eq_true h24
         refine RunRest_ops ?_
         refine gox (a2 h22b h24b) ?_
         refine hk _ _ ?_
         clear hk hp k kp
         refine W_condt rfl rfl ?_
         refine W_rg [1, 2, 3, 7, 8, 9, 105] ?_
         have ho25 := out_eq hm hr1
         subst ho25
         replace hm : some 0 = some r := hm1
         refine W_ret ?_
         refine KThen_r ?_
         refine KBlock_r ?_
         refine KBlock_r ?_
         refine KThen_r ?_
         refine KLoopM_r ?_
         refine KBlock_r ?_
         refine KJoinM_r ?_
         refine KBody_ret [] ?_
         obtain rfl := Option.some.inj hm
         exact en
        ·rw [if_neg h24] at hm
         have h24b : decide (((p2.getD x19.toNat default).n) < 0) = false := decide_eq_false h24
         refine RunRest_cut 5 ?_
         refine gox (a2 h22b h24b) ?_
         by_cases h26 : ((p1.vars.getD (((p2.getD x19.toNat default).v).toNat) default).n) < p3
         ·rw [if_pos h26] at hm
          have h26b : decide (((p1.vars.getD (((p2.getD x19.toNat default).v).toNat) default).n) < p3) = true := decide_eq_true h26
          refine RunRest_ops ?_
          refine gox (a2 h22b (a2 h24b h26b)) ?_
          refine hk _ _ ?_
          clear hk hp k kp
          refine W_condt rfl rfl ?_
          refine W_rg [1, 2, 3, 7, 8, 9, 105] ?_
          have ho27 := out_eq hm hr1
          subst ho27
          replace hm : some 0 = some r := hm1
          refine W_ret ?_
          refine KThen_r ?_
          refine KBlock_r ?_
          refine KBlock_r ?_
          refine KThen_r ?_
          refine KLoopM_r ?_
          refine KBlock_r ?_
          refine KJoinM_r ?_
          refine KBody_ret [] ?_
          obtain rfl := Option.some.inj hm
          exact en
         ·rw [if_neg h26] at hm
          have h26b : decide (((p1.vars.getD (((p2.getD x19.toNat default).v).toNat) default).n) < p3) = false := decide_eq_false h26
          refine RunRest_ops ?_
          refine gox (a2 h22b (a2 h24b h26b)) ?_
          refine hk _ _ ?_
          clear hk hp k kp
          by_cases h28 : ((p2.getD x19.toNat default).n) > (IntKind.wrap .i64 (((p1.vars.getD (((p2.getD x19.toNat default).v).toNat) default).n) - p3))
          ·rw [if_pos h28] at hm
           refine W_condt rfl (decide_eq_true h28) ?_
           refine W_rg [1, 2, 3, 7, 8, 9, 105] ?_
           have ho29 := out_eq hm hr1
           subst ho29
           replace hm : some 0 = some r := hm1
           refine W_ret ?_
           refine KThen_r ?_
           refine KBlock_r ?_
           refine KBlock_r ?_
           refine KThen_r ?_
           refine KLoopM_r ?_
           refine KBlock_r ?_
           refine KJoinM_r ?_
           refine KBody_ret [] ?_
           obtain rfl := Option.some.inj hm
           exact en
          ·rw [if_neg h28] at hm
           refine W_condf rfl (decide_eq_false h28) ?_
           refine W_skip ?_
           refine KThen_n (hk5 _ _ ?_)
           obtain ⟨⟨hg30ax, hg30ay⟩, hm⟩ := gd hm
           refine W_rnx (em TVar.enc p1.vars (((p2.getD x19.toNat default).v).toNat)) ?_
           refine KBlock_n ?_
           refine KBlock_n ?_
           refine KThen_n (hk3 _ _ ?_)
           refine W_rn ?_
           refine KLoopM_n ((l17 ++ (lit ([(p1.vars.getD (((p2.getD x19.toNat default).v).toNat) default).elem] : List Int))), (IntKind.wrap .i64 (x19 + 1))) (v18 + 1) hm ?_
           exact ls
      ·rw [if_neg h20] at hm
       refine W_condf rfl (beq_eq_false_iff_ne.2 h20) ?_
       refine W_rg [77, 117] ?_
       by_cases h31 : ((p2.getD x19.toNat default).op) = 4
       ·rw [if_pos h31] at hm
        refine W_condt rfl (beq_iff_eq.2 h31) ?_
        refine W_seq_k fun k6 hk6 => ?_
        refine W_regF [9, 10, 32, 116, 118, 119, 120] fun k kp hk hp => ?_
        refine go ?_
        obtain ⟨y20, hc32, hm⟩ := bd hm
        refine RP (fun _ => ref_small6_ok ((p2.getD x19.toNat default).n) _ hc32) ?_
        refine RunRest_ops ?_
        refine go ?_
        refine hk _ _ ?_
        clear hk hp k kp
        by_cases h33 : y20 = true
        ·rw [if_pos h33] at hm
         refine W_condf rfl (by rw [show y20 = true from (h33)]; rfl) ?_
         refine W_skip ?_
         refine KThen_n (hk6 _ _ ?_)
         obtain ⟨⟨hg34ax, hg34ay⟩, hm⟩ := gd hm
         refine W_rn ?_
         refine KBlock_n ?_
         refine KBlock_n ?_
         refine KThen_n (hk3 _ _ ?_)
         refine W_rn ?_
         refine KLoopM_n ((l17 ++ (lit ([105] : List Int))), (IntKind.wrap .i64 (x19 + 1))) (v18 + 1) hm ?_
         exact ls
        ·rw [if_neg h33] at hm
         refine W_condt rfl (by rw [show y20 = false from (Bool.eq_false_iff.2 h33)]; rfl) ?_
         refine W_rg [1, 2, 3, 7, 8, 121] ?_
         have ho35 := out_eq hm hr1
         subst ho35
         replace hm : some 0 = some r := hm1
         refine W_ret ?_
         refine KThen_r ?_
         refine KBlock_r ?_
         refine KBlock_r ?_
         refine KThen_r ?_
         refine KLoopM_r ?_
         refine KBlock_r ?_
         refine KJoinM_r ?_
         refine KBody_ret [] ?_
         obtain rfl := Option.some.inj hm
         exact en
       ·rw [if_neg h31] at hm
        refine W_condf rfl (beq_eq_false_iff_ne.2 h31) ?_
        refine W_rg [116, 126] ?_
        by_cases h36 : ((p2.getD x19.toNat default).op) = 5
        ·rw [if_pos h36] at hm
         refine W_condt rfl (beq_iff_eq.2 h36) ?_
         refine W_regF [9, 32, 125, 127, 128, 129, 130, 131, 132, 133] fun k kp hk hp => ?_
         refine go ?_
         obtain ⟨y21, hc37, hm⟩ := bd hm
         refine RP (fun _ => ref_OpOf_ok ((p2.getD x19.toNat default).k) _ hc37) ?_
         refine RunRest_ops ?_
         refine go ?_
         refine hk _ _ ?_
         clear hk hp k kp
         refine W_seq_k fun k7 hk7 => ?_
         by_cases h38 : ¬ y21.2.2 = 1
         ·rw [if_pos h38] at hm
          have h38b : (y21.2.2 != 1) = true := bne_iff_ne.2 h38
          refine W_rgx h38b [12, 14, 134, 135, 136, 137, 138, 139, 140, 141, 142, 143, 144, 145, 146, 147] ?_
          refine W_condt rfl rfl ?_
          refine W_rg [1, 2, 3, 7, 8, 10, 13, 148] ?_
          have ho39 := out_eq hm hr1
          subst ho39
          replace hm : some 0 = some r := hm1
          refine W_ret ?_
          refine KThen_r ?_
          refine KBlock_r ?_
          refine KBlock_r ?_
          refine KThen_r ?_
          refine KLoopM_r ?_
          refine KBlock_r ?_
          refine KJoinM_r ?_
          refine KBody_ret [] ?_
          obtain rfl := Option.some.inj hm
          exact en
         ·rw [if_neg h38] at hm
          have h38b : (y21.2.2 != 1) = false := bne_eq_false_iff_eq.2 (Decidable.not_not.1 h38)
          refine W_regG [12, 14, 134, 135, 136, 137, 138, 139, 140, 141, 142, 143, 144, 145, 146, 147] fun k kp hk hp => ?_
          refine RunRest_cut 7 ?_
          refine gox h38b ?_
          by_cases h40 : (l17.length : Int) < 1
          ·rw [if_pos h40] at hm
           have h40b : decide ((l17.length : Int) < 1) = true := decide_eq_true h40
           refine RunRest_ops ?_
           refine gox (a2 h38b h40b) ?_
           refine hk _ _ ?_
           clear hk hp k kp
           refine W_condt rfl rfl ?_
           refine W_rg [1, 2, 3, 7, 8, 10, 13, 148] ?_
           have ho41 := out_eq hm hr1
           subst ho41
           replace hm : some 0 = some r := hm1
           refine W_ret ?_
           refine KThen_r ?_
           refine KBlock_r ?_
           refine KBlock_r ?_
           refine KThen_r ?_
           refine KLoopM_r ?_
           refine KBlock_r ?_
           refine KJoinM_r ?_
           refine KBody_ret [] ?_
           obtain rfl := Option.some.inj hm
           exact en
          ·rw [if_neg h40] at hm
           have h40b : decide ((l17.length : Int) < 1) = false := decide_eq_false h40
           obtain ⟨hg42a, hm⟩ := gd hm
           refine RunRest_ops ?_
           refine gox (a2 (em (eK .u8) l17 ((IntKind.wrap .i64 ((l17.length : Int) - 1)).toNat)) (a2 h38b h40b)) ?_
           refine hk _ _ ?_
           clear hk hp k kp
           by_cases h43 : ¬ (l17.getD ((IntKind.wrap .i64 ((l17.length : Int) - 1)).toNat) default) = y21.1
           ·rw [if_pos h43] at hm
            refine W_condt rfl (bne_iff_ne.2 h43) ?_
            refine W_rg [1, 2, 3, 7, 8, 10, 13, 148] ?_
            have ho44 := out_eq hm hr1
            subst ho44
            replace hm : some 0 = some r := hm1
            refine W_ret ?_
            refine KThen_r ?_
            refine KBlock_r ?_
            refine KBlock_r ?_
            refine KThen_r ?_
            refine KLoopM_r ?_
            refine KBlock_r ?_
            refine KJoinM_r ?_
            refine KBody_ret [] ?_
            obtain rfl := Option.some.inj hm
            exact en
           ·rw [if_neg h43] at hm
            refine W_condf rfl (bne_eq_false_iff_eq.2 (Decidable.not_not.1 h43)) ?_
            refine W_skip ?_
            refine KThen_n (hk7 _ _ ?_)
            refine W_rnx (em (eK .u8) l17 ((IntKind.wrap .i64 ((l17.length : Int) - 1)).toNat)) ?_
            refine KBlock_n ?_
            refine KBlock_n ?_
            refine KThen_n (hk3 _ _ ?_)
            refine W_rn ?_
            refine KLoopM_n ((l17.set ((IntKind.wrap .i64 ((l17.length : Int) - 1)).toNat) y21.2.1), (IntKind.wrap .i64 (x19 + 1))) v18 hm ?_
            exact ls
        ·rw [if_neg h36] at hm
         refine W_condf rfl (beq_eq_false_iff_ne.2 h36) ?_
         refine W_rg [125, 155] ?_
         by_cases h45 : ((p2.getD x19.toNat default).op) = 6
         ·rw [if_pos h45] at hm
          refine W_condt rfl (beq_iff_eq.2 h45) ?_
          refine W_regF [9, 32, 154, 156, 157, 158, 159, 160, 161, 162] fun k kp hk hp => ?_
          refine go ?_
          obtain ⟨y22, hc46, hm⟩ := bd hm
          refine RP (fun _ => ref_OpOf_ok ((p2.getD x19.toNat default).k) _ hc46) ?_
          refine RunRest_ops ?_
          refine go ?_
          refine hk _ _ ?_
          clear hk hp k kp
          refine W_seq_k fun k8 hk8 => ?_
          by_cases h47 : ¬ y22.2.2 = 2
          ·rw [if_pos h47] at hm
           have h47b : (y22.2.2 != 2) = true := bne_iff_ne.2 h47
           refine W_rgx h47b [15, 17, 163, 164, 165, 166, 167, 168, 169, 170, 171, 172, 173, 174, 175, 176, 177, 178, 179, 180, 181, 182, 183, 184, 185] ?_
           refine W_condt rfl rfl ?_
           refine W_rg [1, 2, 3, 7, 8, 10, 16, 186] ?_
           have ho48 := out_eq hm hr1
           subst ho48
           replace hm : some 0 = some r := hm1
           refine W_ret ?_
           refine KThen_r ?_
           refine KBlock_r ?_
           refine KBlock_r ?_
           refine KThen_r ?_
           refine KLoopM_r ?_
           refine KBlock_r ?_
           refine KJoinM_r ?_
           refine KBody_ret [] ?_
           obtain rfl := Option.some.inj hm
           exact en
          ·rw [if_neg h47] at hm
           have h47b : (y22.2.2 != 2) = false := bne_eq_false_iff_eq.2 (Decidable.not_not.1 h47)
           refine W_regG [15, 17, 163, 164, 165, 166, 167, 168, 169, 170, 171, 172, 173, 174, 175, 176, 177, 178, 179, 180, 181, 182, 183, 184, 185] fun k kp hk hp => ?_
           refine RunRest_cut 7 ?_
           refine gox h47b ?_
           by_cases h49 : (l17.length : Int) < 2
           ·rw [if_pos h49] at hm
            have h49b : decide ((l17.length : Int) < 2) = true := decide_eq_true h49
            refine RunRest_ops ?_
            refine gox (a2 h47b h49b) ?_
            refine hk _ _ ?_
            clear hk hp k kp
            refine W_condt rfl rfl ?_
            refine W_rg [1, 2, 3, 7, 8, 10, 16, 186] ?_
            have ho50 := out_eq hm hr1
            subst ho50
            replace hm : some 0 = some r := hm1
            refine W_ret ?_
            refine KThen_r ?_
            refine KBlock_r ?_
            refine KBlock_r ?_
            refine KThen_r ?_
            refine KLoopM_r ?_
            refine KBlock_r ?_
            refine KJoinM_r ?_
            refine KBody_ret [] ?_
            obtain rfl := Option.some.inj hm
            exact en
           ·rw [if_neg h49] at hm
            have h49b : decide ((l17.length : Int) < 2) = false := decide_eq_false h49
            obtain ⟨hg51a, hm⟩ := gd hm
            refine RunRest_cut 9 ?_
            refine gox (a2 (em (eK .u8) l17 ((IntKind.wrap .i64 ((l17.length : Int) - 1)).toNat)) (a2 h47b h49b)) ?_
            by_cases h52 : ¬ (l17.getD ((IntKind.wrap .i64 ((l17.length : Int) - 1)).toNat) default) = y22.1
            ·rw [if_pos h52] at hm
             have h52b : ((l17.getD ((IntKind.wrap .i64 ((l17.length : Int) - 1)).toNat) default) != y22.1) = true := bne_iff_ne.2 h52
             refine RunRest_ops ?_
             refine gox (a2 h47b (a2 h49b h52b)) ?_
             refine hk _ _ ?_
             clear hk hp k kp
             refine W_condt rfl rfl ?_
             refine W_rg [1, 2, 3, 7, 8, 10, 16, 186] ?_
             have ho53 := out_eq hm hr1
             subst ho53
             replace hm : some 0 = some r := hm1
             refine W_ret ?_
             refine KThen_r ?_
             refine KBlock_r ?_
             refine KBlock_r ?_
             refine KThen_r ?_
             refine KLoopM_r ?_
             refine KBlock_r ?_
             refine KJoinM_r ?_
             refine KBody_ret [] ?_
             obtain rfl := Option.some.inj hm
             exact en
            ·rw [if_neg h52] at hm
             have h52b : ((l17.getD ((IntKind.wrap .i64 ((l17.length : Int) - 1)).toNat) default) != y22.1) = false := bne_eq_false_iff_eq.2 (Decidable.not_not.1 h52)
             obtain ⟨hg54a, hm⟩ := gd hm
             refine RunRest_ops ?_
             refine gox (a2 (em (eK .u8) l17 ((IntKind.wrap .i64 ((l17.length : Int) - 2)).toNat)) (a2 h47b (a2 h49b h52b))) ?_
             refine hk _ _ ?_
             clear hk hp k kp
             by_cases h55 : ¬ (l17.getD ((IntKind.wrap .i64 ((l17.length : Int) - 2)).toNat) default) = y22.1
             ·rw [if_pos h55] at hm
              refine W_condt rfl (bne_iff_ne.2 h55) ?_
              refine W_rg [1, 2, 3, 7, 8, 10, 16, 186] ?_
              have ho56 := out_eq hm hr1
              subst ho56
              replace hm : some 0 = some r := hm1
              refine W_ret ?_
              refine KThen_r ?_
              refine KBlock_r ?_
              refine KBlock_r ?_
              refine KThen_r ?_
              refine KLoopM_r ?_
              refine KBlock_r ?_
              refine KJoinM_r ?_
              refine KBody_ret [] ?_
              obtain rfl := Option.some.inj hm
              exact en
             ·rw [if_neg h55] at hm
              refine W_condf rfl (bne_eq_false_iff_eq.2 (Decidable.not_not.1 h55)) ?_
              refine W_skip ?_
              refine KThen_n (hk8 _ _ ?_)
              obtain ⟨⟨hg57a, ⟨hg57bx, hg57by⟩⟩, hm⟩ := gd hm
              refine W_rn ?_
              refine KBlock_n ?_
              refine KBlock_n ?_
              refine KThen_n (hk3 _ _ ?_)
              refine W_rn ?_
              refine KLoopM_n (((l17.take ((IntKind.wrap .i64 ((l17.length : Int) - 2)).toNat)) ++ (lit ([y22.2.1] : List Int))), (IntKind.wrap .i64 (x19 + 1))) (v18 + 1) hm ?_
              exact ls
         ·rw [if_neg h45] at hm
          refine W_condf rfl (beq_eq_false_iff_ne.2 h45) ?_
          refine W_rg [154, 195] ?_
          by_cases h58 : ((p2.getD x19.toNat default).op) = 7
          ·rw [if_pos h58] at hm
           refine W_condt rfl (beq_iff_eq.2 h58) ?_
           refine W_seq_k fun k9 hk9 => ?_
           by_cases h59 : (l17.length : Int) < 3
           ·rw [if_pos h59] at hm
            have h59b : decide ((l17.length : Int) < 3) = true := decide_eq_true h59
            refine W_anyTF [9, 32, 194, 196, 197, 198, 199, 200, 201, 202, 203, 204, 205, 206, 207, 208, 209, 210, 211, 212, 213, 214, 215, 216, 217] (by kernel_rfl) [0, 1, 3, 7, 7, 23, 63, 127, 255, 511, 1023, 2047, 2047, 6143, 16383, 32767, 2047, 2047, 133119, 460799, 985087, 2097151, 4194303] [true, true, true, false, false, false, true, true, true, true, true, false, false, false, false, false, false, false, false, false, false, true, true] (by kernel_rfl) fun k hk => ?_
            refine TR_ops ?_
            refine gax h59b ?_
            refine hk _ _ ?_
            clear hk k
            refine W_condt rfl rfl ?_
            refine W_rg [1, 2, 3, 7, 8, 10, 218] ?_
            have ho60 := out_eq hm hr1
            subst ho60
            replace hm : some 0 = some r := hm1
            refine W_ret ?_
            refine KThen_r ?_
            refine KBlock_r ?_
            refine KBlock_r ?_
            refine KThen_r ?_
            refine KLoopM_r ?_
            refine KBlock_r ?_
            refine KJoinM_r ?_
            refine KBody_ret [] ?_
            obtain rfl := Option.some.inj hm
            exact en
           ·rw [if_neg h59] at hm
            have h59b : decide ((l17.length : Int) < 3) = false := decide_eq_false h59
            obtain ⟨hg61a, hm⟩ := gd hm
            refine W_anyTF [9, 32, 194, 196, 197, 198, 199, 200, 201, 202, 203, 204, 205, 206, 207, 208, 209, 210, 211, 212, 213, 214, 215, 216, 217] (by kernel_rfl) [0, 1, 3, 7, 7, 23, 63, 127, 255, 511, 1023, 2047, 2047, 6143, 16383, 32767, 2047, 2047, 133119, 460799, 985087, 2097151, 4194303] [true, true, true, false, false, false, true, true, true, true, true, false, false, false, false, false, false, false, false, false, false, true, true] (by kernel_rfl) fun k hk => ?_
            refine TR_cut 11 rfl ?_
            refine gax (a2 (em (eK .u8) l17 ((IntKind.wrap .i64 ((l17.length : Int) - 3)).toNat)) h59b) ?_
            by_cases h62 : ¬ (l17.getD ((IntKind.wrap .i64 ((l17.length : Int) - 3)).toNat) default) = 98
            ·rw [if_pos h62] at hm
             have h62b : ((l17.getD ((IntKind.wrap .i64 ((l17.length : Int) - 3)).toNat) default) != 98) = true := bne_iff_ne.2 h62
             refine TR_ops ?_
             refine gax (a2 h59b h62b) ?_
             refine hk _ _ ?_
             clear hk k
             refine W_condt rfl rfl ?_
             refine W_rg [1, 2, 3, 7, 8, 10, 218] ?_
             have ho63 := out_eq hm hr1
             subst ho63
             replace hm : some 0 = some r := hm1
             refine W_ret ?_
             refine KThen_r ?_
             refine KBlock_r ?_
             refine KBlock_r ?_
             refine KThen_r ?_
             refine KLoopM_r ?_
             refine KBlock_r ?_
             refine KJoinM_r ?_
             refine KBody_ret [] ?_
             obtain rfl := Option.some.inj hm
             exact en
            ·rw [if_neg h62] at hm
             have h62b : ((l17.getD ((IntKind.wrap .i64 ((l17.length : Int) - 3)).toNat) default) != 98) = false := bne_eq_false_iff_eq.2 (Decidable.not_not.1 h62)
             obtain ⟨⟨hg64a, hg64b⟩, hm⟩ := gd hm
             refine TR_ops ?_
             refine gax (a2 (em (eK .u8) l17 ((IntKind.wrap .i64 ((l17.length : Int) - 2)).toNat)) (a2 (em (eK .u8) l17 ((IntKind.wrap .i64 ((l17.length : Int) - 1)).toNat)) (a2 h59b h62b))) ?_
             refine hk _ _ ?_
             clear hk k
             by_cases h65 : ¬ (l17.getD ((IntKind.wrap .i64 ((l17.length : Int) - 2)).toNat) default) = (l17.getD ((IntKind.wrap .i64 ((l17.length : Int) - 1)).toNat) default)
             ·rw [if_pos h65] at hm
              refine W_condt rfl (bne_iff_ne.2 h65) ?_
              refine W_rg [1, 2, 3, 7, 8, 10, 218] ?_
              have ho66 := out_eq hm hr1
              subst ho66
              replace hm : some 0 = some r := hm1
              refine W_ret ?_
              refine KThen_r ?_
              refine KBlock_r ?_
              refine KBlock_r ?_
              refine KThen_r ?_
              refine KLoopM_r ?_
              refine KBlock_r ?_
              refine KJoinM_r ?_
              refine KBody_ret [] ?_
              obtain rfl := Option.some.inj hm
              exact en
             ·rw [if_neg h65] at hm
              refine W_condf rfl (bne_eq_false_iff_eq.2 (Decidable.not_not.1 h65)) ?_
              refine W_skip ?_
              refine KThen_n (hk9 _ _ ?_)
              obtain ⟨⟨hg67a, ⟨hg67bx, hg67by⟩⟩, hm⟩ := gd hm
              refine W_anx (em (eK .u8) l17 ((IntKind.wrap .i64 ((l17.length : Int) - 1)).toNat)) [0, 0, 2, 7, 0, 0, 32, 112, 240, 496, 1023, 2047] [false, false, false, false, false, false, false, false, false, false, true, true] ?_
              refine KBlock_n ?_
              refine KBlock_n ?_
              refine KThen_n (hk3 _ _ ?_)
              refine W_rn ?_
              refine KLoopM_n (((l17.take ((IntKind.wrap .i64 ((l17.length : Int) - 3)).toNat)) ++ (lit ([(l17.getD ((IntKind.wrap .i64 ((l17.length : Int) - 1)).toNat) default)] : List Int))), (IntKind.wrap .i64 (x19 + 1))) (v18 + 1) hm ?_
              exact ls
          ·rw [if_neg h58] at hm
           refine W_condf rfl (beq_eq_false_iff_ne.2 h58) ?_
           refine W_rg [32, 194, 231] ?_
           by_cases h68 : ((p2.getD x19.toNat default).op) = 8
           ·rw [if_pos h68] at hm
            refine W_condt rfl (beq_iff_eq.2 h68) ?_
            obtain ⟨hg69a, hm⟩ := gd hm
            refine W_rgx (em TVar.enc p1.vars (((p2.getD x19.toNat default).v).toNat)) [9, 230, 232, 233, 234, 235, 236, 237] ?_
            refine W_seq_k fun k10 hk10 => ?_
            refine W_anyTF [238, 239, 240, 241, 242, 243, 244, 245, 246, 247, 248, 249, 250, 251, 252, 253, 254, 255, 256, 257, 258, 259, 260, 261] (by kernel_rfl) [0, 1, 3, 7, 15, 31, 63, 127, 255, 255, 767, 2047, 4095, 8191, 16383, 32767, 65535, 65535, 196607, 524287, 1048575, 65535, 2162687, 8388607, 16777215] [true, true, true, true, true, true, true, true, false, false, false, true, true, true, true, true, false, false, false, false, false, false, false, true, true] (by kernel_rfl) fun k hk => ?_
            refine TR_cut 4 rfl ?_
            refine ga ?_
            by_cases h70 : ((p1.vars.getD (((p2.getD x19.toNat default).v).toNat) default).n) = 0
            ·rw [if_pos h70] at hm
             have h70b : (((p1.vars.getD (((p2.getD x19.toNat default).v).toNat) default).n) == 0) = true := beq_iff_eq.2 h70
             refine TR_ops ?_
             refine gax h70b ?_
             refine hk _ _ ?_
             clear hk k
             refine W_condt rfl rfl ?_
             refine W_rg [1, 2, 3, 7, 8, 10, 18, 262] ?_
             have ho71 := out_eq hm hr1
             subst ho71
             replace hm : some 0 = some r := hm1
             refine W_ret ?_
             refine KThen_r ?_
             refine KBlock_r ?_
             refine KBlock_r ?_
             refine KThen_r ?_
             refine KLoopM_r ?_
             refine KBlock_r ?_
             refine KJoinM_r ?_
             refine KBody_ret [] ?_
             obtain rfl := Option.some.inj hm
             exact en
            ·rw [if_neg h70] at hm
             have h70b : (((p1.vars.getD (((p2.getD x19.toNat default).v).toNat) default).n) == 0) = false := beq_eq_false_iff_ne.2 h70
             refine TR_cut 4 rfl ?_
             refine gax h70b ?_
             by_cases h72 : (l17.length : Int) < 2
             ·rw [if_pos h72] at hm
              have h72b : decide ((l17.length : Int) < 2) = true := decide_eq_true h72
              refine TR_ops ?_
              refine gax (a2 h70b h72b) ?_
              refine hk _ _ ?_
              clear hk k
              refine W_condt rfl rfl ?_
              refine W_rg [1, 2, 3, 7, 8, 10, 18, 262] ?_
              have ho73 := out_eq hm hr1
              subst ho73
              replace hm : some 0 = some r := hm1
              refine W_ret ?_
              refine KThen_r ?_
              refine KBlock_r ?_
              refine KBlock_r ?_
              refine KThen_r ?_
              refine KLoopM_r ?_
              refine KBlock_r ?_
              refine KJoinM_r ?_
              refine KBody_ret [] ?_
              obtain rfl := Option.some.inj hm
              exact en
             ·rw [if_neg h72] at hm
              have h72b : decide ((l17.length : Int) < 2) = false := decide_eq_false h72
              obtain ⟨hg74a, hm⟩ := gd hm
              refine TR_cut 8 rfl ?_
              refine gax (a2 (em (eK .u8) l17 ((IntKind.wrap .i64 ((l17.length : Int) - 2)).toNat)) (a2 h70b h72b)) ?_
              by_cases h75 : ¬ (l17.getD ((IntKind.wrap .i64 ((l17.length : Int) - 2)).toNat) default) = 105
              ·rw [if_pos h75] at hm
               have h75b : ((l17.getD ((IntKind.wrap .i64 ((l17.length : Int) - 2)).toNat) default) != 105) = true := bne_iff_ne.2 h75
               refine TR_ops ?_
               refine gax (a2 h70b (a2 h72b h75b)) ?_
               refine hk _ _ ?_
               clear hk k
               refine W_condt rfl rfl ?_
               refine W_rg [1, 2, 3, 7, 8, 10, 18, 262] ?_
               have ho76 := out_eq hm hr1
               subst ho76
               replace hm : some 0 = some r := hm1
               refine W_ret ?_
               refine KThen_r ?_
               refine KBlock_r ?_
               refine KBlock_r ?_
               refine KThen_r ?_
               refine KLoopM_r ?_
               refine KBlock_r ?_
               refine KJoinM_r ?_
               refine KBody_ret [] ?_
               obtain rfl := Option.some.inj hm
               exact en
              ·rw [if_neg h75] at hm
               have h75b : ((l17.getD ((IntKind.wrap .i64 ((l17.length : Int) - 2)).toNat) default) != 105) = false := bne_eq_false_iff_eq.2 (Decidable.not_not.1 h75)
               obtain ⟨hg77a, hm⟩ := gd hm
               refine TR_ops ?_
               refine gax (a2 (em (eK .u8) l17 ((IntKind.wrap .i64 ((l17.length : Int) - 1)).toNat)) (a2 h70b (a2 h72b h75b))) ?_
               refine hk _ _ ?_
               clear hk k
               by_cases h78 : ¬ (l17.getD ((IntKind.wrap .i64 ((l17.length : Int) - 1)).toNat) default) = ((p1.vars.getD (((p2.getD x19.toNat default).v).toNat) default).elem)
               ·rw [if_pos h78] at hm
                refine W_condt rfl (bne_iff_ne.2 h78) ?_
                refine W_rg [1, 2, 3, 7, 8, 10, 18, 262] ?_
                have ho79 := out_eq hm hr1
                subst ho79
                replace hm : some 0 = some r := hm1
                refine W_ret ?_
                refine KThen_r ?_
                refine KBlock_r ?_
                refine KBlock_r ?_
                refine KThen_r ?_
                refine KLoopM_r ?_
                refine KBlock_r ?_
                refine KJoinM_r ?_
                refine KBody_ret [] ?_
                obtain rfl := Option.some.inj hm
                exact en
               ·rw [if_neg h78] at hm
                refine W_condf rfl (bne_eq_false_iff_eq.2 (Decidable.not_not.1 h78)) ?_
                refine W_skip ?_
                refine KThen_n (hk10 _ _ ?_)
                obtain ⟨⟨hg80a, ⟨hg80bx, hg80by⟩⟩, hm⟩ := gd hm
                refine W_an [0, 0, 2, 7, 0, 16, 48, 127, 255] [false, false, false, false, false, false, false, true, true] ?_
                refine KBlock_n ?_
                refine KBlock_n ?_
                refine KThen_n (hk3 _ _ ?_)
                refine W_rn ?_
                refine KLoopM_n (((l17.take ((IntKind.wrap .i64 ((l17.length : Int) - 2)).toNat)) ++ (lit ([(p1.vars.getD (((p2.getD x19.toNat default).v).toNat) default).elem] : List Int))), (IntKind.wrap .i64 (x19 + 1))) (v18 + 1) hm ?_
                exact ls
           ·rw [if_neg h68] at hm
            refine W_condf rfl (beq_eq_false_iff_ne.2 h68) ?_
            refine W_rg [1, 2, 3, 7, 8, 9, 10, 230] ?_
            have ho81 := out_eq hm hr1
            subst ho81
            replace hm : some 0 = some r := hm1
            refine W_ret ?_
            refine KBlock_r ?_
            refine KBlock_r ?_
            refine KThen_r ?_
            refine KLoopM_r ?_
            refine KBlock_r ?_
            refine KJoinM_r ?_
            refine KBody_ret [] ?_
            obtain rfl := Option.some.inj hm
            exact en
   ·rw [if_neg h3] at hm
    refine W_condf rfl (decide_eq_false h3) ?_
    refine W_exit ?_
    have ho82 := out_eq hm hr1
    subst ho82
    replace hm : ref_Tree_j1 l17 = some r := hm1
    refine KThen_x ?_
    refine KLoopM_x ?_
    refine KBlock_hit ?_
    refine KJoinM_n l17 v18 hm ?_
    exact ls
 ·rintro l3 v4 hm
  replace hm : ref_Tree_j1 l3 = some r := hm
  refine W_eqm ?_
  unfold ref_Tree_j1 at hm
  refine W_seq_k fun k1 hk1 => ?_
  refine W_rg [271, 272] ?_
  by_cases h1 : ¬ (l3.length : Int) = 1
  ·rw [if_pos h1] at hm
   refine W_condt rfl (bne_iff_ne.2 h1) ?_
   refine W_rg [7, 273] ?_
   refine W_ret ?_
   refine KThen_r ?_
   refine KBody_ret [] ?_
   obtain rfl := Option.some.inj hm
   exact en
  ·rw [if_neg h1] at hm
   refine W_condf rfl (bne_eq_false_iff_eq.2 (Decidable.not_not.1 h1)) ?_
   refine W_skip ?_
   refine KThen_n (hk1 _ _ ?_)
   obtain ⟨hg2a, hm⟩ := gd hm
   refine W_rgx (em (eK .u8) l3 0) [7, 273, 274, 275, 276] ?_
   refine W_ret ?_
   refine KBody_ret [] ?_
   obtain rfl := Option.some.inj hm
   exact en
end Pam
