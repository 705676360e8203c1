/- the walk of sys_judge_fits, printed by a program of ours -/
import Derived.Test.YtpfekllhlfodiaaBase3
import Derived.Test.YtpfekllhlfodiaaSysChecksFun1
import Derived.Test.YtpfekllhlfodiaaSysChecksWalk1
set_option linter.all false
namespace Pam
open Go Go.Proofs
set_option maxRecDepth 100000 in
set_option maxHeartbeats 8000000 in
theorem sys_judge_fits_ok (p1 : TRule) (p2 : Tjudge) (r : Bool) (hm : sys_judge_fits p1 p2 = some r) : Spec Try.prog 128 [.c (.optr 0 0), .a [.int .i64 p1.op, .int .i64 p1.k, .int .i64 p1.out_, .int .i64 p1.n, .tree 1 (p1.a.map (eK .i64)), .tree 4 (p1.e.map TPush.enc)]] [.box [.tree 2 (p2.system.vars.map TVar.enc), .tree 1 (p2.system.in_.map (eK .i64)), .tree 1 (p2.system.out_.map (eK .i64)), .tree 6 (p2.system.rules.map TRule.enc), .int .i64 p2.code]] (fun p σ => (p = .c (.bool r) ∧ σ = [.box [.tree 2 (p2.system.vars.map TVar.enc), .tree 1 (p2.system.in_.map (eK .i64)), .tree 1 (p2.system.out_.map (eK .i64)), .tree 6 (p2.system.rules.map TRule.enc), .int .i64 p2.code]])) (fun _ _ => False) := by
 refine Spec_ofD 370 [.tmp 4] Try.func128 rfl rfl rfl (by kernel_rfl) (by simp) ?_
 refine W_eqf ?_
 unfold sys_judge_fits at hm
 refine W_rg [1, 4] ?_
 obtain ⟨hg1a, hm⟩ := gd hm
 refine W_agx (em TVar.enc p2.system.vars p1.out_.toNat) [14, 15, 16, 17, 18, 19, 20, 21, 22] [0, 1, 3, 7, 15, 0, 32, 127, 255, 0, 1023] [false, false, false, false, false, false, false, false, false, false, true] ?_
 refine W_rg [] ?_
 refine W_joinM (S := (Int × Int)) (V := Unit) [23, 24, 25, 26, 27, 28, 29, 30, 31, 32, 33, 34, 35, 36, 37] (fun (x1, x2) _ => []) (fun (x1, x2) _ => [.box [.tree 2 (p2.system.vars.map TVar.enc), .tree 1 (p2.system.in_.map (eK .i64)), .tree 1 (p2.system.out_.map (eK .i64)), .tree 6 (p2.system.rules.map TRule.enc), .int .i64 p2.code], .box [.int .i64 p1.op, .int .i64 p1.k, .int .i64 p1.out_, .int .i64 p1.n, .tree 1 (p1.a.map (eK .i64)), .tree 4 (p1.e.map TPush.enc)], .box [.int .u8 ((p2.system.vars.getD p1.out_.toNat default).elem), .int .i64 ((p2.system.vars.getD p1.out_.toNat default).n)], .box [.int .u8 x1, .int .i64 x2]]) (fun (x1, x2) => sys_judge_fits_j1 p1 p2 x1 x2 = some r) ?_ ?_
 ·skip
  refine W_rg [23, 24, 25] ?_
  by_cases h70 : (p1.a.length : Int) > 0
  ·rw [if_pos h70] at hm
   refine W_condt rfl (decide_eq_true h70) ?_
   obtain ⟨⟨hg71a, hg71b⟩, hm⟩ := gd hm
   refine W_anx (a2 (em (eK .i64) p1.a 0) (em TVar.enc p2.system.vars ((p1.a.getD 0 default).toNat))) [0, 1, 3, 7, 15, 0, 32, 96, 224, 511, 1023, 2047] [false, false, false, false, false, false, false, false, false, true, true, true] ?_
   refine KJoinM_n ((p2.system.vars.getD ((p1.a.getD 0 default).toNat) default).elem, (p2.system.vars.getD ((p1.a.getD 0 default).toNat) default).n) () hm ?_
   exact ls
  ·rw [if_neg h70] at hm
   refine W_condf rfl (decide_eq_false h70) ?_
   refine W_skip ?_
   refine KJoinM_n (0, 0) () hm ?_
   exact ls
 ·rintro ⟨x1, x2⟩ _ hm
  replace hm : sys_judge_fits_j1 p1 p2 x1 x2 = some r := hm
  refine W_eqm ?_
  unfold sys_judge_fits_j1 at hm
  refine W_regF [38, 39, 40, 41, 42, 43, 44] fun k kp hk hp => ?_
  refine go ?_
  obtain ⟨y3, hc2, hm⟩ := bd hm
  refine RP (fun _ => kinds_Op_ok p1.k _ hc2) ?_
  refine RunRest_ops ?_
  refine go ?_
  refine hk _ _ ?_
  clear hk hp k kp
  refine W_seq_k fun k1 hk1 => ?_
  refine W_rg [45] ?_
  refine W_block ?_
  refine W_rg [48] ?_
  by_cases h3 : p1.op = 1
  ·rw [if_pos h3] at hm
   refine W_condt rfl (beq_iff_eq.2 h3) ?_
   refine W_regG [0, 3, 5, 6, 7, 8, 9, 46, 47, 49, 50, 51, 52, 53, 54, 55, 56, 57, 58, 59, 60, 61, 62, 63, 64, 65, 66] fun k kp hk hp => ?_
   refine RunRest_cut 4 ?_
   refine go ?_
   by_cases h4 : ((p2.system.vars.getD p1.out_.toNat default).n) = 0
   ·rw [if_pos h4] at hm
    have h4b : (((p2.system.vars.getD p1.out_.toNat default).n) == 0) = true := beq_iff_eq.2 h4
    refine RunRest_cut 4 ?_
    refine gox h4b ?_
    by_cases h5 : ((p2.system.vars.getD p1.out_.toNat default).elem) = 105
    ·rw [if_pos h5] at hm
     have h5b : (((p2.system.vars.getD p1.out_.toNat default).elem) == 105) = true := beq_iff_eq.2 h5
     refine RunRest_ops ?_
     refine gox (a2 h4b h5b) ?_
     refine hk _ _ ?_
     clear hk hp k kp
     refine W_ret ?_
     refine KBlock_r ?_
     refine KThen_r ?_
     refine KBody_ret [.box [.tree 2 (p2.system.vars.map TVar.enc), .tree 1 (p2.system.in_.map (eK .i64)), .tree 1 (p2.system.out_.map (eK .i64)), .tree 6 (p2.system.rules.map TRule.enc), .int .i64 p2.code]] ?_
     obtain rfl := Option.some.inj hm
     exact en
    ·rw [if_neg h5] at hm
     have h5b : (((p2.system.vars.getD p1.out_.toNat default).elem) == 105) = false := beq_eq_false_iff_ne.2 h5
     refine RunRest_cut 5 ?_
     refine gox (a2 h4b h5b) ?_
     by_cases h6 : p1.n = 0
     ·rw [if_pos h6] at hm
      have h6b : (p1.n == 0) = true := beq_iff_eq.2 h6
      refine RunRest_ops ?_
      refine gox (a2 h4b (a2 h5b h6b)) ?_
      refine hk _ _ ?_
      clear hk hp k kp
      refine W_ret ?_
      refine KBlock_r ?_
      refine KThen_r ?_
      refine KBody_ret [.box [.tree 2 (p2.system.vars.map TVar.enc), .tree 1 (p2.system.in_.map (eK .i64)), .tree 1 (p2.system.out_.map (eK .i64)), .tree 6 (p2.system.rules.map TRule.enc), .int .i64 p2.code]] ?_
      obtain rfl := Option.some.inj hm
      exact en
     ·rw [if_neg h6] at hm
      have h6b : (p1.n == 0) = false := beq_eq_false_iff_ne.2 h6
      refine RunRest_ops ?_
      refine gox (a2 h4b (a2 h5b h6b)) ?_
      refine hk _ _ ?_
      clear hk hp k kp
      refine W_ret ?_
      refine KBlock_r ?_
      refine KThen_r ?_
      refine KBody_ret [.box [.tree 2 (p2.system.vars.map TVar.enc), .tree 1 (p2.system.in_.map (eK .i64)), .tree 1 (p2.system.out_.map (eK .i64)), .tree 6 (p2.system.rules.map TRule.enc), .int .i64 p2.code]] ?_
      obtain rfl := Option.some.inj hm
      exact en
   ·rw [if_neg h4] at hm
    have h4b : (((p2.system.vars.getD p1.out_.toNat default).n) == 0) = false := beq_eq_false_iff_ne.2 h4
    refine RunRest_ops ?_
    refine gox h4b ?_
    refine hk _ _ ?_
    clear hk hp k kp
    refine W_ret ?_
    refine KBlock_r ?_
    refine KThen_r ?_
    refine KBody_ret [.box [.tree 2 (p2.system.vars.map TVar.enc), .tree 1 (p2.system.in_.map (eK .i64)), .tree 1 (p2.system.out_.map (eK .i64)), .tree 6 (p2.system.rules.map TRule.enc), .int .i64 p2.code]] ?_
    obtain rfl := Option.some.inj hm
    exact en
  ·rw [if_neg h3] at hm
   refine W_condf rfl (beq_eq_false_iff_ne.2 h3) ?_
   refine W_rg [47, 68] ?_
   by_cases h7 : p1.op = 2
   ·rw [if_pos h7] at hm
    refine W_condt rfl (beq_iff_eq.2 h7) ?_
    refine W_rg [0, 3, 5, 6, 7, 8, 9, 46, 67, 69, 70, 71] ?_
    refine W_ret ?_
    refine KBlock_r ?_
    refine KThen_r ?_
    refine KBody_ret [.box [.tree 2 (p2.system.vars.map TVar.enc), .tree 1 (p2.system.in_.map (eK .i64)), .tree 1 (p2.system.out_.map (eK .i64)), .tree 6 (p2.system.rules.map TRule.enc), .int .i64 p2.code]] ?_
    obtain rfl := Option.some.inj hm
    exact en
   ·rw [if_neg h7] at hm
    refine W_condf rfl (beq_eq_false_iff_ne.2 h7) ?_
    refine W_rg [67, 73] ?_
    by_cases h8 : p1.op = 3
    ·rw [if_pos h8] at hm
     refine W_condt rfl (beq_iff_eq.2 h8) ?_
     by_cases h9 : y3.2.2 = 1
     ·rw [if_pos h9] at hm
      have h9b : (y3.2.2 == 1) = true := beq_iff_eq.2 h9
      refine W_regG [0, 3, 5, 6, 7, 8, 9, 46, 72, 74, 75, 76, 77, 78, 79, 80, 81, 82, 83, 84, 85, 86, 87, 88, 89, 90, 91, 92, 93, 94] fun k kp hk hp => ?_
      refine RunRest_cut 9 ?_
      refine gox h9b ?_
      by_cases h10 : x1 = y3.1
      ·rw [if_pos h10] at hm
       have h10b : (x1 == y3.1) = true := beq_iff_eq.2 h10
       refine RunRest_cut 6 ?_
       refine gox (a2 h9b h10b) ?_
       by_cases h11 : ((p2.system.vars.getD p1.out_.toNat default).elem) = y3.2.1
       ·rw [if_pos h11] at hm
        have h11b : (((p2.system.vars.getD p1.out_.toNat default).elem) == y3.2.1) = true := beq_iff_eq.2 h11
        refine RunRest_ops ?_
        refine gox (a2 h9b (a2 h10b h11b)) ?_
        refine hk _ _ ?_
        clear hk hp k kp
        refine W_ret ?_
        refine KBlock_r ?_
        refine KThen_r ?_
        refine KBody_ret [.box [.tree 2 (p2.system.vars.map TVar.enc), .tree 1 (p2.system.in_.map (eK .i64)), .tree 1 (p2.system.out_.map (eK .i64)), .tree 6 (p2.system.rules.map TRule.enc), .int .i64 p2.code]] ?_
        obtain rfl := Option.some.inj hm
        exact en
       ·rw [if_neg h11] at hm
        have h11b : (((p2.system.vars.getD p1.out_.toNat default).elem) == y3.2.1) = false := beq_eq_false_iff_ne.2 h11
        refine RunRest_ops ?_
        refine gox (a2 h9b (a2 h10b h11b)) ?_
        refine hk _ _ ?_
        clear hk hp k kp
        refine W_ret ?_
        refine KBlock_r ?_
        refine KThen_r ?_
        refine KBody_ret [.box [.tree 2 (p2.system.vars.map TVar.enc), .tree 1 (p2.system.in_.map (eK .i64)), .tree 1 (p2.system.out_.map (eK .i64)), .tree 6 (p2.system.rules.map TRule.enc), .int .i64 p2.code]] ?_
        obtain rfl := Option.some.inj hm
        exact en
      ·rw [if_neg h10] at hm
       have h10b : (x1 == y3.1) = false := beq_eq_false_iff_ne.2 h10
       refine RunRest_ops ?_
       refine gox (a2 h9b h10b) ?_
       refine hk _ _ ?_
       clear hk hp k kp
       refine W_ret ?_
       refine KBlock_r ?_
       refine KThen_r ?_
       refine KBody_ret [.box [.tree 2 (p2.system.vars.map TVar.enc), .tree 1 (p2.system.in_.map (eK .i64)), .tree 1 (p2.system.out_.map (eK .i64)), .tree 6 (p2.system.rules.map TRule.enc), .int .i64 p2.code]] ?_
       obtain rfl := Option.some.inj hm
       exact en
     ·rw [if_neg h9] at hm
      have h9b : (y3.2.2 == 1) = false := beq_eq_false_iff_ne.2 h9
      refine W_rgx h9b [0, 3, 5, 6, 7, 8, 9, 46, 72, 74, 75, 76, 77, 78, 79, 80, 81, 82, 83, 84, 85, 86, 87, 88, 89, 90, 91, 92, 93, 94] ?_
      refine W_ret ?_
      refine KBlock_r ?_
      refine KThen_r ?_
      refine KBody_ret [.box [.tree 2 (p2.system.vars.map TVar.enc), .tree 1 (p2.system.in_.map (eK .i64)), .tree 1 (p2.system.out_.map (eK .i64)), .tree 6 (p2.system.rules.map TRule.enc), .int .i64 p2.code]] ?_
      obtain rfl := Option.some.inj hm
      exact en
    ·rw [if_neg h8] at hm
     refine W_condf rfl (beq_eq_false_iff_ne.2 h8) ?_
     refine W_rg [72, 96] ?_
     by_cases h12 : p1.op = 4
     ·rw [if_pos h12] at hm
      refine W_condt rfl (beq_iff_eq.2 h12) ?_
      by_cases h13 : y3.2.2 = 2
      ·rw [if_pos h13] at hm
       have h13b : (y3.2.2 == 2) = true := beq_iff_eq.2 h13
       refine W_regG [0, 3, 5, 6, 7, 8, 9, 46, 95, 97, 98, 99, 100, 101, 102, 103, 104, 105, 106, 107, 108, 109, 110, 111, 112, 113, 114, 115, 116, 117, 118, 119, 120, 121, 122, 123] fun k kp hk hp => ?_
       refine RunRest_cut 9 ?_
       refine gox h13b ?_
       by_cases h14 : x1 = y3.1
       ·rw [if_pos h14] at hm
        have h14b : (x1 == y3.1) = true := beq_iff_eq.2 h14
        refine RunRest_cut 6 ?_
        refine gox (a2 h13b h14b) ?_
        by_cases h15 : ((p2.system.vars.getD p1.out_.toNat default).elem) = y3.2.1
        ·rw [if_pos h15] at hm
         have h15b : (((p2.system.vars.getD p1.out_.toNat default).elem) == y3.2.1) = true := beq_iff_eq.2 h15
         refine RunRest_cut 7 ?_
         refine gox (a2 h13b (a2 h14b h15b)) ?_
         by_cases h16 : ((p2.system.vars.getD p1.out_.toNat default).n) = x2
         ·rw [if_pos h16] at hm
          have h16b : (((p2.system.vars.getD p1.out_.toNat default).n) == x2) = true := beq_iff_eq.2 h16
          refine RunRest_ops ?_
          refine gox (a2 h13b (a2 h14b (a2 h15b h16b))) ?_
          obtain ⟨y4, hc17, hm⟩ := bd hm
          refine RA (sys_judge_same_ok p1.a p2  _ hc17) [0] ?_
          rintro p σ' hq18 _
          obtain ⟨rfl, rfl⟩ := hq18
          refine RunRest_ops ?_
          refine gox (a2 h13b (a2 h14b (a2 h15b h16b))) ?_
          refine hk _ _ ?_
          clear hk hp k kp
          refine W_ret ?_
          refine KBlock_r ?_
          refine KThen_r ?_
          refine KBody_ret [.box [.tree 2 (p2.system.vars.map TVar.enc), .tree 1 (p2.system.in_.map (eK .i64)), .tree 1 (p2.system.out_.map (eK .i64)), .tree 6 (p2.system.rules.map TRule.enc), .int .i64 p2.code]] ?_
          obtain rfl := Option.some.inj hm
          exact en
         ·rw [if_neg h16] at hm
          have h16b : (((p2.system.vars.getD p1.out_.toNat default).n) == x2) = false := beq_eq_false_iff_ne.2 h16
          refine RunRest_ops ?_
          refine gox (a2 h13b (a2 h14b (a2 h15b h16b))) ?_
          refine hk _ _ ?_
          clear hk hp k kp
          refine W_ret ?_
          refine KBlock_r ?_
          refine KThen_r ?_
          refine KBody_ret [.box [.tree 2 (p2.system.vars.map TVar.enc), .tree 1 (p2.system.in_.map (eK .i64)), .tree 1 (p2.system.out_.map (eK .i64)), .tree 6 (p2.system.rules.map TRule.enc), .int .i64 p2.code]] ?_
          obtain rfl := Option.some.inj hm
          exact en
        ·rw [if_neg h15] at hm
         have h15b : (((p2.system.vars.getD p1.out_.toNat default).elem) == y3.2.1) = false := beq_eq_false_iff_ne.2 h15
         refine RunRest_ops ?_
         refine gox (a2 h13b (a2 h14b h15b)) ?_
         refine hk _ _ ?_
         clear hk hp k kp
         refine W_ret ?_
         refine KBlock_r ?_
         refine KThen_r ?_
         refine KBody_ret [.box [.tree 2 (p2.system.vars.map TVar.enc), .tree 1 (p2.system.in_.map (eK .i64)), .tree 1 (p2.system.out_.map (eK .i64)), .tree 6 (p2.system.rules.map TRule.enc), .int .i64 p2.code]] ?_
         obtain rfl := Option.some.inj hm
         exact en
       ·rw [if_neg h14] at hm
        have h14b : (x1 == y3.1) = false := beq_eq_false_iff_ne.2 h14
        refine RunRest_ops ?_
        refine gox (a2 h13b h14b) ?_
        refine hk _ _ ?_
        clear hk hp k kp
        refine W_ret ?_
        refine KBlock_r ?_
        refine KThen_r ?_
        refine KBody_ret [.box [.tree 2 (p2.system.vars.map TVar.enc), .tree 1 (p2.system.in_.map (eK .i64)), .tree 1 (p2.system.out_.map (eK .i64)), .tree 6 (p2.system.rules.map TRule.enc), .int .i64 p2.code]] ?_
        obtain rfl := Option.some.inj hm
        exact en
      ·rw [if_neg h13] at hm
       have h13b : (y3.2.2 == 2) = false := beq_eq_false_iff_ne.2 h13
       refine W_rgx h13b [0, 3, 5, 6, 7, 8, 9, 46, 95, 97, 98, 99, 100, 101, 102, 103, 104, 105, 106, 107, 108, 109, 110, 111, 112, 113, 114, 115, 116, 117, 118, 119, 120, 121, 122, 123] ?_
       refine W_ret ?_
       refine KBlock_r ?_
       refine KThen_r ?_
       refine KBody_ret [.box [.tree 2 (p2.system.vars.map TVar.enc), .tree 1 (p2.system.in_.map (eK .i64)), .tree 1 (p2.system.out_.map (eK .i64)), .tree 6 (p2.system.rules.map TRule.enc), .int .i64 p2.code]] ?_
       obtain rfl := Option.some.inj hm
       exact en
     ·rw [if_neg h12] at hm
      refine W_condf rfl (beq_eq_false_iff_ne.2 h12) ?_
      refine W_rg [8, 9, 95, 125] ?_
      by_cases h19 : p1.op = 5
      ·rw [if_pos h19] at hm
       refine W_condt rfl (beq_iff_eq.2 h19) ?_
       refine W_anyTF [0, 3, 5, 6, 7, 46, 124, 126, 127, 128, 129, 130, 131, 132, 133, 134, 135, 136, 137, 138, 139, 140, 141, 142, 143] (by kernel_rfl) [0, 0, 3, 7, 15, 15, 47, 111, 239, 15, 527, 1551, 3599, 15, 8207, 32751, 65535, 131071, 262143] [false, false, true, true, false, false, false, false, false, false, false, false, false, false, false, false, true, true, true] (by kernel_rfl) fun k hk => ?_
       refine TR_ops ?_
       refine ga ?_
       obtain ⟨y5, hc20, hm⟩ := bd hm
       refine AnyCall_pureT (fun _ => sys_scalar_ok 98 _ hc20) (by first | trivial | exact dst_ok rfl) (by first | trivial | (intro _; first | trivial | simp [need]) | simp [need]) rfl (fun _ => rfl) ?_
       by_cases h21 : x1 = ((y5).elem) ∧ x2 = ((y5).n)
       ·rw [if_pos h21] at hm
        have h21b : ((x1 == ((y5).elem)) && (x2 == ((y5).n))) = true := by simpa [Bool.and_eq_true] using h21
        obtain ⟨⟨hg22a, hg22b⟩, hm⟩ := gd hm
        refine TR_ops ?_
        refine gax (a2 (em (eK .i64) p1.a 1) (a2 (em (eK .i64) p1.a 2) h21b)) ?_
        obtain ⟨y6, hc23, hm⟩ := bd hm
        refine AnyCall_atT (σ2 := [.box [.tree 2 (p2.system.vars.map TVar.enc), .tree 1 (p2.system.in_.map (eK .i64)), .tree 1 (p2.system.out_.map (eK .i64)), .tree 6 (p2.system.rules.map TRule.enc), .int .i64 p2.code], .box [.int .i64 p1.op, .int .i64 p1.k, .int .i64 p1.out_, .int .i64 p1.n, .tree 1 (p1.a.map (eK .i64)), .tree 4 (p1.e.map TPush.enc)], .box [.int .u8 ((p2.system.vars.getD p1.out_.toNat default).elem), .int .i64 ((p2.system.vars.getD p1.out_.toNat default).n)], .box [.int .u8 x1, .int .i64 x2], .arr 1 0 3 ((lit ([(p1.a.getD 1 default), (p1.a.getD 2 default), p1.out_] : List Int)).map (eK .i64))]) (res := .c (.bool y6)) ⟨_, _, _, _, [0, 4], sys_judge_same_2_ok p2 (lit ([(p1.a.getD 1 default), (p1.a.getD 2 default), p1.out_] : List Int)) 0 _ hc23, by simp, by simp, rfl, rfl, by first | trivial | (simp [bX, eK, eB, eS, eL, s_cap, psUnder, PV.under, CV.under, obsBelow, OB.under, cvsBelow]; done), by first | trivial | (simp [bX, eK, eB, eS, eL, s_cap, psUnder, PV.under, CV.under, obsBelow, OB.under, cvsBelow]; done), fun q τ hq _ => by obtain ⟨rfl, rfl⟩ := hq; exact ⟨rfl, rfl⟩, fun _ _ h => h.elim⟩ (by first | trivial | exact dst_ok rfl) (by first | trivial | (intro _; first | trivial | simp [need]) | simp [need]) (by first | exact .inl rfl | exact .inr (by simp only [extB]; and_intros <;> first | rfl | trivial)) ?_
        refine TR_ops ?_
        refine gax h21b ?_
        refine hk _ _ ?_
        clear hk k
        refine W_eqa [.box [.tree 2 (p2.system.vars.map TVar.enc), .tree 1 (p2.system.in_.map (eK .i64)), .tree 1 (p2.system.out_.map (eK .i64)), .tree 6 (p2.system.rules.map TRule.enc), .int .i64 p2.code], .box [.int .i64 p1.op, .int .i64 p1.k, .int .i64 p1.out_, .int .i64 p1.n, .tree 1 (p1.a.map (eK .i64)), .tree 4 (p1.e.map TPush.enc)], .box [.int .u8 ((p2.system.vars.getD p1.out_.toNat default).elem), .int .i64 ((p2.system.vars.getD p1.out_.toNat default).n)], .box [.int .u8 x1, .int .i64 x2], .arr 1 0 3 ((lit ([(p1.a.getD 1 default), (p1.a.getD 2 default), p1.out_] : List Int)).map (eK .i64))] ?_
        refine W_ret ?_
        refine KBlock_r ?_
        refine KThen_r ?_
        refine KBody_ret [.box [.tree 2 (p2.system.vars.map TVar.enc), .tree 1 (p2.system.in_.map (eK .i64)), .tree 1 (p2.system.out_.map (eK .i64)), .tree 6 (p2.system.rules.map TRule.enc), .int .i64 p2.code]] ?_
        obtain rfl := Option.some.inj hm
        exact en
       ·rw [if_neg h21] at hm
        have h21b : ((x1 == ((y5).elem)) && (x2 == ((y5).n))) = false := Bool.eq_false_iff.2 (fun hh => h21 (by simpa [Bool.and_eq_true] using hh))
        refine TR_ops ?_
        refine gax h21b ?_
        refine hk _ _ ?_
        clear hk k
        refine W_ret ?_
        refine KBlock_r ?_
        refine KThen_r ?_
        refine KBody_ret [.box [.tree 2 (p2.system.vars.map TVar.enc), .tree 1 (p2.system.in_.map (eK .i64)), .tree 1 (p2.system.out_.map (eK .i64)), .tree 6 (p2.system.rules.map TRule.enc), .int .i64 p2.code]] ?_
        obtain rfl := Option.some.inj hm
        exact en
      ·rw [if_neg h19] at hm
       refine W_condf rfl (beq_eq_false_iff_ne.2 h19) ?_
       refine W_joinM (S := Bool) (V := Unit) [124, 144, 145, 146] (fun b7 _ => [(144, .c (.bool b7))]) (fun b7 _ => [.box [.tree 2 (p2.system.vars.map TVar.enc), .tree 1 (p2.system.in_.map (eK .i64)), .tree 1 (p2.system.out_.map (eK .i64)), .tree 6 (p2.system.rules.map TRule.enc), .int .i64 p2.code], .box [.int .i64 p1.op, .int .i64 p1.k, .int .i64 p1.out_, .int .i64 p1.n, .tree 1 (p1.a.map (eK .i64)), .tree 4 (p1.e.map TPush.enc)], .box [.int .u8 ((p2.system.vars.getD p1.out_.toNat default).elem), .int .i64 ((p2.system.vars.getD p1.out_.toNat default).n)], .box [.int .u8 x1, .int .i64 x2]]) (fun b7 => sys_judge_fits_j2 p1 p2 x1 x2 y3 b7 = some r) ?_ ?_
       ·skip
        refine W_rg [124, 145] ?_
        by_cases h69 : p1.op = 6
        ·rw [if_pos h69] at hm
         refine W_condt rfl (beq_iff_eq.2 h69) ?_
         refine W_skip ?_
         refine KJoinM_n (p1.op == 6) () hm ?_
         exact ls
        ·rw [if_neg h69] at hm
         refine W_condf rfl (beq_eq_false_iff_ne.2 h69) ?_
         refine W_rn ?_
         refine KJoinM_n (p1.op == 7) () hm ?_
         exact ls
       ·rintro b7 _ hm
        replace hm : sys_judge_fits_j2 p1 p2 x1 x2 y3 b7 = some r := hm
        refine W_eqm ?_
        unfold sys_judge_fits_j2 at hm
        by_cases h24 : b7 = true
        ·rw [if_pos h24] at hm
         refine W_condt rfl (h24) ?_
         obtain ⟨⟨hg25a, hg25b⟩, hm⟩ := gd hm
         refine W_agx (a2 (em (eK .i64) p1.a 1) (em TVar.enc p2.system.vars ((p1.a.getD 1 default).toNat))) [0, 46, 144, 147, 148, 149, 150, 151, 152, 153, 154, 155, 156, 157] [0, 1, 3, 7, 15, 0, 32, 96, 224, 511, 1023, 0, 4095] [false, false, false, false, false, false, false, false, false, false, false, false, true] ?_
         refine W_anyTF [3, 5, 6, 7, 10, 158, 159, 160, 161, 162, 163, 164, 165, 166, 167, 168, 169, 170, 171, 172, 173, 174, 175, 176, 177, 178, 179, 180, 181, 182, 183, 184, 185, 186, 187, 188, 189, 190, 191, 192, 193, 194, 195, 196, 197] (by kernel_rfl) [0, 1, 3, 7, 15, 15, 47, 127, 255, 511, 1023, 2047, 4095, 8191, 16383, 32767, 65535, 32767, 262143, 524287, 1048575, 2097151, 4194303, 8388607, 16777215, 33554431, 33554431, 134217727, 268435455, 536870911, 1073741823, 2147483647, 4294967295, 8589934591, 17179869183, 17179869183, 68719476735, 137438953471, 274877906943, 549755813887, 1099511627775] [true, true, true, true, false, false, false, true, true, true, true, true, true, true, true, false, false, false, true, true, true, true, true, true, true, false, false, true, true, true, true, true, true, true, false, false, true, true, true, true, true] (by kernel_rfl) fun k hk => ?_
         refine TR_ops ?_
         refine ga ?_
         obtain ⟨y8, hc26, hm⟩ := bd hm
         refine AnyCall_pureT (fun _ => kinds_Folds_ok p1.k _ hc26) (by first | trivial | exact dst_ok rfl) (by first | trivial | (intro _; first | trivial | simp [need]) | simp [need]) rfl (fun _ => rfl) ?_
         by_cases h27 : y8 = true
         ·rw [if_pos h27] at hm
          have h27b : y8 = true := h27
          refine TR_ops ?_
          refine gax h27b ?_
          obtain ⟨y9, hc28, hm⟩ := bd hm
          refine AnyCall_pureT (fun _ => sys_scalar_ok y3.1 _ hc28) (by first | trivial | exact dst_ok rfl) (by first | trivial | (intro _; first | trivial | simp [need]) | simp [need]) rfl (fun _ => rfl) ?_
          by_cases h29 : x1 = ((y9).elem) ∧ x2 = ((y9).n)
          ·rw [if_pos h29] at hm
           have h29b : ((x1 == ((y9).elem)) && (x2 == ((y9).n))) = true := by simpa [Bool.and_eq_true] using h29
           refine TR_cut 8 rfl ?_
           refine gax (a2 h27b h29b) ?_
           by_cases h30 : ((p2.system.vars.getD ((p1.a.getD 1 default).toNat) default).n) > 0
           ·rw [if_pos h30] at hm
            have h30b : decide (((p2.system.vars.getD ((p1.a.getD 1 default).toNat) default).n) > 0) = true := decide_eq_true h30
            refine TR_cut 6 rfl ?_
            refine gax (a2 h27b (a2 h29b h30b)) ?_
            by_cases h31 : ((p2.system.vars.getD ((p1.a.getD 1 default).toNat) default).elem) = y3.1
            ·rw [if_pos h31] at hm
             have h31b : (((p2.system.vars.getD ((p1.a.getD 1 default).toNat) default).elem) == y3.1) = true := beq_iff_eq.2 h31
             refine TR_cut 4 rfl ?_
             refine gax (a2 h27b (a2 h29b (a2 h30b h31b))) ?_
             by_cases h32 : p1.op = 6
             ·rw [if_pos h32] at hm
              have h32b : (p1.op == 6) = true := beq_iff_eq.2 h32
              refine TR_cut 5 rfl ?_
              refine gax (a2 h27b (a2 h29b (a2 h30b (a2 h31b h32b)))) ?_
              by_cases h33 : ((p2.system.vars.getD p1.out_.toNat default).elem) = x1 ∧ ((p2.system.vars.getD p1.out_.toNat default).n) = x2
              ·rw [if_pos h33] at hm
               have h33b : ((((p2.system.vars.getD p1.out_.toNat default).elem) == x1) && (((p2.system.vars.getD p1.out_.toNat default).n) == x2)) = true := by simpa [Bool.and_eq_true] using h33
               refine TR_ops ?_
               refine gax (a2 h27b (a2 h29b (a2 h30b (a2 h31b (a2 h32b h33b))))) ?_
               refine hk _ _ ?_
               clear hk k
               refine W_ret ?_
               refine KBlock_r ?_
               refine KThen_r ?_
               refine KBody_ret [.box [.tree 2 (p2.system.vars.map TVar.enc), .tree 1 (p2.system.in_.map (eK .i64)), .tree 1 (p2.system.out_.map (eK .i64)), .tree 6 (p2.system.rules.map TRule.enc), .int .i64 p2.code]] ?_
               obtain rfl := Option.some.inj hm
               exact en
              ·rw [if_neg h33] at hm
               have h33b : ((((p2.system.vars.getD p1.out_.toNat default).elem) == x1) && (((p2.system.vars.getD p1.out_.toNat default).n) == x2)) = false := Bool.eq_false_iff.2 (fun hh => h33 (by simpa [Bool.and_eq_true] using hh))
               refine TR_cut 4 rfl ?_
               refine gax (a2 h27b (a2 h29b (a2 h30b (a2 h31b (a2 h32b h33b))))) ?_
               by_cases h34 : p1.op = 7
               ·rw [if_pos h34] at hm
                have h34b : (p1.op == 7) = true := beq_iff_eq.2 h34
                refine TR_ops ?_
                refine gax (a2 h27b (a2 h29b (a2 h30b (a2 h31b (a2 h32b (a2 h33b h34b)))))) ?_
                refine hk _ _ ?_
                clear hk k
                refine W_ret ?_
                refine KBlock_r ?_
                refine KThen_r ?_
                refine KBody_ret [.box [.tree 2 (p2.system.vars.map TVar.enc), .tree 1 (p2.system.in_.map (eK .i64)), .tree 1 (p2.system.out_.map (eK .i64)), .tree 6 (p2.system.rules.map TRule.enc), .int .i64 p2.code]] ?_
                obtain rfl := Option.some.inj hm
                exact en
               ·rw [if_neg h34] at hm
                have h34b : (p1.op == 7) = false := beq_eq_false_iff_ne.2 h34
                refine TR_ops ?_
                refine gax (a2 h27b (a2 h29b (a2 h30b (a2 h31b (a2 h32b (a2 h33b h34b)))))) ?_
                refine hk _ _ ?_
                clear hk k
                refine W_ret ?_
                refine KBlock_r ?_
                refine KThen_r ?_
                refine KBody_ret [.box [.tree 2 (p2.system.vars.map TVar.enc), .tree 1 (p2.system.in_.map (eK .i64)), .tree 1 (p2.system.out_.map (eK .i64)), .tree 6 (p2.system.rules.map TRule.enc), .int .i64 p2.code]] ?_
                obtain rfl := Option.some.inj hm
                exact en
             ·rw [if_neg h32] at hm
              have h32b : (p1.op == 6) = false := beq_eq_false_iff_ne.2 h32
              refine TR_cut 9 rfl ?_
              refine gax (a2 h27b (a2 h29b (a2 h30b (a2 h31b h32b)))) ?_
              by_cases h35 : p1.op = 7
              ·rw [if_pos h35] at hm
               have h35b : (p1.op == 7) = true := beq_iff_eq.2 h35
               refine TR_ops ?_
               refine gax (a2 h27b (a2 h29b (a2 h30b (a2 h31b (a2 h32b h35b))))) ?_
               refine hk _ _ ?_
               clear hk k
               refine W_ret ?_
               refine KBlock_r ?_
               refine KThen_r ?_
               refine KBody_ret [.box [.tree 2 (p2.system.vars.map TVar.enc), .tree 1 (p2.system.in_.map (eK .i64)), .tree 1 (p2.system.out_.map (eK .i64)), .tree 6 (p2.system.rules.map TRule.enc), .int .i64 p2.code]] ?_
               obtain rfl := Option.some.inj hm
               exact en
              ·rw [if_neg h35] at hm
               have h35b : (p1.op == 7) = false := beq_eq_false_iff_ne.2 h35
               refine TR_ops ?_
               refine gax (a2 h27b (a2 h29b (a2 h30b (a2 h31b (a2 h32b h35b))))) ?_
               refine hk _ _ ?_
               clear hk k
               refine W_ret ?_
               refine KBlock_r ?_
               refine KThen_r ?_
               refine KBody_ret [.box [.tree 2 (p2.system.vars.map TVar.enc), .tree 1 (p2.system.in_.map (eK .i64)), .tree 1 (p2.system.out_.map (eK .i64)), .tree 6 (p2.system.rules.map TRule.enc), .int .i64 p2.code]] ?_
               obtain rfl := Option.some.inj hm
               exact en
            ·rw [if_neg h31] at hm
             have h31b : (((p2.system.vars.getD ((p1.a.getD 1 default).toNat) default).elem) == y3.1) = false := beq_eq_false_iff_ne.2 h31
             refine TR_ops ?_
             refine gax (a2 h27b (a2 h29b (a2 h30b h31b))) ?_
             refine hk _ _ ?_
             clear hk k
             refine W_ret ?_
             refine KBlock_r ?_
             refine KThen_r ?_
             refine KBody_ret [.box [.tree 2 (p2.system.vars.map TVar.enc), .tree 1 (p2.system.in_.map (eK .i64)), .tree 1 (p2.system.out_.map (eK .i64)), .tree 6 (p2.system.rules.map TRule.enc), .int .i64 p2.code]] ?_
             obtain rfl := Option.some.inj hm
             exact en
           ·rw [if_neg h30] at hm
            have h30b : decide (((p2.system.vars.getD ((p1.a.getD 1 default).toNat) default).n) > 0) = false := decide_eq_false h30
            refine TR_ops ?_
            refine gax (a2 h27b (a2 h29b h30b)) ?_
            refine hk _ _ ?_
            clear hk k
            refine W_ret ?_
            refine KBlock_r ?_
            refine KThen_r ?_
            refine KBody_ret [.box [.tree 2 (p2.system.vars.map TVar.enc), .tree 1 (p2.system.in_.map (eK .i64)), .tree 1 (p2.system.out_.map (eK .i64)), .tree 6 (p2.system.rules.map TRule.enc), .int .i64 p2.code]] ?_
            obtain rfl := Option.some.inj hm
            exact en
          ·rw [if_neg h29] at hm
           have h29b : ((x1 == ((y9).elem)) && (x2 == ((y9).n))) = false := Bool.eq_false_iff.2 (fun hh => h29 (by simpa [Bool.and_eq_true] using hh))
           refine TR_ops ?_
           refine gax (a2 h27b h29b) ?_
           refine hk _ _ ?_
           clear hk k
           refine W_ret ?_
           refine KBlock_r ?_
           refine KThen_r ?_
           refine KBody_ret [.box [.tree 2 (p2.system.vars.map TVar.enc), .tree 1 (p2.system.in_.map (eK .i64)), .tree 1 (p2.system.out_.map (eK .i64)), .tree 6 (p2.system.rules.map TRule.enc), .int .i64 p2.code]] ?_
           obtain rfl := Option.some.inj hm
           exact en
         ·rw [if_neg h27] at hm
          have h27b : y8 = false := Bool.eq_false_iff.2 h27
          refine TR_ops ?_
          refine gax h27b ?_
          refine hk _ _ ?_
          clear hk k
          refine W_ret ?_
          refine KBlock_r ?_
          refine KThen_r ?_
          refine KBody_ret [.box [.tree 2 (p2.system.vars.map TVar.enc), .tree 1 (p2.system.in_.map (eK .i64)), .tree 1 (p2.system.out_.map (eK .i64)), .tree 6 (p2.system.rules.map TRule.enc), .int .i64 p2.code]] ?_
          obtain rfl := Option.some.inj hm
          exact en
        ·rw [if_neg h24] at hm
         refine W_condf rfl (Bool.eq_false_iff.2 h24) ?_
         refine W_rg [7, 144, 199] ?_
         by_cases h36 : p1.op = 8
         ·rw [if_pos h36] at hm
          refine W_condt rfl (beq_iff_eq.2 h36) ?_
          refine W_regG [0, 3, 5, 6, 46, 198, 200, 201, 202, 203, 204, 205, 206, 207, 208, 209, 210, 211, 212, 213, 214] fun k kp hk hp => ?_
          refine RunRest_cut 4 ?_
          refine go ?_
          by_cases h37 : x2 = 0
          ·rw [if_pos h37] at hm
           have h37b : (x2 == 0) = true := beq_iff_eq.2 h37
           refine RunRest_cut 5 ?_
           refine gox h37b ?_
           by_cases h38 : ((p2.system.vars.getD p1.out_.toNat default).n) > 0
           ·rw [if_pos h38] at hm
            have h38b : decide (((p2.system.vars.getD p1.out_.toNat default).n) > 0) = true := decide_eq_true h38
            refine RunRest_ops ?_
            refine gox (a2 h37b h38b) ?_
            refine hk _ _ ?_
            clear hk hp k kp
            refine W_ret ?_
            refine KBlock_r ?_
            refine KThen_r ?_
            refine KBody_ret [.box [.tree 2 (p2.system.vars.map TVar.enc), .tree 1 (p2.system.in_.map (eK .i64)), .tree 1 (p2.system.out_.map (eK .i64)), .tree 6 (p2.system.rules.map TRule.enc), .int .i64 p2.code]] ?_
            obtain rfl := Option.some.inj hm
            exact en
           ·rw [if_neg h38] at hm
            have h38b : decide (((p2.system.vars.getD p1.out_.toNat default).n) > 0) = false := decide_eq_false h38
            refine RunRest_ops ?_
            refine gox (a2 h37b h38b) ?_
            refine hk _ _ ?_
            clear hk hp k kp
            refine W_ret ?_
            refine KBlock_r ?_
            refine KThen_r ?_
            refine KBody_ret [.box [.tree 2 (p2.system.vars.map TVar.enc), .tree 1 (p2.system.in_.map (eK .i64)), .tree 1 (p2.system.out_.map (eK .i64)), .tree 6 (p2.system.rules.map TRule.enc), .int .i64 p2.code]] ?_
            obtain rfl := Option.some.inj hm
            exact en
          ·rw [if_neg h37] at hm
           have h37b : (x2 == 0) = false := beq_eq_false_iff_ne.2 h37
           refine RunRest_ops ?_
           refine gox h37b ?_
           refine hk _ _ ?_
           clear hk hp k kp
           refine W_ret ?_
           refine KBlock_r ?_
           refine KThen_r ?_
           refine KBody_ret [.box [.tree 2 (p2.system.vars.map TVar.enc), .tree 1 (p2.system.in_.map (eK .i64)), .tree 1 (p2.system.out_.map (eK .i64)), .tree 6 (p2.system.rules.map TRule.enc), .int .i64 p2.code]] ?_
           obtain rfl := Option.some.inj hm
           exact en
         ·rw [if_neg h36] at hm
          refine W_condf rfl (beq_eq_false_iff_ne.2 h36) ?_
          refine W_joinM (S := Bool) (V := Unit) [198, 215, 216, 217] (fun b10 _ => [(215, .c (.bool b10))]) (fun b10 _ => [.box [.tree 2 (p2.system.vars.map TVar.enc), .tree 1 (p2.system.in_.map (eK .i64)), .tree 1 (p2.system.out_.map (eK .i64)), .tree 6 (p2.system.rules.map TRule.enc), .int .i64 p2.code], .box [.int .i64 p1.op, .int .i64 p1.k, .int .i64 p1.out_, .int .i64 p1.n, .tree 1 (p1.a.map (eK .i64)), .tree 4 (p1.e.map TPush.enc)], .box [.int .u8 ((p2.system.vars.getD p1.out_.toNat default).elem), .int .i64 ((p2.system.vars.getD p1.out_.toNat default).n)], .box [.int .u8 x1, .int .i64 x2]]) (fun b10 => sys_judge_fits_j3 p1 p2 x1 x2 b10 = some r) ?_ ?_
          ·skip
           refine W_rg [198, 216] ?_
           by_cases h68 : p1.op = 9
           ·rw [if_pos h68] at hm
            refine W_condt rfl (beq_iff_eq.2 h68) ?_
            refine W_skip ?_
            refine KJoinM_n (p1.op == 9) () hm ?_
            exact ls
           ·rw [if_neg h68] at hm
            refine W_condf rfl (beq_eq_false_iff_ne.2 h68) ?_
            refine W_rn ?_
            refine KJoinM_n (p1.op == 10) () hm ?_
            exact ls
          ·rintro b10 _ hm
           replace hm : sys_judge_fits_j3 p1 p2 x1 x2 b10 = some r := hm
           refine W_eqm ?_
           unfold sys_judge_fits_j3 at hm
           by_cases h39 : b10 = true
           ·rw [if_pos h39] at hm
            refine W_condt rfl (h39) ?_
            obtain ⟨hg40a, hm⟩ := gd hm
            refine W_regF [46, 215, 218, 219, 220, 221, 222, 223, 224, 225, 226] fun k kp hk hp => ?_
            refine gox (em (eK .i64) p1.a 0) ?_
            obtain ⟨y11, hc41, hm⟩ := bd hm
            refine RA (sys_judge_elem_ok (p1.a.getD 0 default) p2  _ hc41) [0] ?_
            rintro p σ' hq42 _
            obtain ⟨rfl, rfl⟩ := hq42
            refine RunRest_ops ?_
            refine go ?_
            refine hk _ _ ?_
            clear hk hp k kp
            by_cases h43 : y11.2 = true
            ·rw [if_pos h43] at hm
             have h43b : y11.2 = true := h43
             obtain ⟨⟨hg44a, hg44b⟩, hm⟩ := gd hm
             refine W_anyTF [0, 3, 5, 6, 11, 12, 227, 228, 229, 230, 231, 232, 233, 234, 235, 236, 237, 238, 239, 240, 241, 242, 243, 244, 245, 246, 247, 248, 249, 250, 251, 252, 253, 254, 255, 256, 257, 258, 259, 260, 261, 262, 263, 264, 265, 266, 267, 268, 269, 270, 271, 272, 273, 274, 275, 276, 277] (by kernel_rfl) [0, 1, 3, 7, 15, 31, 63, 3, 131, 387, 899, 2047, 4095, 3, 16383, 32767, 65535, 131071, 262143, 524287, 1048575, 2097151, 131071, 4325375, 12713983, 29491199, 67108863, 134217727, 131071, 536870911, 1073741823, 2147483647, 4294967295, 8589934591, 17179869183, 34359738367, 68719476735, 68719476735, 274877906943, 549755813887, 1099511627775, 2199023255551, 4398046511103, 8796093022207, 17592186044415, 35184372088831, 35184372088831, 140737488355327, 281474976710655, 562949953421311, 1125899906842623, 2251799813685247] [true, true, false, false, false, false, false, false, false, false, false, false, false, false, true, true, true, false, false, false, false, false, false, false, false, false, false, false, false, true, true, true, true, true, true, true, false, false, true, true, true, true, true, true, true, false, false, true, true, true, true, true] (by kernel_rfl) fun k hk => ?_
             refine TR_ops ?_
             refine gax (a2 (em (eK .i64) p1.a 1) (a2 (em TVar.enc p2.system.vars ((p1.a.getD 1 default).toNat)) h43b)) ?_
             obtain ⟨y12, hc45, hm⟩ := bd hm
             refine AnyCall_pureT (fun _ => sys_scalar_ok 105 _ hc45) (by first | trivial | exact dst_ok rfl) (by first | trivial | (intro _; first | trivial | simp [need]) | simp [need]) rfl (fun _ => rfl) ?_
             by_cases h46 : ((p2.system.vars.getD ((p1.a.getD 1 default).toNat) default).elem) = ((y12).elem) ∧ ((p2.system.vars.getD ((p1.a.getD 1 default).toNat) default).n) = ((y12).n)
             ·rw [if_pos h46] at hm
              have h46b : ((((p2.system.vars.getD ((p1.a.getD 1 default).toNat) default).elem) == ((y12).elem)) && (((p2.system.vars.getD ((p1.a.getD 1 default).toNat) default).n) == ((y12).n))) = true := by simpa [Bool.and_eq_true] using h46
              obtain ⟨⟨hg47a, hg47b⟩, hm⟩ := gd hm
              refine TR_cut 18 rfl ?_
              refine gax (a2 (em (eK .i64) p1.a 2) (a2 (em TVar.enc p2.system.vars ((p1.a.getD 2 default).toNat)) (a2 h43b h46b))) ?_
              by_cases h48 : ((p2.system.vars.getD ((p1.a.getD 2 default).toNat) default).elem) = ((y11.1).elem) ∧ ((p2.system.vars.getD ((p1.a.getD 2 default).toNat) default).n) = ((y11.1).n)
              ·rw [if_pos h48] at hm
               have h48b : ((((p2.system.vars.getD ((p1.a.getD 2 default).toNat) default).elem) == ((y11.1).elem)) && (((p2.system.vars.getD ((p1.a.getD 2 default).toNat) default).n) == ((y11.1).n))) = true := by simpa [Bool.and_eq_true] using h48
               refine TR_cut 4 rfl ?_
               refine gax (a2 h43b (a2 h46b h48b)) ?_
               by_cases h49 : p1.op = 9
               ·rw [if_pos h49] at hm
                have h49b : (p1.op == 9) = true := beq_iff_eq.2 h49
                refine TR_cut 5 rfl ?_
                refine gax (a2 h43b (a2 h46b (a2 h48b h49b))) ?_
                by_cases h50 : ((p2.system.vars.getD p1.out_.toNat default).elem) = ((y11.1).elem) ∧ ((p2.system.vars.getD p1.out_.toNat default).n) = ((y11.1).n)
                ·rw [if_pos h50] at hm
                 have h50b : ((((p2.system.vars.getD p1.out_.toNat default).elem) == ((y11.1).elem)) && (((p2.system.vars.getD p1.out_.toNat default).n) == ((y11.1).n))) = true := by simpa [Bool.and_eq_true] using h50
                 refine TR_ops ?_
                 refine gax (a2 h43b (a2 h46b (a2 h48b (a2 h49b h50b)))) ?_
                 refine hk _ _ ?_
                 clear hk k
                 refine W_ret ?_
                 refine KBlock_r ?_
                 refine KThen_r ?_
                 refine KBody_ret [.box [.tree 2 (p2.system.vars.map TVar.enc), .tree 1 (p2.system.in_.map (eK .i64)), .tree 1 (p2.system.out_.map (eK .i64)), .tree 6 (p2.system.rules.map TRule.enc), .int .i64 p2.code]] ?_
                 obtain rfl := Option.some.inj hm
                 exact en
                ·rw [if_neg h50] at hm
                 have h50b : ((((p2.system.vars.getD p1.out_.toNat default).elem) == ((y11.1).elem)) && (((p2.system.vars.getD p1.out_.toNat default).n) == ((y11.1).n))) = false := Bool.eq_false_iff.2 (fun hh => h50 (by simpa [Bool.and_eq_true] using hh))
                 refine TR_cut 4 rfl ?_
                 refine gax (a2 h43b (a2 h46b (a2 h48b (a2 h49b h50b)))) ?_
                 by_cases h51 : p1.op = 10
                 ·rw [if_pos h51] at hm
                  have h51b : (p1.op == 10) = true := beq_iff_eq.2 h51
                  refine TR_ops ?_
                  refine gax (a2 h43b (a2 h46b (a2 h48b (a2 h49b (a2 h50b h51b))))) ?_
                  refine hk _ _ ?_
                  clear hk k
                  refine W_ret ?_
                  refine KBlock_r ?_
                  refine KThen_r ?_
                  refine KBody_ret [.box [.tree 2 (p2.system.vars.map TVar.enc), .tree 1 (p2.system.in_.map (eK .i64)), .tree 1 (p2.system.out_.map (eK .i64)), .tree 6 (p2.system.rules.map TRule.enc), .int .i64 p2.code]] ?_
                  obtain rfl := Option.some.inj hm
                  exact en
                 ·rw [if_neg h51] at hm
                  have h51b : (p1.op == 10) = false := beq_eq_false_iff_ne.2 h51
                  refine TR_ops ?_
                  refine gax (a2 h43b (a2 h46b (a2 h48b (a2 h49b (a2 h50b h51b))))) ?_
                  refine hk _ _ ?_
                  clear hk k
                  refine W_ret ?_
                  refine KBlock_r ?_
                  refine KThen_r ?_
                  refine KBody_ret [.box [.tree 2 (p2.system.vars.map TVar.enc), .tree 1 (p2.system.in_.map (eK .i64)), .tree 1 (p2.system.out_.map (eK .i64)), .tree 6 (p2.system.rules.map TRule.enc), .int .i64 p2.code]] ?_
                  obtain rfl := Option.some.inj hm
                  exact en
               ·rw [if_neg h49] at hm
                have h49b : (p1.op == 9) = false := beq_eq_false_iff_ne.2 h49
                refine TR_cut 9 rfl ?_
                refine gax (a2 h43b (a2 h46b (a2 h48b h49b))) ?_
                by_cases h52 : p1.op = 10
                ·rw [if_pos h52] at hm
                 have h52b : (p1.op == 10) = true := beq_iff_eq.2 h52
                 refine TR_ops ?_
                 refine gax (a2 h43b (a2 h46b (a2 h48b (a2 h49b h52b)))) ?_
                 refine hk _ _ ?_
                 clear hk k
                 refine W_ret ?_
                 refine KBlock_r ?_
                 refine KThen_r ?_
                 refine KBody_ret [.box [.tree 2 (p2.system.vars.map TVar.enc), .tree 1 (p2.system.in_.map (eK .i64)), .tree 1 (p2.system.out_.map (eK .i64)), .tree 6 (p2.system.rules.map TRule.enc), .int .i64 p2.code]] ?_
                 obtain rfl := Option.some.inj hm
                 exact en
                ·rw [if_neg h52] at hm
                 have h52b : (p1.op == 10) = false := beq_eq_false_iff_ne.2 h52
                 refine TR_ops ?_
                 refine gax (a2 h43b (a2 h46b (a2 h48b (a2 h49b h52b)))) ?_
                 refine hk _ _ ?_
                 clear hk k
                 refine W_ret ?_
                 refine KBlock_r ?_
                 refine KThen_r ?_
                 refine KBody_ret [.box [.tree 2 (p2.system.vars.map TVar.enc), .tree 1 (p2.system.in_.map (eK .i64)), .tree 1 (p2.system.out_.map (eK .i64)), .tree 6 (p2.system.rules.map TRule.enc), .int .i64 p2.code]] ?_
                 obtain rfl := Option.some.inj hm
                 exact en
              ·rw [if_neg h48] at hm
               have h48b : ((((p2.system.vars.getD ((p1.a.getD 2 default).toNat) default).elem) == ((y11.1).elem)) && (((p2.system.vars.getD ((p1.a.getD 2 default).toNat) default).n) == ((y11.1).n))) = false := Bool.eq_false_iff.2 (fun hh => h48 (by simpa [Bool.and_eq_true] using hh))
               refine TR_ops ?_
               refine gax (a2 h43b (a2 h46b h48b)) ?_
               refine hk _ _ ?_
               clear hk k
               refine W_ret ?_
               refine KBlock_r ?_
               refine KThen_r ?_
               refine KBody_ret [.box [.tree 2 (p2.system.vars.map TVar.enc), .tree 1 (p2.system.in_.map (eK .i64)), .tree 1 (p2.system.out_.map (eK .i64)), .tree 6 (p2.system.rules.map TRule.enc), .int .i64 p2.code]] ?_
               obtain rfl := Option.some.inj hm
               exact en
             ·rw [if_neg h46] at hm
              have h46b : ((((p2.system.vars.getD ((p1.a.getD 1 default).toNat) default).elem) == ((y12).elem)) && (((p2.system.vars.getD ((p1.a.getD 1 default).toNat) default).n) == ((y12).n))) = false := Bool.eq_false_iff.2 (fun hh => h46 (by simpa [Bool.and_eq_true] using hh))
              refine TR_ops ?_
              refine gax (a2 h43b h46b) ?_
              refine hk _ _ ?_
              clear hk k
              refine W_ret ?_
              refine KBlock_r ?_
              refine KThen_r ?_
              refine KBody_ret [.box [.tree 2 (p2.system.vars.map TVar.enc), .tree 1 (p2.system.in_.map (eK .i64)), .tree 1 (p2.system.out_.map (eK .i64)), .tree 6 (p2.system.rules.map TRule.enc), .int .i64 p2.code]] ?_
              obtain rfl := Option.some.inj hm
              exact en
            ·rw [if_neg h43] at hm
             have h43b : y11.2 = false := Bool.eq_false_iff.2 h43
             refine W_anyTF [0, 3, 5, 6, 11, 12, 227, 228, 229, 230, 231, 232, 233, 234, 235, 236, 237, 238, 239, 240, 241, 242, 243, 244, 245, 246, 247, 248, 249, 250, 251, 252, 253, 254, 255, 256, 257, 258, 259, 260, 261, 262, 263, 264, 265, 266, 267, 268, 269, 270, 271, 272, 273, 274, 275, 276, 277] (by kernel_rfl) [0, 1, 3, 7, 15, 31, 63, 3, 131, 387, 899, 2047, 4095, 3, 16383, 32767, 65535, 131071, 262143, 524287, 1048575, 2097151, 131071, 4325375, 12713983, 29491199, 67108863, 134217727, 131071, 536870911, 1073741823, 2147483647, 4294967295, 8589934591, 17179869183, 34359738367, 68719476735, 68719476735, 274877906943, 549755813887, 1099511627775, 2199023255551, 4398046511103, 8796093022207, 17592186044415, 35184372088831, 35184372088831, 140737488355327, 281474976710655, 562949953421311, 1125899906842623, 2251799813685247] [true, true, false, false, false, false, false, false, false, false, false, false, false, false, true, true, true, false, false, false, false, false, false, false, false, false, false, false, false, true, true, true, true, true, true, true, false, false, true, true, true, true, true, true, true, false, false, true, true, true, true, true] (by kernel_rfl) fun k hk => ?_
             refine TR_ops ?_
             refine gax h43b ?_
             refine hk _ _ ?_
             clear hk k
             refine W_ret ?_
             refine KBlock_r ?_
             refine KThen_r ?_
             refine KBody_ret [.box [.tree 2 (p2.system.vars.map TVar.enc), .tree 1 (p2.system.in_.map (eK .i64)), .tree 1 (p2.system.out_.map (eK .i64)), .tree 6 (p2.system.rules.map TRule.enc), .int .i64 p2.code]] ?_
             obtain rfl := Option.some.inj hm
             exact en
           ·rw [if_neg h39] at hm
            refine W_condf rfl (Bool.eq_false_iff.2 h39) ?_
            refine W_rg [215, 279] ?_
            by_cases h53 : p1.op = 11
            ·rw [if_pos h53] at hm
             refine W_condt rfl (beq_iff_eq.2 h53) ?_
             refine W_regG [0, 3, 5, 6, 46, 278, 280, 281, 282, 283, 284, 285, 286, 287, 288, 289, 290, 291, 292, 293, 294, 295, 296, 297, 298, 299, 300, 301, 302, 303, 304, 305, 306, 307, 308, 309] fun k kp hk hp => ?_
             refine RunRest_cut 4 ?_
             refine go ?_
             by_cases h54 : x2 > 0
             ·rw [if_pos h54] at hm
              have h54b : decide (x2 > 0) = true := decide_eq_true h54
              refine RunRest_cut 5 ?_
              refine gox h54b ?_
              by_cases h55 : ((p2.system.vars.getD p1.out_.toNat default).n) > 0
              ·rw [if_pos h55] at hm
               have h55b : decide (((p2.system.vars.getD p1.out_.toNat default).n) > 0) = true := decide_eq_true h55
               refine RunRest_cut 7 ?_
               refine gox (a2 h54b h55b) ?_
               by_cases h56 : x1 = ((p2.system.vars.getD p1.out_.toNat default).elem)
               ·rw [if_pos h56] at hm
                have h56b : (x1 == ((p2.system.vars.getD p1.out_.toNat default).elem)) = true := beq_iff_eq.2 h56
                refine RunRest_cut 5 ?_
                refine gox (a2 h54b (a2 h55b h56b)) ?_
                by_cases h57 : p1.n ≥ 0
                ·rw [if_pos h57] at hm
                 have h57b : decide (p1.n ≥ 0) = true := decide_eq_true h57
                 refine RunRest_ops ?_
                 refine gox (a2 h54b (a2 h55b (a2 h56b h57b))) ?_
                 refine hk _ _ ?_
                 clear hk hp k kp
                 refine W_ret ?_
                 refine KBlock_r ?_
                 refine KThen_r ?_
                 refine KBody_ret [.box [.tree 2 (p2.system.vars.map TVar.enc), .tree 1 (p2.system.in_.map (eK .i64)), .tree 1 (p2.system.out_.map (eK .i64)), .tree 6 (p2.system.rules.map TRule.enc), .int .i64 p2.code]] ?_
                 obtain rfl := Option.some.inj hm
                 exact en
                ·rw [if_neg h57] at hm
                 have h57b : decide (p1.n ≥ 0) = false := decide_eq_false h57
                 refine RunRest_ops ?_
                 refine gox (a2 h54b (a2 h55b (a2 h56b h57b))) ?_
                 refine hk _ _ ?_
                 clear hk hp k kp
                 refine W_ret ?_
                 refine KBlock_r ?_
                 refine KThen_r ?_
                 refine KBody_ret [.box [.tree 2 (p2.system.vars.map TVar.enc), .tree 1 (p2.system.in_.map (eK .i64)), .tree 1 (p2.system.out_.map (eK .i64)), .tree 6 (p2.system.rules.map TRule.enc), .int .i64 p2.code]] ?_
                 obtain rfl := Option.some.inj hm
                 exact en
               ·rw [if_neg h56] at hm
                have h56b : (x1 == ((p2.system.vars.getD p1.out_.toNat default).elem)) = false := beq_eq_false_iff_ne.2 h56
                refine RunRest_ops ?_
                refine gox (a2 h54b (a2 h55b h56b)) ?_
                refine hk _ _ ?_
                clear hk hp k kp
                refine W_ret ?_
                refine KBlock_r ?_
                refine KThen_r ?_
                refine KBody_ret [.box [.tree 2 (p2.system.vars.map TVar.enc), .tree 1 (p2.system.in_.map (eK .i64)), .tree 1 (p2.system.out_.map (eK .i64)), .tree 6 (p2.system.rules.map TRule.enc), .int .i64 p2.code]] ?_
                obtain rfl := Option.some.inj hm
                exact en
              ·rw [if_neg h55] at hm
               have h55b : decide (((p2.system.vars.getD p1.out_.toNat default).n) > 0) = false := decide_eq_false h55
               refine RunRest_ops ?_
               refine gox (a2 h54b h55b) ?_
               refine hk _ _ ?_
               clear hk hp k kp
               refine W_ret ?_
               refine KBlock_r ?_
               refine KThen_r ?_
               refine KBody_ret [.box [.tree 2 (p2.system.vars.map TVar.enc), .tree 1 (p2.system.in_.map (eK .i64)), .tree 1 (p2.system.out_.map (eK .i64)), .tree 6 (p2.system.rules.map TRule.enc), .int .i64 p2.code]] ?_
               obtain rfl := Option.some.inj hm
               exact en
             ·rw [if_neg h54] at hm
              have h54b : decide (x2 > 0) = false := decide_eq_false h54
              refine RunRest_ops ?_
              refine gox h54b ?_
              refine hk _ _ ?_
              clear hk hp k kp
              refine W_ret ?_
              refine KBlock_r ?_
              refine KThen_r ?_
              refine KBody_ret [.box [.tree 2 (p2.system.vars.map TVar.enc), .tree 1 (p2.system.in_.map (eK .i64)), .tree 1 (p2.system.out_.map (eK .i64)), .tree 6 (p2.system.rules.map TRule.enc), .int .i64 p2.code]] ?_
              obtain rfl := Option.some.inj hm
              exact en
            ·rw [if_neg h53] at hm
             refine W_condf rfl (beq_eq_false_iff_ne.2 h53) ?_
             refine W_rg [278, 311] ?_
             by_cases h58 : p1.op = 12
             ·rw [if_pos h58] at hm
              refine W_condt rfl (beq_iff_eq.2 h58) ?_
              obtain ⟨⟨hg59a, hg59b⟩, hm⟩ := gd hm
              refine W_agx (a2 (em (eK .i64) p1.a 1) (em TVar.enc p2.system.vars ((p1.a.getD 1 default).toNat))) [0, 3, 46, 310, 312, 313, 314, 315, 316, 317, 318, 319, 320, 321, 322] [0, 1, 3, 7, 15, 0, 32, 96, 224, 511, 1023, 0, 4095] [false, false, false, false, false, false, false, false, false, false, false, false, true] ?_
              refine W_regG [5, 6, 13, 323, 324, 325, 326, 327, 328, 329, 330, 331, 332, 333, 334, 335, 336, 337, 338, 339, 340, 341, 342, 343, 344, 345, 346, 347, 348, 349] fun k kp hk hp => ?_
              refine RunRest_cut 4 ?_
              refine go ?_
              by_cases h60 : x2 > 0
              ·rw [if_pos h60] at hm
               have h60b : decide (x2 > 0) = true := decide_eq_true h60
               refine RunRest_cut 5 ?_
               refine gox h60b ?_
               by_cases h61 : ((p2.system.vars.getD ((p1.a.getD 1 default).toNat) default).n) > 0
               ·rw [if_pos h61] at hm
                have h61b : decide (((p2.system.vars.getD ((p1.a.getD 1 default).toNat) default).n) > 0) = true := decide_eq_true h61
                refine RunRest_cut 7 ?_
                refine gox (a2 h60b h61b) ?_
                by_cases h62 : x1 = ((p2.system.vars.getD ((p1.a.getD 1 default).toNat) default).elem)
                ·rw [if_pos h62] at hm
                 have h62b : (x1 == ((p2.system.vars.getD ((p1.a.getD 1 default).toNat) default).elem)) = true := beq_iff_eq.2 h62
                 refine RunRest_ops ?_
                 refine gox (a2 h60b (a2 h61b h62b)) ?_
                 refine hk _ _ ?_
                 clear hk hp k kp
                 refine W_ret ?_
                 refine KBlock_r ?_
                 refine KThen_r ?_
                 refine KBody_ret [.box [.tree 2 (p2.system.vars.map TVar.enc), .tree 1 (p2.system.in_.map (eK .i64)), .tree 1 (p2.system.out_.map (eK .i64)), .tree 6 (p2.system.rules.map TRule.enc), .int .i64 p2.code]] ?_
                 obtain rfl := Option.some.inj hm
                 exact en
                ·rw [if_neg h62] at hm
                 have h62b : (x1 == ((p2.system.vars.getD ((p1.a.getD 1 default).toNat) default).elem)) = false := beq_eq_false_iff_ne.2 h62
                 refine RunRest_ops ?_
                 refine gox (a2 h60b (a2 h61b h62b)) ?_
                 refine hk _ _ ?_
                 clear hk hp k kp
                 refine W_ret ?_
                 refine KBlock_r ?_
                 refine KThen_r ?_
                 refine KBody_ret [.box [.tree 2 (p2.system.vars.map TVar.enc), .tree 1 (p2.system.in_.map (eK .i64)), .tree 1 (p2.system.out_.map (eK .i64)), .tree 6 (p2.system.rules.map TRule.enc), .int .i64 p2.code]] ?_
                 obtain rfl := Option.some.inj hm
                 exact en
               ·rw [if_neg h61] at hm
                have h61b : decide (((p2.system.vars.getD ((p1.a.getD 1 default).toNat) default).n) > 0) = false := decide_eq_false h61
                refine RunRest_ops ?_
                refine gox (a2 h60b h61b) ?_
                refine hk _ _ ?_
                clear hk hp k kp
                refine W_ret ?_
                refine KBlock_r ?_
                refine KThen_r ?_
                refine KBody_ret [.box [.tree 2 (p2.system.vars.map TVar.enc), .tree 1 (p2.system.in_.map (eK .i64)), .tree 1 (p2.system.out_.map (eK .i64)), .tree 6 (p2.system.rules.map TRule.enc), .int .i64 p2.code]] ?_
                obtain rfl := Option.some.inj hm
                exact en
              ·rw [if_neg h60] at hm
               have h60b : decide (x2 > 0) = false := decide_eq_false h60
               refine RunRest_ops ?_
               refine gox h60b ?_
               refine hk _ _ ?_
               clear hk hp k kp
               refine W_ret ?_
               refine KBlock_r ?_
               refine KThen_r ?_
               refine KBody_ret [.box [.tree 2 (p2.system.vars.map TVar.enc), .tree 1 (p2.system.in_.map (eK .i64)), .tree 1 (p2.system.out_.map (eK .i64)), .tree 6 (p2.system.rules.map TRule.enc), .int .i64 p2.code]] ?_
               obtain rfl := Option.some.inj hm
               exact en
             ·rw [if_neg h58] at hm
              refine W_condf rfl (beq_eq_false_iff_ne.2 h58) ?_
              refine W_rg [46, 310, 351] ?_
              by_cases h63 : p1.op = 13
              ·rw [if_pos h63] at hm
               refine W_condt rfl (beq_iff_eq.2 h63) ?_
               obtain ⟨⟨hg64a, hg64b⟩, hm⟩ := gd hm
               refine W_anyF [0, 3, 5, 6, 350, 352, 353, 354, 355, 356, 357, 358, 359, 360, 361, 362, 363, 364] (by kernel_rfl) [0, 0, 2, 6, 14, 0, 32, 96, 224, 0, 512, 2046, 4095, 8191] [false, false, false, false, false, false, false, false, false, false, false, false, true, true] (by kernel_rfl) fun k hk => ?_
               refine gax (a2 (em (eK .i64) p1.a 0) (em (eK .i64) p1.a 1)) ?_
               obtain ⟨y13, hc65, hm⟩ := bd hm
               refine AnyCall_at (σ2 := [.box [.tree 2 (p2.system.vars.map TVar.enc), .tree 1 (p2.system.in_.map (eK .i64)), .tree 1 (p2.system.out_.map (eK .i64)), .tree 6 (p2.system.rules.map TRule.enc), .int .i64 p2.code], .box [.int .i64 p1.op, .int .i64 p1.k, .int .i64 p1.out_, .int .i64 p1.n, .tree 1 (p1.a.map (eK .i64)), .tree 4 (p1.e.map TPush.enc)], .box [.int .u8 ((p2.system.vars.getD p1.out_.toNat default).elem), .int .i64 ((p2.system.vars.getD p1.out_.toNat default).n)], .box [.int .u8 x1, .int .i64 x2], .arr 1 0 3 ((lit ([(p1.a.getD 0 default), (p1.a.getD 1 default), p1.out_] : List Int)).map (eK .i64))]) (res := .c (.bool y13)) ⟨_, _, _, _, [0, 4], sys_judge_same_2_ok p2 (lit ([(p1.a.getD 0 default), (p1.a.getD 1 default), p1.out_] : List Int)) 0 _ hc65, by simp, by simp, rfl, rfl, by first | trivial | (simp [bX, eK, eB, eS, eL, s_cap, psUnder, PV.under, CV.under, obsBelow, OB.under, cvsBelow]; done), by first | trivial | (simp [bX, eK, eB, eS, eL, s_cap, psUnder, PV.under, CV.under, obsBelow, OB.under, cvsBelow]; done), fun q τ hq _ => by obtain ⟨rfl, rfl⟩ := hq; exact ⟨rfl, rfl⟩, fun _ _ h => h.elim⟩ (by first | trivial | exact dst_ok rfl) (by first | trivial | (intro _; first | trivial | simp [need]) | simp [need]) (by first | exact .inl rfl | exact .inr (by simp only [extB]; and_intros <;> first | rfl | trivial)) ?_
               refine ga ?_
               refine hk _ _ ?_
               clear hk k
               refine W_eqa [.box [.tree 2 (p2.system.vars.map TVar.enc), .tree 1 (p2.system.in_.map (eK .i64)), .tree 1 (p2.system.out_.map (eK .i64)), .tree 6 (p2.system.rules.map TRule.enc), .int .i64 p2.code], .box [.int .i64 p1.op, .int .i64 p1.k, .int .i64 p1.out_, .int .i64 p1.n, .tree 1 (p1.a.map (eK .i64)), .tree 4 (p1.e.map TPush.enc)], .box [.int .u8 ((p2.system.vars.getD p1.out_.toNat default).elem), .int .i64 ((p2.system.vars.getD p1.out_.toNat default).n)], .box [.int .u8 x1, .int .i64 x2], .arr 1 0 3 ((lit ([(p1.a.getD 0 default), (p1.a.getD 1 default), p1.out_] : List Int)).map (eK .i64))] ?_
               refine W_ret ?_
               refine KBlock_r ?_
               refine KThen_r ?_
               refine KBody_ret [.box [.tree 2 (p2.system.vars.map TVar.enc), .tree 1 (p2.system.in_.map (eK .i64)), .tree 1 (p2.system.out_.map (eK .i64)), .tree 6 (p2.system.rules.map TRule.enc), .int .i64 p2.code]] ?_
               obtain rfl := Option.some.inj hm
               exact en
              ·rw [if_neg h63] at hm
               refine W_condf rfl (beq_eq_false_iff_ne.2 h63) ?_
               refine W_skip ?_
               refine KBlock_n ?_
               refine KThen_n (hk1 _ _ ?_)
               refine W_regF [0, 3, 5, 6, 350, 365, 366, 367, 368, 369] fun k kp hk hp => ?_
               refine go ?_
               obtain ⟨y14, hc66, hm⟩ := bd hm
               refine RA (sys_judge_each_ok p1 (p2.system.vars.getD p1.out_.toNat default) (TVar.mk x1 x2) p2  _ hc66) [0] ?_
               rintro p σ' hq67 _
               obtain ⟨rfl, rfl⟩ := hq67
               refine RunRest_ops ?_
               refine go ?_
               refine hk _ _ ?_
               clear hk hp k kp
               refine W_ret ?_
               refine KBody_ret [.box [.tree 2 (p2.system.vars.map TVar.enc), .tree 1 (p2.system.in_.map (eK .i64)), .tree 1 (p2.system.out_.map (eK .i64)), .tree 6 (p2.system.rules.map TRule.enc), .int .i64 p2.code]] ?_
               obtain rfl := Option.some.inj hm
               exact en
end Pam
