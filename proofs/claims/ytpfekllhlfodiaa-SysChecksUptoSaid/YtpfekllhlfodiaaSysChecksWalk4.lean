/- the walk of ref_typesFit, printed by a program of ours -/
import Derived.Test.YtpfekllhlfodiaaBase3
import Derived.Test.YtpfekllhlfodiaaSysChecksFun1
import Derived.Test.YtpfekllhlfodiaaSysChecksWalk3
set_option linter.all false
namespace Pam
open Go Go.Proofs
set_option maxRecDepth 100000 in
set_option maxHeartbeats 8000000 in
theorem ref_typesFit_ok (p1 : TSystem) (p2 : TRule) (r : Bool) (hm : ref_typesFit p1 p2 = some r) : SpecF Try.prog 88 [.a [.tree 2 (p1.vars.map TVar.enc), .tree 1 (p1.in_.map (eK .i64)), .tree 1 (p1.out_.map (eK .i64)), .tree 6 (p1.rules.map TRule.enc)], .a [.int .i64 p2.op, .int .i64 p2.k, .int .i64 p2.out_, .int .i64 p2.n, .tree 1 (p2.a.map (eK .i64)), .tree 4 (p2.e.map TPush.enc)]] (.c (.bool r)) := by
 refine Spec_ofD 443 [.tmp 4] Try.func88 rfl rfl rfl (by kernel_rfl) (by simp) ?_
 refine W_eqf ?_
 unfold ref_typesFit at hm
 refine W_rg [0, 1, 4] ?_
 obtain ⟨hg1a, hm⟩ := gd hm
 refine W_rgx (em TVar.enc p1.vars p2.out_.toNat) [12, 13, 14, 15, 16, 17] ?_
 refine W_regG [] fun k kp hk hp => ?_
 refine RunRest_cut 0 ?_
 refine go ?_
 refine RS (Ext_allocA 2 ((List.replicate 3 (TVar.mk 0 0)).map TVar.enc) rfl (by first | kernel_rfl | rfl) (by decide) (by intro e he; simp only [List.mem_map] at he; obtain ⟨x, _, rfl⟩ := he; rfl) (by simp) (by simp)) ?_
 simp only [bR, bT, tab, bX, reduceIte, ↓reduceIte, reduceCtorEq, Int.reduceToNat, Nat.reduceDiv, Nat.reduceMod, Nat.reduceLT, Nat.reduceLeDiff, Nat.reduceAdd, Nat.reduceSub, Nat.reduceMul, Nat.reduceEqDiff, Nat.reduceBEq, Nat.reduceBNe, Nat.reduceGT]
 refine RunRest_ops ?_
 refine go ?_
 refine hk _ _ ?_
 clear hk hp k kp
 refine W_eqa [.box [.tree 2 (p1.vars.map TVar.enc), .tree 1 (p1.in_.map (eK .i64)), .tree 1 (p1.out_.map (eK .i64)), .tree 6 (p1.rules.map TRule.enc)], .box [.int .i64 p2.op, .int .i64 p2.k, .int .i64 p2.out_, .int .i64 p2.n, .tree 1 (p2.a.map (eK .i64)), .tree 4 (p2.e.map TPush.enc)], .box [.int .u8 ((p1.vars.getD p2.out_.toNat default).elem), .int .i64 ((p1.vars.getD p2.out_.toNat default).n)], .arr 2 0 171 ((List.replicate 3 (TVar.mk 0 0)).map TVar.enc)] ?_
 refine W_joinM (S := (List TVar)) (V := Unit) [7, 18, 19, 20, 21, 22, 23, 24, 25, 26, 27, 28, 29, 30, 31, 32, 33, 34, 35] (fun l2 _ => []) (fun l2 _ => [.box [.tree 2 (p1.vars.map TVar.enc), .tree 1 (p1.in_.map (eK .i64)), .tree 1 (p1.out_.map (eK .i64)), .tree 6 (p1.rules.map TRule.enc)], .box [.int .i64 p2.op, .int .i64 p2.k, .int .i64 p2.out_, .int .i64 p2.n, .tree 1 (p2.a.map (eK .i64)), .tree 4 (p2.e.map TPush.enc)], .box [.int .u8 ((p1.vars.getD p2.out_.toNat default).elem), .int .i64 ((p1.vars.getD p2.out_.toNat default).n)], .arr 2 0 171 (l2.map TVar.enc)]) (fun l2 => ref_typesFit_j1 p1 p2 l2 = some r) ?_ ?_
 ·skip
  refine W_rg [] ?_
  refine W_block ?_
  obtain ⟨o1, hl1, hm1⟩ := bd hm
  refine W_loopM (S := ((List TVar) × Int)) (V := Unit) (O := (List TVar)) [7, 18, 19, 20, 21, 22, 23, 24, 25, 26, 27, 28, 29, 30, 31, 32, 33, 34, 35] (fun (l19, x20) _ => [(7, .c (.int .i64 x20))]) (fun (l19, x20) _ => [.box [.tree 2 (p1.vars.map TVar.enc), .tree 1 (p1.in_.map (eK .i64)), .tree 1 (p1.out_.map (eK .i64)), .tree 6 (p1.rules.map TRule.enc)], .box [.int .i64 p2.op, .int .i64 p2.k, .int .i64 p2.out_, .int .i64 p2.n, .tree 1 (p2.a.map (eK .i64)), .tree 4 (p2.e.map TPush.enc)], .box [.int .u8 ((p1.vars.getD p2.out_.toNat default).elem), .int .i64 ((p1.vars.getD p2.out_.toNat default).n)], .arr 2 0 171 (l19.map TVar.enc)]) _ _ () hl1 ?_ ?_
  ·exact ls
  ·rintro ⟨l19, x20⟩ _ r1 hm hr1
   replace hm : ref_typesFit_l1 p1 p2 l19 x20 = some r1 := hm
   refine W_eqm ?_
   unfold ref_typesFit_l1 at hm
   refine W_seq_k fun k2 hk2 => ?_
   refine W_rg [18, 19, 20, 21] ?_
   by_cases h95 : x20 < (p2.a.length : Int)
   ·rw [if_pos h95] at hm
    refine W_condt rfl (decide_eq_true h95) ?_
    refine W_skip ?_
    refine KThen_n (hk2 _ _ ?_)
    refine W_seq_k fun k3 hk3 => ?_
    refine W_block ?_
    obtain ⟨⟨hg96a, hg96b, hg96c, hg96d⟩, hm⟩ := gd hm
    refine W_anx (a2 (em (eK .i64) p2.a x20.toNat) (a2 (em TVar.enc p1.vars ((p2.a.getD x20.toNat default).toNat)) (em TVar.enc l19 x20.toNat))) [0, 0, 2, 0, 8, 0, 56, 120, 254, 510, 1023, 2047] [false, false, false, false, false, false, false, false, false, false, true, true] ?_
    refine KBlock_n ?_
    refine KThen_n (hk3 _ _ ?_)
    refine W_rn ?_
    refine KLoopM_n ((l19.set x20.toNat (p1.vars.getD ((p2.a.getD x20.toNat default).toNat) default)), (IntKind.wrap .i64 (x20 + 1))) () hm ?_
    exact ls
   ·rw [if_neg h95] at hm
    refine W_condf rfl (decide_eq_false h95) ?_
    refine W_exit ?_
    have ho97 := out_eq hm hr1
    subst ho97
    replace hm : ref_typesFit_j1 p1 p2 l19 = some r := hm1
    refine KThen_x ?_
    refine KLoopM_x ?_
    refine KBlock_hit ?_
    refine KJoinM_n l19 () hm ?_
    exact ls
 ·rintro l2 _ hm
  replace hm : ref_typesFit_j1 p1 p2 l2 = some r := hm
  refine W_eqm ?_
  unfold ref_typesFit_j1 at hm
  refine W_regF [36, 37, 38, 39, 40, 41, 42] fun k kp hk hp => ?_
  refine go ?_
  obtain ⟨y3, hc2, hm⟩ := bd hm
  refine RP (fun _ => ref_OpOf_ok p2.k _ hc2) ?_
  refine RunRest_ops ?_
  refine go ?_
  refine hk _ _ ?_
  clear hk hp k kp
  refine W_rg [43] ?_
  refine W_seq_k fun k1 hk1 => ?_
  refine W_rg [44] ?_
  refine W_block ?_
  refine W_rg [47] ?_
  by_cases h3 : p2.op = 1
  ·rw [if_pos h3] at hm
   refine W_condt rfl (beq_iff_eq.2 h3) ?_
   refine W_regG [2, 3, 5, 6, 8, 9, 10, 11, 45, 46, 48, 49, 50, 51, 52, 53, 54, 55, 56, 57, 58, 59, 60, 61, 62, 63, 64, 65] fun k kp hk hp => ?_
   refine RunRest_cut 4 ?_
   refine go ?_
   by_cases h4 : ((p1.vars.getD p2.out_.toNat default).elem) = 105 ∧ ((p1.vars.getD p2.out_.toNat default).n) = 0
   ·rw [if_pos h4] at hm
    have h4b : ((((p1.vars.getD p2.out_.toNat default).elem) == 105) && (((p1.vars.getD p2.out_.toNat default).n) == 0)) = true := by simpa [Bool.and_eq_true] using h4
    refine RunRest_ops ?_
    refine gox h4b ?_
    refine hk _ _ ?_
    clear hk hp k kp
    refine W_ret ?_
    refine KBlock_r ?_
    refine KThen_r ?_
    refine KBody_ret [] ?_
    obtain rfl := Option.some.inj hm
    exact en
   ·rw [if_neg h4] at hm
    have h4b : ((((p1.vars.getD p2.out_.toNat default).elem) == 105) && (((p1.vars.getD p2.out_.toNat default).n) == 0)) = false := Bool.eq_false_iff.2 (fun hh => h4 (by simpa [Bool.and_eq_true] using hh))
    refine RunRest_cut 4 ?_
    refine gox h4b ?_
    by_cases h5 : ((p1.vars.getD p2.out_.toNat default).elem) = 98 ∧ ((p1.vars.getD p2.out_.toNat default).n) = 0
    ·rw [if_pos h5] at hm
     have h5b : ((((p1.vars.getD p2.out_.toNat default).elem) == 98) && (((p1.vars.getD p2.out_.toNat default).n) == 0)) = true := by simpa [Bool.and_eq_true] using h5
     refine RunRest_cut 4 ?_
     refine gox (a2 h4b h5b) ?_
     by_cases h6 : p2.n = 0
     ·rw [if_pos h6] at hm
      have h6b : (p2.n == 0) = true := beq_iff_eq.2 h6
      refine RunRest_ops ?_
      refine gox (a2 h4b (a2 h5b h6b)) ?_
      refine hk _ _ ?_
      clear hk hp k kp
      refine W_ret ?_
      refine KBlock_r ?_
      refine KThen_r ?_
      refine KBody_ret [] ?_
      obtain rfl := Option.some.inj hm
      exact en
     ·rw [if_neg h6] at hm
      have h6b : (p2.n == 0) = false := beq_eq_false_iff_ne.2 h6
      refine RunRest_ops ?_
      refine gox (a2 h4b (a2 h5b h6b)) ?_
      refine hk _ _ ?_
      clear hk hp k kp
      refine W_ret ?_
      refine KBlock_r ?_
      refine KThen_r ?_
      refine KBody_ret [] ?_
      obtain rfl := Option.some.inj hm
      exact en
    ·rw [if_neg h5] at hm
     have h5b : ((((p1.vars.getD p2.out_.toNat default).elem) == 98) && (((p1.vars.getD p2.out_.toNat default).n) == 0)) = false := Bool.eq_false_iff.2 (fun hh => h5 (by simpa [Bool.and_eq_true] using hh))
     refine RunRest_ops ?_
     refine gox (a2 h4b h5b) ?_
     refine hk _ _ ?_
     clear hk hp k kp
     refine W_ret ?_
     refine KBlock_r ?_
     refine KThen_r ?_
     refine KBody_ret [] ?_
     obtain rfl := Option.some.inj hm
     exact en
  ·rw [if_neg h3] at hm
   refine W_condf rfl (beq_eq_false_iff_ne.2 h3) ?_
   refine W_rg [46, 67] ?_
   by_cases h7 : p2.op = 2
   ·rw [if_pos h7] at hm
    refine W_condt rfl (beq_iff_eq.2 h7) ?_
    obtain ⟨⟨hg8a, hg8b⟩, hm⟩ := gd hm
    refine W_rgx (em TVar.enc l2 0) [2, 3, 5, 6, 8, 9, 10, 11, 45, 66, 68, 69, 70, 71] ?_
    refine W_ret ?_
    refine KBlock_r ?_
    refine KThen_r ?_
    refine KBody_ret [] ?_
    obtain rfl := Option.some.inj hm
    exact en
   ·rw [if_neg h7] at hm
    refine W_condf rfl (beq_eq_false_iff_ne.2 h7) ?_
    refine W_rg [66, 73] ?_
    by_cases h9 : p2.op = 3
    ·rw [if_pos h9] at hm
     refine W_condt rfl (beq_iff_eq.2 h9) ?_
     by_cases h10 : y3.2.2 = 1
     ·rw [if_pos h10] at hm
      have h10b : (y3.2.2 == 1) = true := beq_iff_eq.2 h10
      obtain ⟨⟨hg11a, hg11b⟩, hm⟩ := gd hm
      refine W_regG [2, 3, 5, 6, 8, 9, 10, 11, 45, 72, 74, 75, 76, 77, 78, 79, 80, 81, 82, 83, 84, 85, 86, 87, 88, 89, 90, 91] fun k kp hk hp => ?_
      refine RunRest_cut 10 ?_
      refine gox (a2 (em TVar.enc l2 0) h10b) ?_
      by_cases h12 : ((l2.getD 0 default).elem) = y3.1
      ·rw [if_pos h12] at hm
       have h12b : (((l2.getD 0 default).elem) == y3.1) = true := beq_iff_eq.2 h12
       refine RunRest_ops ?_
       refine gox (a2 (em TVar.enc l2 0) (a2 h10b h12b)) ?_
       refine hk _ _ ?_
       clear hk hp k kp
       refine W_ret ?_
       refine KBlock_r ?_
       refine KThen_r ?_
       refine KBody_ret [] ?_
       obtain rfl := Option.some.inj hm
       exact en
      ·rw [if_neg h12] at hm
       have h12b : (((l2.getD 0 default).elem) == y3.1) = false := beq_eq_false_iff_ne.2 h12
       refine RunRest_ops ?_
       refine gox (a2 h10b h12b) ?_
       refine hk _ _ ?_
       clear hk hp k kp
       refine W_ret ?_
       refine KBlock_r ?_
       refine KThen_r ?_
       refine KBody_ret [] ?_
       obtain rfl := Option.some.inj hm
       exact en
     ·rw [if_neg h10] at hm
      have h10b : (y3.2.2 == 1) = false := beq_eq_false_iff_ne.2 h10
      refine W_rgx h10b [2, 3, 5, 6, 8, 9, 10, 11, 45, 72, 74, 75, 76, 77, 78, 79, 80, 81, 82, 83, 84, 85, 86, 87, 88, 89, 90, 91] ?_
      refine W_ret ?_
      refine KBlock_r ?_
      refine KThen_r ?_
      refine KBody_ret [] ?_
      obtain rfl := Option.some.inj hm
      exact en
    ·rw [if_neg h9] at hm
     refine W_condf rfl (beq_eq_false_iff_ne.2 h9) ?_
     refine W_rg [72, 93] ?_
     by_cases h13 : p2.op = 4
     ·rw [if_pos h13] at hm
      refine W_condt rfl (beq_iff_eq.2 h13) ?_
      by_cases h14 : y3.2.2 = 2
      ·rw [if_pos h14] at hm
       have h14b : (y3.2.2 == 2) = true := beq_iff_eq.2 h14
       obtain ⟨⟨hg15a, hg15b⟩, hm⟩ := gd hm
       refine W_regG [2, 3, 5, 6, 8, 9, 10, 11, 45, 92, 94, 95, 96, 97, 98, 99, 100, 101, 102, 103, 104, 105, 106, 107, 108, 109, 110, 111, 112, 113, 114, 115, 116, 117, 118] fun k kp hk hp => ?_
       refine RunRest_cut 10 ?_
       refine gox (a2 (em TVar.enc l2 0) h14b) ?_
       by_cases h16 : ((l2.getD 0 default).elem) = y3.1
       ·rw [if_pos h16] at hm
        have h16b : (((l2.getD 0 default).elem) == y3.1) = true := beq_iff_eq.2 h16
        obtain ⟨⟨hg17a, hg17b⟩, hm⟩ := gd hm
        refine RunRest_cut 7 ?_
        refine gox (a2 (em TVar.enc l2 1) (a2 (em TVar.enc l2 0) (a2 h14b h16b))) ?_
        by_cases h18 : ((l2.getD 1 default).elem) = ((l2.getD 0 default).elem) ∧ ((l2.getD 1 default).n) = ((l2.getD 0 default).n)
        ·rw [if_pos h18] at hm
         have h18b : ((((l2.getD 1 default).elem) == ((l2.getD 0 default).elem)) && (((l2.getD 1 default).n) == ((l2.getD 0 default).n))) = true := by simpa [Bool.and_eq_true] using h18
         refine RunRest_ops ?_
         refine gox (a2 (em TVar.enc l2 0) (a2 h14b (a2 h16b h18b))) ?_
         refine hk _ _ ?_
         clear hk hp k kp
         refine W_ret ?_
         refine KBlock_r ?_
         refine KThen_r ?_
         refine KBody_ret [] ?_
         obtain rfl := Option.some.inj hm
         exact en
        ·rw [if_neg h18] at hm
         have h18b : ((((l2.getD 1 default).elem) == ((l2.getD 0 default).elem)) && (((l2.getD 1 default).n) == ((l2.getD 0 default).n))) = false := Bool.eq_false_iff.2 (fun hh => h18 (by simpa [Bool.and_eq_true] using hh))
         refine RunRest_ops ?_
         refine gox (a2 h14b (a2 h16b h18b)) ?_
         refine hk _ _ ?_
         clear hk hp k kp
         refine W_ret ?_
         refine KBlock_r ?_
         refine KThen_r ?_
         refine KBody_ret [] ?_
         obtain rfl := Option.some.inj hm
         exact en
       ·rw [if_neg h16] at hm
        have h16b : (((l2.getD 0 default).elem) == y3.1) = false := beq_eq_false_iff_ne.2 h16
        refine RunRest_ops ?_
        refine gox (a2 h14b h16b) ?_
        refine hk _ _ ?_
        clear hk hp k kp
        refine W_ret ?_
        refine KBlock_r ?_
        refine KThen_r ?_
        refine KBody_ret [] ?_
        obtain rfl := Option.some.inj hm
        exact en
      ·rw [if_neg h14] at hm
       have h14b : (y3.2.2 == 2) = false := beq_eq_false_iff_ne.2 h14
       refine W_rgx h14b [2, 3, 5, 6, 8, 9, 10, 11, 45, 92, 94, 95, 96, 97, 98, 99, 100, 101, 102, 103, 104, 105, 106, 107, 108, 109, 110, 111, 112, 113, 114, 115, 116, 117, 118] ?_
       refine W_ret ?_
       refine KBlock_r ?_
       refine KThen_r ?_
       refine KBody_ret [] ?_
       obtain rfl := Option.some.inj hm
       exact en
     ·rw [if_neg h13] at hm
      refine W_condf rfl (beq_eq_false_iff_ne.2 h13) ?_
      refine W_rg [9, 10, 92, 120] ?_
      by_cases h19 : p2.op = 5
      ·rw [if_pos h19] at hm
       refine W_condt rfl (beq_iff_eq.2 h19) ?_
       obtain ⟨⟨hg20a, hg20b⟩, hm⟩ := gd hm
       refine W_regG [2, 3, 5, 6, 8, 11, 45, 119, 121, 122, 123, 124, 125, 126, 127, 128, 129, 130, 131, 132, 133, 134, 135, 136] fun k kp hk hp => ?_
       refine RunRest_cut 5 ?_
       refine gox (em TVar.enc l2 0) ?_
       by_cases h21 : ((l2.getD 0 default).elem) = 98 ∧ ((l2.getD 0 default).n) = 0
       ·rw [if_pos h21] at hm
        have h21b : ((((l2.getD 0 default).elem) == 98) && (((l2.getD 0 default).n) == 0)) = true := by simpa [Bool.and_eq_true] using h21
        obtain ⟨⟨hg22a, hg22b⟩, hm⟩ := gd hm
        refine RunRest_cut 6 ?_
        refine gox (a2 (em TVar.enc l2 1) h21b) ?_
        by_cases h23 : ((l2.getD 1 default).elem) = ((p1.vars.getD p2.out_.toNat default).elem) ∧ ((l2.getD 1 default).n) = ((p1.vars.getD p2.out_.toNat default).n)
        ·rw [if_pos h23] at hm
         have h23b : ((((l2.getD 1 default).elem) == ((p1.vars.getD p2.out_.toNat default).elem)) && (((l2.getD 1 default).n) == ((p1.vars.getD p2.out_.toNat default).n))) = true := by simpa [Bool.and_eq_true] using h23
         obtain ⟨⟨hg24a, hg24b⟩, hm⟩ := gd hm
         refine RunRest_ops ?_
         refine gox (a2 (em TVar.enc l2 2) (a2 h21b h23b)) ?_
         refine hk _ _ ?_
         clear hk hp k kp
         refine W_ret ?_
         refine KBlock_r ?_
         refine KThen_r ?_
         refine KBody_ret [] ?_
         obtain rfl := Option.some.inj hm
         exact en
        ·rw [if_neg h23] at hm
         have h23b : ((((l2.getD 1 default).elem) == ((p1.vars.getD p2.out_.toNat default).elem)) && (((l2.getD 1 default).n) == ((p1.vars.getD p2.out_.toNat default).n))) = false := Bool.eq_false_iff.2 (fun hh => h23 (by simpa [Bool.and_eq_true] using hh))
         refine RunRest_ops ?_
         refine gox (a2 h21b h23b) ?_
         refine hk _ _ ?_
         clear hk hp k kp
         refine W_ret ?_
         refine KBlock_r ?_
         refine KThen_r ?_
         refine KBody_ret [] ?_
         obtain rfl := Option.some.inj hm
         exact en
       ·rw [if_neg h21] at hm
        have h21b : ((((l2.getD 0 default).elem) == 98) && (((l2.getD 0 default).n) == 0)) = false := Bool.eq_false_iff.2 (fun hh => h21 (by simpa [Bool.and_eq_true] using hh))
        refine RunRest_ops ?_
        refine gox h21b ?_
        refine hk _ _ ?_
        clear hk hp k kp
        refine W_ret ?_
        refine KBlock_r ?_
        refine KThen_r ?_
        refine KBody_ret [] ?_
        obtain rfl := Option.some.inj hm
        exact en
      ·rw [if_neg h19] at hm
       refine W_condf rfl (beq_eq_false_iff_ne.2 h19) ?_
       refine W_rg [119, 138] ?_
       by_cases h25 : p2.op = 6
       ·rw [if_pos h25] at hm
        refine W_condt rfl (beq_iff_eq.2 h25) ?_
        refine W_regF [2, 3, 5, 6, 8, 11, 45, 137, 139, 140, 141, 142, 143, 144, 145, 146, 147, 148, 149, 150, 151, 152, 153, 154, 155, 156, 157, 158, 159, 160, 161, 162, 163, 164, 165, 166, 167] fun k kp hk hp => ?_
        refine go ?_
        obtain ⟨y4, hc26, hm⟩ := bd hm
        refine RP (fun _ => ref_Folds_ok p2.k _ hc26) ?_
        by_cases h27 : y4 = true
        ·rw [if_pos h27] at hm
         have h27b : y4 = true := h27
         obtain ⟨⟨hg28a, hg28b⟩, hm⟩ := gd hm
         refine RunRest_cut 8 ?_
         refine gox (a2 (em TVar.enc l2 0) h27b) ?_
         by_cases h29 : ((l2.getD 0 default).elem) = y3.1 ∧ ((l2.getD 0 default).n) = 0
         ·rw [if_pos h29] at hm
          have h29b : ((((l2.getD 0 default).elem) == y3.1) && (((l2.getD 0 default).n) == 0)) = true := by simpa [Bool.and_eq_true] using h29
          obtain ⟨⟨hg30a, hg30b⟩, hm⟩ := gd hm
          refine RunRest_cut 6 ?_
          refine gox (a2 (em TVar.enc l2 1) (a2 h27b h29b)) ?_
          by_cases h31 : ((l2.getD 1 default).n) > 0
          ·rw [if_pos h31] at hm
           have h31b : decide (((l2.getD 1 default).n) > 0) = true := decide_eq_true h31
           refine RunRest_cut 7 ?_
           refine gox (a2 (em TVar.enc l2 1) (a2 h27b (a2 h29b h31b))) ?_
           by_cases h32 : ((l2.getD 1 default).elem) = y3.1
           ·rw [if_pos h32] at hm
            have h32b : (((l2.getD 1 default).elem) == y3.1) = true := beq_iff_eq.2 h32
            refine RunRest_ops ?_
            refine gox (a2 (em TVar.enc l2 0) (a2 h27b (a2 h29b (a2 h31b h32b)))) ?_
            refine hk _ _ ?_
            clear hk hp k kp
            refine W_ret ?_
            refine KBlock_r ?_
            refine KThen_r ?_
            refine KBody_ret [] ?_
            obtain rfl := Option.some.inj hm
            exact en
           ·rw [if_neg h32] at hm
            have h32b : (((l2.getD 1 default).elem) == y3.1) = false := beq_eq_false_iff_ne.2 h32
            refine RunRest_ops ?_
            refine gox (a2 h27b (a2 h29b (a2 h31b h32b))) ?_
            refine hk _ _ ?_
            clear hk hp k kp
            refine W_ret ?_
            refine KBlock_r ?_
            refine KThen_r ?_
            refine KBody_ret [] ?_
            obtain rfl := Option.some.inj hm
            exact en
          ·rw [if_neg h31] at hm
           have h31b : decide (((l2.getD 1 default).n) > 0) = false := decide_eq_false h31
           refine RunRest_ops ?_
           refine gox (a2 h27b (a2 h29b h31b)) ?_
           refine hk _ _ ?_
           clear hk hp k kp
           refine W_ret ?_
           refine KBlock_r ?_
           refine KThen_r ?_
           refine KBody_ret [] ?_
           obtain rfl := Option.some.inj hm
           exact en
         ·rw [if_neg h29] at hm
          have h29b : ((((l2.getD 0 default).elem) == y3.1) && (((l2.getD 0 default).n) == 0)) = false := Bool.eq_false_iff.2 (fun hh => h29 (by simpa [Bool.and_eq_true] using hh))
          refine RunRest_ops ?_
          refine gox (a2 h27b h29b) ?_
          refine hk _ _ ?_
          clear hk hp k kp
          refine W_ret ?_
          refine KBlock_r ?_
          refine KThen_r ?_
          refine KBody_ret [] ?_
          obtain rfl := Option.some.inj hm
          exact en
        ·rw [if_neg h27] at hm
         have h27b : y4 = false := Bool.eq_false_iff.2 h27
         refine RunRest_ops ?_
         refine gox h27b ?_
         refine hk _ _ ?_
         clear hk hp k kp
         refine W_ret ?_
         refine KBlock_r ?_
         refine KThen_r ?_
         refine KBody_ret [] ?_
         obtain rfl := Option.some.inj hm
         exact en
       ·rw [if_neg h25] at hm
        refine W_condf rfl (beq_eq_false_iff_ne.2 h25) ?_
        refine W_rg [137, 169] ?_
        by_cases h33 : p2.op = 7
        ·rw [if_pos h33] at hm
         refine W_condt rfl (beq_iff_eq.2 h33) ?_
         refine W_regF [2, 3, 5, 6, 8, 11, 45, 168, 170, 171, 172, 173, 174, 175, 176, 177, 178, 179, 180, 181, 182, 183, 184, 185, 186, 187, 188, 189, 190, 191, 192, 193, 194, 195, 196, 197, 198] fun k kp hk hp => ?_
         refine go ?_
         obtain ⟨y5, hc34, hm⟩ := bd hm
         refine RP (fun _ => ref_Folds_ok p2.k _ hc34) ?_
         by_cases h35 : y5 = true
         ·rw [if_pos h35] at hm
          have h35b : y5 = true := h35
          obtain ⟨⟨hg36a, hg36b⟩, hm⟩ := gd hm
          refine RunRest_cut 8 ?_
          refine gox (a2 (em TVar.enc l2 0) h35b) ?_
          by_cases h37 : ((l2.getD 0 default).elem) = y3.1 ∧ ((l2.getD 0 default).n) = 0
          ·rw [if_pos h37] at hm
           have h37b : ((((l2.getD 0 default).elem) == y3.1) && (((l2.getD 0 default).n) == 0)) = true := by simpa [Bool.and_eq_true] using h37
           obtain ⟨⟨hg38a, hg38b⟩, hm⟩ := gd hm
           refine RunRest_cut 6 ?_
           refine gox (a2 (em TVar.enc l2 1) (a2 h35b h37b)) ?_
           by_cases h39 : ((l2.getD 1 default).n) > 0
           ·rw [if_pos h39] at hm
            have h39b : decide (((l2.getD 1 default).n) > 0) = true := decide_eq_true h39
            refine RunRest_cut 7 ?_
            refine gox (a2 (em TVar.enc l2 1) (a2 h35b (a2 h37b h39b))) ?_
            by_cases h40 : ((l2.getD 1 default).elem) = y3.1
            ·rw [if_pos h40] at hm
             have h40b : (((l2.getD 1 default).elem) == y3.1) = true := beq_iff_eq.2 h40
             refine RunRest_ops ?_
             refine gox (a2 (em TVar.enc l2 1) (a2 h35b (a2 h37b (a2 h39b h40b)))) ?_
             refine hk _ _ ?_
             clear hk hp k kp
             refine W_ret ?_
             refine KBlock_r ?_
             refine KThen_r ?_
             refine KBody_ret [] ?_
             obtain rfl := Option.some.inj hm
             exact en
            ·rw [if_neg h40] at hm
             have h40b : (((l2.getD 1 default).elem) == y3.1) = false := beq_eq_false_iff_ne.2 h40
             refine RunRest_ops ?_
             refine gox (a2 h35b (a2 h37b (a2 h39b h40b))) ?_
             refine hk _ _ ?_
             clear hk hp k kp
             refine W_ret ?_
             refine KBlock_r ?_
             refine KThen_r ?_
             refine KBody_ret [] ?_
             obtain rfl := Option.some.inj hm
             exact en
           ·rw [if_neg h39] at hm
            have h39b : decide (((l2.getD 1 default).n) > 0) = false := decide_eq_false h39
            refine RunRest_ops ?_
            refine gox (a2 h35b (a2 h37b h39b)) ?_
            refine hk _ _ ?_
            clear hk hp k kp
            refine W_ret ?_
            refine KBlock_r ?_
            refine KThen_r ?_
            refine KBody_ret [] ?_
            obtain rfl := Option.some.inj hm
            exact en
          ·rw [if_neg h37] at hm
           have h37b : ((((l2.getD 0 default).elem) == y3.1) && (((l2.getD 0 default).n) == 0)) = false := Bool.eq_false_iff.2 (fun hh => h37 (by simpa [Bool.and_eq_true] using hh))
           refine RunRest_ops ?_
           refine gox (a2 h35b h37b) ?_
           refine hk _ _ ?_
           clear hk hp k kp
           refine W_ret ?_
           refine KBlock_r ?_
           refine KThen_r ?_
           refine KBody_ret [] ?_
           obtain rfl := Option.some.inj hm
           exact en
         ·rw [if_neg h35] at hm
          have h35b : y5 = false := Bool.eq_false_iff.2 h35
          refine RunRest_ops ?_
          refine gox h35b ?_
          refine hk _ _ ?_
          clear hk hp k kp
          refine W_ret ?_
          refine KBlock_r ?_
          refine KThen_r ?_
          refine KBody_ret [] ?_
          obtain rfl := Option.some.inj hm
          exact en
        ·rw [if_neg h33] at hm
         refine W_condf rfl (beq_eq_false_iff_ne.2 h33) ?_
         refine W_rg [168, 200] ?_
         by_cases h41 : p2.op = 8
         ·rw [if_pos h41] at hm
          refine W_condt rfl (beq_iff_eq.2 h41) ?_
          obtain ⟨⟨hg42a, hg42b⟩, hm⟩ := gd hm
          refine W_regG [2, 3, 5, 6, 8, 11, 45, 199, 201, 202, 203, 204, 205, 206, 207, 208, 209, 210, 211, 212, 213, 214, 215, 216, 217] fun k kp hk hp => ?_
          refine RunRest_cut 5 ?_
          refine gox (em TVar.enc l2 0) ?_
          by_cases h43 : ((l2.getD 0 default).n) = 0
          ·rw [if_pos h43] at hm
           have h43b : (((l2.getD 0 default).n) == 0) = true := beq_iff_eq.2 h43
           refine RunRest_cut 5 ?_
           refine gox h43b ?_
           by_cases h44 : ((p1.vars.getD p2.out_.toNat default).n) > 0
           ·rw [if_pos h44] at hm
            have h44b : decide (((p1.vars.getD p2.out_.toNat default).n) > 0) = true := decide_eq_true h44
            refine RunRest_ops ?_
            refine gox (a2 (em TVar.enc l2 0) (a2 h43b h44b)) ?_
            refine hk _ _ ?_
            clear hk hp k kp
            refine W_ret ?_
            refine KBlock_r ?_
            refine KThen_r ?_
            refine KBody_ret [] ?_
            obtain rfl := Option.some.inj hm
            exact en
           ·rw [if_neg h44] at hm
            have h44b : decide (((p1.vars.getD p2.out_.toNat default).n) > 0) = false := decide_eq_false h44
            refine RunRest_ops ?_
            refine gox (a2 h43b h44b) ?_
            refine hk _ _ ?_
            clear hk hp k kp
            refine W_ret ?_
            refine KBlock_r ?_
            refine KThen_r ?_
            refine KBody_ret [] ?_
            obtain rfl := Option.some.inj hm
            exact en
          ·rw [if_neg h43] at hm
           have h43b : (((l2.getD 0 default).n) == 0) = false := beq_eq_false_iff_ne.2 h43
           refine RunRest_ops ?_
           refine gox h43b ?_
           refine hk _ _ ?_
           clear hk hp k kp
           refine W_ret ?_
           refine KBlock_r ?_
           refine KThen_r ?_
           refine KBody_ret [] ?_
           obtain rfl := Option.some.inj hm
           exact en
         ·rw [if_neg h41] at hm
          refine W_condf rfl (beq_eq_false_iff_ne.2 h41) ?_
          refine W_rg [199, 219] ?_
          by_cases h45 : p2.op = 9
          ·rw [if_pos h45] at hm
           refine W_condt rfl (beq_iff_eq.2 h45) ?_
           obtain ⟨⟨hg46a, hg46b⟩, hm⟩ := gd hm
           refine W_regG [2, 3, 5, 6, 8, 11, 45, 218, 220, 221, 222, 223, 224, 225, 226, 227, 228, 229, 230, 231, 232, 233, 234, 235, 236, 237, 238, 239, 240, 241, 242, 243, 244] fun k kp hk hp => ?_
           refine RunRest_cut 5 ?_
           refine gox (em TVar.enc l2 0) ?_
           by_cases h47 : ((l2.getD 0 default).n) > 0
           ·rw [if_pos h47] at hm
            have h47b : decide (((l2.getD 0 default).n) > 0) = true := decide_eq_true h47
            obtain ⟨⟨hg48a, hg48b⟩, hm⟩ := gd hm
            refine RunRest_cut 6 ?_
            refine gox (a2 (em TVar.enc l2 1) h47b) ?_
            by_cases h49 : ((l2.getD 1 default).elem) = 105 ∧ ((l2.getD 1 default).n) = 0
            ·rw [if_pos h49] at hm
             have h49b : ((((l2.getD 1 default).elem) == 105) && (((l2.getD 1 default).n) == 0)) = true := by simpa [Bool.and_eq_true] using h49
             obtain ⟨⟨hg50a, hg50b⟩, hm⟩ := gd hm
             refine RunRest_cut 9 ?_
             refine gox (a2 (em TVar.enc l2 2) (a2 (em TVar.enc l2 0) (a2 h47b h49b))) ?_
             by_cases h51 : ((l2.getD 2 default).elem) = ((l2.getD 0 default).elem) ∧ ((l2.getD 2 default).n) = 0
             ·rw [if_pos h51] at hm
              have h51b : ((((l2.getD 2 default).elem) == ((l2.getD 0 default).elem)) && (((l2.getD 2 default).n) == 0)) = true := by simpa [Bool.and_eq_true] using h51
              refine RunRest_ops ?_
              refine gox (a2 (em TVar.enc l2 2) (a2 h47b (a2 h49b h51b))) ?_
              refine hk _ _ ?_
              clear hk hp k kp
              refine W_ret ?_
              refine KBlock_r ?_
              refine KThen_r ?_
              refine KBody_ret [] ?_
              obtain rfl := Option.some.inj hm
              exact en
             ·rw [if_neg h51] at hm
              have h51b : ((((l2.getD 2 default).elem) == ((l2.getD 0 default).elem)) && (((l2.getD 2 default).n) == 0)) = false := Bool.eq_false_iff.2 (fun hh => h51 (by simpa [Bool.and_eq_true] using hh))
              refine RunRest_ops ?_
              refine gox (a2 h47b (a2 h49b h51b)) ?_
              refine hk _ _ ?_
              clear hk hp k kp
              refine W_ret ?_
              refine KBlock_r ?_
              refine KThen_r ?_
              refine KBody_ret [] ?_
              obtain rfl := Option.some.inj hm
              exact en
            ·rw [if_neg h49] at hm
             have h49b : ((((l2.getD 1 default).elem) == 105) && (((l2.getD 1 default).n) == 0)) = false := Bool.eq_false_iff.2 (fun hh => h49 (by simpa [Bool.and_eq_true] using hh))
             refine RunRest_ops ?_
             refine gox (a2 h47b h49b) ?_
             refine hk _ _ ?_
             clear hk hp k kp
             refine W_ret ?_
             refine KBlock_r ?_
             refine KThen_r ?_
             refine KBody_ret [] ?_
             obtain rfl := Option.some.inj hm
             exact en
           ·rw [if_neg h47] at hm
            have h47b : decide (((l2.getD 0 default).n) > 0) = false := decide_eq_false h47
            refine RunRest_ops ?_
            refine gox h47b ?_
            refine hk _ _ ?_
            clear hk hp k kp
            refine W_ret ?_
            refine KBlock_r ?_
            refine KThen_r ?_
            refine KBody_ret [] ?_
            obtain rfl := Option.some.inj hm
            exact en
          ·rw [if_neg h45] at hm
           refine W_condf rfl (beq_eq_false_iff_ne.2 h45) ?_
           refine W_rg [218, 246] ?_
           by_cases h52 : p2.op = 10
           ·rw [if_pos h52] at hm
            refine W_condt rfl (beq_iff_eq.2 h52) ?_
            obtain ⟨⟨hg53a, hg53b⟩, hm⟩ := gd hm
            refine W_regG [2, 3, 5, 6, 8, 11, 45, 245, 247, 248, 249, 250, 251, 252, 253, 254, 255, 256, 257, 258, 259, 260, 261, 262, 263, 264, 265, 266, 267, 268, 269, 270, 271] fun k kp hk hp => ?_
            refine RunRest_cut 5 ?_
            refine gox (em TVar.enc l2 0) ?_
            by_cases h54 : ((l2.getD 0 default).n) > 0
            ·rw [if_pos h54] at hm
             have h54b : decide (((l2.getD 0 default).n) > 0) = true := decide_eq_true h54
             obtain ⟨⟨hg55a, hg55b⟩, hm⟩ := gd hm
             refine RunRest_cut 6 ?_
             refine gox (a2 (em TVar.enc l2 1) h54b) ?_
             by_cases h56 : ((l2.getD 1 default).elem) = 105 ∧ ((l2.getD 1 default).n) = 0
             ·rw [if_pos h56] at hm
              have h56b : ((((l2.getD 1 default).elem) == 105) && (((l2.getD 1 default).n) == 0)) = true := by simpa [Bool.and_eq_true] using h56
              obtain ⟨⟨hg57a, hg57b⟩, hm⟩ := gd hm
              refine RunRest_cut 9 ?_
              refine gox (a2 (em TVar.enc l2 2) (a2 (em TVar.enc l2 0) (a2 h54b h56b))) ?_
              by_cases h58 : ((l2.getD 2 default).elem) = ((l2.getD 0 default).elem) ∧ ((l2.getD 2 default).n) = 0
              ·rw [if_pos h58] at hm
               have h58b : ((((l2.getD 2 default).elem) == ((l2.getD 0 default).elem)) && (((l2.getD 2 default).n) == 0)) = true := by simpa [Bool.and_eq_true] using h58
               refine RunRest_ops ?_
               refine gox (a2 (em TVar.enc l2 0) (a2 h54b (a2 h56b h58b))) ?_
               refine hk _ _ ?_
               clear hk hp k kp
               refine W_ret ?_
               refine KBlock_r ?_
               refine KThen_r ?_
               refine KBody_ret [] ?_
               obtain rfl := Option.some.inj hm
               exact en
              ·rw [if_neg h58] at hm
               have h58b : ((((l2.getD 2 default).elem) == ((l2.getD 0 default).elem)) && (((l2.getD 2 default).n) == 0)) = false := Bool.eq_false_iff.2 (fun hh => h58 (by simpa [Bool.and_eq_true] using hh))
               refine RunRest_ops ?_
               refine gox (a2 h54b (a2 h56b h58b)) ?_
               refine hk _ _ ?_
               clear hk hp k kp
               refine W_ret ?_
               refine KBlock_r ?_
               refine KThen_r ?_
               refine KBody_ret [] ?_
               obtain rfl := Option.some.inj hm
               exact en
             ·rw [if_neg h56] at hm
              have h56b : ((((l2.getD 1 default).elem) == 105) && (((l2.getD 1 default).n) == 0)) = false := Bool.eq_false_iff.2 (fun hh => h56 (by simpa [Bool.and_eq_true] using hh))
              refine RunRest_ops ?_
              refine gox (a2 h54b h56b) ?_
              refine hk _ _ ?_
              clear hk hp k kp
              refine W_ret ?_
              refine KBlock_r ?_
              refine KThen_r ?_
              refine KBody_ret [] ?_
              obtain rfl := Option.some.inj hm
              exact en
            ·rw [if_neg h54] at hm
             have h54b : decide (((l2.getD 0 default).n) > 0) = false := decide_eq_false h54
             refine RunRest_ops ?_
             refine gox h54b ?_
             refine hk _ _ ?_
             clear hk hp k kp
             refine W_ret ?_
             refine KBlock_r ?_
             refine KThen_r ?_
             refine KBody_ret [] ?_
             obtain rfl := Option.some.inj hm
             exact en
           ·rw [if_neg h52] at hm
            refine W_condf rfl (beq_eq_false_iff_ne.2 h52) ?_
            refine W_rg [11, 245, 273] ?_
            by_cases h59 : p2.op = 11
            ·rw [if_pos h59] at hm
             refine W_condt rfl (beq_iff_eq.2 h59) ?_
             refine W_regG [2, 3, 5, 6, 8, 45, 272, 274, 275, 276, 277, 278, 279, 280, 281, 282, 283, 284, 285, 286, 287, 288, 289, 290, 291, 292, 293, 294, 295, 296, 297, 298, 299, 300, 301, 302, 303, 304, 305, 306, 307, 308, 309, 310, 311, 312, 313, 314] fun k kp hk hp => ?_
             refine RunRest_cut 4 ?_
             refine go ?_
             by_cases h60 : ((p1.vars.getD p2.out_.toNat default).n) > 0
             ·rw [if_pos h60] at hm
              have h60b : decide (((p1.vars.getD p2.out_.toNat default).n) > 0) = true := decide_eq_true h60
              obtain ⟨⟨hg61a, hg61b⟩, hm⟩ := gd hm
              refine RunRest_cut 6 ?_
              refine gox (a2 (em TVar.enc l2 0) h60b) ?_
              by_cases h62 : ((l2.getD 0 default).n) > 0
              ·rw [if_pos h62] at hm
               have h62b : decide (((l2.getD 0 default).n) > 0) = true := decide_eq_true h62
               refine RunRest_cut 8 ?_
               refine gox (a2 (em TVar.enc l2 0) (a2 h60b h62b)) ?_
               by_cases h63 : ((p1.vars.getD p2.out_.toNat default).elem) = ((l2.getD 0 default).elem)
               ·rw [if_pos h63] at hm
                have h63b : (((p1.vars.getD p2.out_.toNat default).elem) == ((l2.getD 0 default).elem)) = true := beq_iff_eq.2 h63
                refine RunRest_cut 5 ?_
                refine gox (a2 h60b (a2 h62b h63b)) ?_
                by_cases h64 : p2.n ≥ 0
                ·rw [if_pos h64] at hm
                 have h64b : decide (p2.n ≥ 0) = true := decide_eq_true h64
                 refine RunRest_cut 8 ?_
                 refine gox (a2 (em TVar.enc l2 0) (a2 h60b (a2 h62b (a2 h63b h64b)))) ?_
                 by_cases h65 : ((p1.vars.getD p2.out_.toNat default).n) ≤ ((l2.getD 0 default).n)
                 ·rw [if_pos h65] at hm
                  have h65b : decide (((p1.vars.getD p2.out_.toNat default).n) ≤ ((l2.getD 0 default).n)) = true := decide_eq_true h65
                  refine RunRest_ops ?_
                  refine gox (a2 (em TVar.enc l2 0) (a2 h60b (a2 h62b (a2 h63b (a2 h64b h65b))))) ?_
                  refine hk _ _ ?_
                  clear hk hp k kp
                  refine W_ret ?_
                  refine KBlock_r ?_
                  refine KThen_r ?_
                  refine KBody_ret [] ?_
                  obtain rfl := Option.some.inj hm
                  exact en
                 ·rw [if_neg h65] at hm
                  have h65b : decide (((p1.vars.getD p2.out_.toNat default).n) ≤ ((l2.getD 0 default).n)) = false := decide_eq_false h65
                  refine RunRest_ops ?_
                  refine gox (a2 h60b (a2 h62b (a2 h63b (a2 h64b h65b)))) ?_
                  refine hk _ _ ?_
                  clear hk hp k kp
                  refine W_ret ?_
                  refine KBlock_r ?_
                  refine KThen_r ?_
                  refine KBody_ret [] ?_
                  obtain rfl := Option.some.inj hm
                  exact en
                ·rw [if_neg h64] at hm
                 have h64b : decide (p2.n ≥ 0) = false := decide_eq_false h64
                 refine RunRest_ops ?_
                 refine gox (a2 h60b (a2 h62b (a2 h63b h64b))) ?_
                 refine hk _ _ ?_
                 clear hk hp k kp
                 refine W_ret ?_
                 refine KBlock_r ?_
                 refine KThen_r ?_
                 refine KBody_ret [] ?_
                 obtain rfl := Option.some.inj hm
                 exact en
               ·rw [if_neg h63] at hm
                have h63b : (((p1.vars.getD p2.out_.toNat default).elem) == ((l2.getD 0 default).elem)) = false := beq_eq_false_iff_ne.2 h63
                refine RunRest_ops ?_
                refine gox (a2 h60b (a2 h62b h63b)) ?_
                refine hk _ _ ?_
                clear hk hp k kp
                refine W_ret ?_
                refine KBlock_r ?_
                refine KThen_r ?_
                refine KBody_ret [] ?_
                obtain rfl := Option.some.inj hm
                exact en
              ·rw [if_neg h62] at hm
               have h62b : decide (((l2.getD 0 default).n) > 0) = false := decide_eq_false h62
               refine RunRest_ops ?_
               refine gox (a2 h60b h62b) ?_
               refine hk _ _ ?_
               clear hk hp k kp
               refine W_ret ?_
               refine KBlock_r ?_
               refine KThen_r ?_
               refine KBody_ret [] ?_
               obtain rfl := Option.some.inj hm
               exact en
             ·rw [if_neg h60] at hm
              have h60b : decide (((p1.vars.getD p2.out_.toNat default).n) > 0) = false := decide_eq_false h60
              refine RunRest_ops ?_
              refine gox h60b ?_
              refine hk _ _ ?_
              clear hk hp k kp
              refine W_ret ?_
              refine KBlock_r ?_
              refine KThen_r ?_
              refine KBody_ret [] ?_
              obtain rfl := Option.some.inj hm
              exact en
            ·rw [if_neg h59] at hm
             refine W_condf rfl (beq_eq_false_iff_ne.2 h59) ?_
             refine W_rg [272, 316] ?_
             by_cases h66 : p2.op = 12
             ·rw [if_pos h66] at hm
              refine W_condt rfl (beq_iff_eq.2 h66) ?_
              obtain ⟨⟨hg67a, hg67b⟩, hm⟩ := gd hm
              refine W_regG [2, 3, 5, 6, 8, 45, 315, 317, 318, 319, 320, 321, 322, 323, 324, 325, 326, 327, 328, 329, 330, 331, 332, 333, 334, 335, 336, 337, 338, 339, 340, 341, 342, 343, 344, 345, 346, 347, 348, 349, 350] fun k kp hk hp => ?_
              refine RunRest_cut 5 ?_
              refine gox (em TVar.enc l2 0) ?_
              by_cases h68 : ((l2.getD 0 default).n) > 0
              ·rw [if_pos h68] at hm
               have h68b : decide (((l2.getD 0 default).n) > 0) = true := decide_eq_true h68
               obtain ⟨⟨hg69a, hg69b⟩, hm⟩ := gd hm
               refine RunRest_cut 6 ?_
               refine gox (a2 (em TVar.enc l2 1) h68b) ?_
               by_cases h70 : ((l2.getD 1 default).n) > 0
               ·rw [if_pos h70] at hm
                have h70b : decide (((l2.getD 1 default).n) > 0) = true := decide_eq_true h70
                refine RunRest_cut 9 ?_
                refine gox (a2 (em TVar.enc l2 0) (a2 (em TVar.enc l2 1) (a2 h68b h70b))) ?_
                by_cases h71 : ((l2.getD 0 default).elem) = ((l2.getD 1 default).elem)
                ·rw [if_pos h71] at hm
                 have h71b : (((l2.getD 0 default).elem) == ((l2.getD 1 default).elem)) = true := beq_iff_eq.2 h71
                 refine RunRest_ops ?_
                 refine gox (a2 (em TVar.enc l2 0) (a2 (em TVar.enc l2 1) (a2 h68b (a2 h70b h71b)))) ?_
                 refine hk _ _ ?_
                 clear hk hp k kp
                 refine W_ret ?_
                 refine KBlock_r ?_
                 refine KThen_r ?_
                 refine KBody_ret [] ?_
                 obtain rfl := Option.some.inj hm
                 exact en
                ·rw [if_neg h71] at hm
                 have h71b : (((l2.getD 0 default).elem) == ((l2.getD 1 default).elem)) = false := beq_eq_false_iff_ne.2 h71
                 refine RunRest_ops ?_
                 refine gox (a2 h68b (a2 h70b h71b)) ?_
                 refine hk _ _ ?_
                 clear hk hp k kp
                 refine W_ret ?_
                 refine KBlock_r ?_
                 refine KThen_r ?_
                 refine KBody_ret [] ?_
                 obtain rfl := Option.some.inj hm
                 exact en
               ·rw [if_neg h70] at hm
                have h70b : decide (((l2.getD 1 default).n) > 0) = false := decide_eq_false h70
                refine RunRest_ops ?_
                refine gox (a2 h68b h70b) ?_
                refine hk _ _ ?_
                clear hk hp k kp
                refine W_ret ?_
                refine KBlock_r ?_
                refine KThen_r ?_
                refine KBody_ret [] ?_
                obtain rfl := Option.some.inj hm
                exact en
              ·rw [if_neg h68] at hm
               have h68b : decide (((l2.getD 0 default).n) > 0) = false := decide_eq_false h68
               refine RunRest_ops ?_
               refine gox h68b ?_
               refine hk _ _ ?_
               clear hk hp k kp
               refine W_ret ?_
               refine KBlock_r ?_
               refine KThen_r ?_
               refine KBody_ret [] ?_
               obtain rfl := Option.some.inj hm
               exact en
             ·rw [if_neg h66] at hm
              refine W_condf rfl (beq_eq_false_iff_ne.2 h66) ?_
              refine W_rg [315, 352] ?_
              by_cases h72 : p2.op = 13
              ·rw [if_pos h72] at hm
               refine W_condt rfl (beq_iff_eq.2 h72) ?_
               obtain ⟨⟨hg73a, hg73b⟩, hm⟩ := gd hm
               refine W_regG [2, 3, 5, 6, 8, 45, 351, 353, 354, 355, 356, 357, 358, 359, 360, 361, 362] fun k kp hk hp => ?_
               refine RunRest_cut 5 ?_
               refine gox (em TVar.enc l2 0) ?_
               by_cases h74 : ((l2.getD 0 default).elem) = ((p1.vars.getD p2.out_.toNat default).elem) ∧ ((l2.getD 0 default).n) = ((p1.vars.getD p2.out_.toNat default).n)
               ·rw [if_pos h74] at hm
                have h74b : ((((l2.getD 0 default).elem) == ((p1.vars.getD p2.out_.toNat default).elem)) && (((l2.getD 0 default).n) == ((p1.vars.getD p2.out_.toNat default).n))) = true := by simpa [Bool.and_eq_true] using h74
                obtain ⟨⟨hg75a, hg75b⟩, hm⟩ := gd hm
                refine RunRest_ops ?_
                refine gox (a2 (em TVar.enc l2 1) h74b) ?_
                refine hk _ _ ?_
                clear hk hp k kp
                refine W_ret ?_
                refine KBlock_r ?_
                refine KThen_r ?_
                refine KBody_ret [] ?_
                obtain rfl := Option.some.inj hm
                exact en
               ·rw [if_neg h74] at hm
                have h74b : ((((l2.getD 0 default).elem) == ((p1.vars.getD p2.out_.toNat default).elem)) && (((l2.getD 0 default).n) == ((p1.vars.getD p2.out_.toNat default).n))) = false := Bool.eq_false_iff.2 (fun hh => h74 (by simpa [Bool.and_eq_true] using hh))
                refine RunRest_ops ?_
                refine gox h74b ?_
                refine hk _ _ ?_
                clear hk hp k kp
                refine W_ret ?_
                refine KBlock_r ?_
                refine KThen_r ?_
                refine KBody_ret [] ?_
                obtain rfl := Option.some.inj hm
                exact en
              ·rw [if_neg h72] at hm
               refine W_condf rfl (beq_eq_false_iff_ne.2 h72) ?_
               refine W_rg [351, 364] ?_
               by_cases h76 : p2.op = 14
               ·rw [if_pos h76] at hm
                refine W_condt rfl (beq_iff_eq.2 h76) ?_
                refine W_anyF [2, 3, 5, 6, 8, 45, 363, 365, 366, 367, 368, 369, 370, 371, 372, 373, 374] (by kernel_rfl) [0, 0, 2, 0, 8, 24, 63, 0, 128, 511, 1023] [false, false, false, false, false, false, false, false, false, true, true] (by kernel_rfl) fun k hk => ?_
                refine ga ?_
                obtain ⟨y6, hc77, hm⟩ := bd hm
                refine AP (fun _ => ref_Cells_ok ((p1.vars.getD p2.out_.toNat default).n) _ hc77) ?_
                refine ga ?_
                obtain ⟨y7, hc78, hm⟩ := bd hm
                refine AP (fun _ => ref_Tree_ok p1 p2.e y6 _ hc78) ?_
                refine ga ?_
                refine hk _ _ ?_
                clear hk k
                refine W_ret ?_
                refine KBlock_r ?_
                refine KThen_r ?_
                refine KBody_ret [] ?_
                obtain rfl := Option.some.inj hm
                exact en
               ·rw [if_neg h76] at hm
                refine W_condf rfl (beq_eq_false_iff_ne.2 h76) ?_
                refine W_rg [45, 363, 376] ?_
                by_cases h79 : p2.op = 15
                ·rw [if_pos h79] at hm
                 refine W_condt rfl (beq_iff_eq.2 h79) ?_
                 refine W_regF [2, 3, 5, 6, 8, 375, 377, 378, 379, 380, 381, 382, 383, 384, 385, 386, 387, 388, 389, 390, 391, 392, 393, 394, 395, 396, 397, 398, 399, 400, 401, 402, 403, 404, 405, 406, 407, 408, 409, 410, 411] fun k kp hk hp => ?_
                 refine go ?_
                 obtain ⟨y8, hc80, hm⟩ := bd hm
                 refine RP (fun _ => ref_Folds_ok p2.k _ hc80) ?_
                 by_cases h81 : y8 = true
                 ·rw [if_pos h81] at hm
                  have h81b : y8 = true := h81
                  refine RunRest_cut 7 ?_
                  refine gox h81b ?_
                  by_cases h82 : ((p1.vars.getD p2.out_.toNat default).elem) = y3.1 ∧ ((p1.vars.getD p2.out_.toNat default).n) = 0
                  ·rw [if_pos h82] at hm
                   have h82b : ((((p1.vars.getD p2.out_.toNat default).elem) == y3.1) && (((p1.vars.getD p2.out_.toNat default).n) == 0)) = true := by simpa [Bool.and_eq_true] using h82
                   obtain ⟨⟨hg83a, hg83b⟩, hm⟩ := gd hm
                   refine RunRest_cut 6 ?_
                   refine gox (a2 (em TVar.enc l2 0) (a2 h81b h82b)) ?_
                   by_cases h84 : ((l2.getD 0 default).elem) = ((p1.vars.getD p2.out_.toNat default).elem) ∧ ((l2.getD 0 default).n) = ((p1.vars.getD p2.out_.toNat default).n)
                   ·rw [if_pos h84] at hm
                    have h84b : ((((l2.getD 0 default).elem) == ((p1.vars.getD p2.out_.toNat default).elem)) && (((l2.getD 0 default).n) == ((p1.vars.getD p2.out_.toNat default).n))) = true := by simpa [Bool.and_eq_true] using h84
                    refine RunRest_cut 5 ?_
                    refine gox (a2 h81b (a2 h82b h84b)) ?_
                    by_cases h85 : p2.n ≥ 1
                    ·rw [if_pos h85] at hm
                     have h85b : decide (p2.n ≥ 1) = true := decide_eq_true h85
                     refine RunRest_cut 5 ?_
                     refine gox (a2 h81b (a2 h82b (a2 h84b h85b))) ?_
                     by_cases h86 : p2.n ≤ 300
                     ·rw [if_pos h86] at hm
                      have h86b : decide (p2.n ≤ 300) = true := decide_eq_true h86
                      refine RunRest_ops ?_
                      refine gox (a2 h81b (a2 h82b (a2 h84b (a2 h85b h86b)))) ?_
                      obtain ⟨y9, hc87, hm⟩ := bd hm
                      refine RP (fun _ => ref_Tree_ok p1 p2.e p2.n _ hc87) ?_
                      refine RunRest_ops ?_
                      refine gox (a2 h81b (a2 h82b (a2 h84b (a2 h85b h86b)))) ?_
                      refine hk _ _ ?_
                      clear hk hp k kp
                      refine W_ret ?_
                      refine KBlock_r ?_
                      refine KThen_r ?_
                      refine KBody_ret [] ?_
                      obtain rfl := Option.some.inj hm
                      exact en
                     ·rw [if_neg h86] at hm
                      have h86b : decide (p2.n ≤ 300) = false := decide_eq_false h86
                      refine RunRest_ops ?_
                      refine gox (a2 h81b (a2 h82b (a2 h84b (a2 h85b h86b)))) ?_
                      refine hk _ _ ?_
                      clear hk hp k kp
                      refine W_ret ?_
                      refine KBlock_r ?_
                      refine KThen_r ?_
                      refine KBody_ret [] ?_
                      obtain rfl := Option.some.inj hm
                      exact en
                    ·rw [if_neg h85] at hm
                     have h85b : decide (p2.n ≥ 1) = false := decide_eq_false h85
                     refine RunRest_ops ?_
                     refine gox (a2 h81b (a2 h82b (a2 h84b h85b))) ?_
                     refine hk _ _ ?_
                     clear hk hp k kp
                     refine W_ret ?_
                     refine KBlock_r ?_
                     refine KThen_r ?_
                     refine KBody_ret [] ?_
                     obtain rfl := Option.some.inj hm
                     exact en
                   ·rw [if_neg h84] at hm
                    have h84b : ((((l2.getD 0 default).elem) == ((p1.vars.getD p2.out_.toNat default).elem)) && (((l2.getD 0 default).n) == ((p1.vars.getD p2.out_.toNat default).n))) = false := Bool.eq_false_iff.2 (fun hh => h84 (by simpa [Bool.and_eq_true] using hh))
                    refine RunRest_ops ?_
                    refine gox (a2 h81b (a2 h82b h84b)) ?_
                    refine hk _ _ ?_
                    clear hk hp k kp
                    refine W_ret ?_
                    refine KBlock_r ?_
                    refine KThen_r ?_
                    refine KBody_ret [] ?_
                    obtain rfl := Option.some.inj hm
                    exact en
                  ·rw [if_neg h82] at hm
                   have h82b : ((((p1.vars.getD p2.out_.toNat default).elem) == y3.1) && (((p1.vars.getD p2.out_.toNat default).n) == 0)) = false := Bool.eq_false_iff.2 (fun hh => h82 (by simpa [Bool.and_eq_true] using hh))
                   refine RunRest_ops ?_
                   refine gox (a2 h81b h82b) ?_
                   refine hk _ _ ?_
                   clear hk hp k kp
                   refine W_ret ?_
                   refine KBlock_r ?_
                   refine KThen_r ?_
                   refine KBody_ret [] ?_
                   obtain rfl := Option.some.inj hm
                   exact en
                 ·rw [if_neg h81] at hm
                  have h81b : y8 = false := Bool.eq_false_iff.2 h81
                  refine RunRest_ops ?_
                  refine gox h81b ?_
                  refine hk _ _ ?_
                  clear hk hp k kp
                  refine W_ret ?_
                  refine KBlock_r ?_
                  refine KThen_r ?_
                  refine KBody_ret [] ?_
                  obtain rfl := Option.some.inj hm
                  exact en
                ·rw [if_neg h79] at hm
                 refine W_condf rfl (beq_eq_false_iff_ne.2 h79) ?_
                 refine W_skip ?_
                 refine KBlock_n ?_
                 refine KThen_n (hk1 _ _ ?_)
                 refine W_regF [2, 3, 5, 6, 8, 375, 412, 413, 414, 415, 416, 417, 418, 419, 420, 421, 422, 423, 424, 425, 426, 427, 428, 429, 430, 431, 432, 433, 434, 435, 436, 437, 438, 439, 440, 441, 442] fun k kp hk hp => ?_
                 refine go ?_
                 obtain ⟨y10, hc88, hm⟩ := bd hm
                 refine RP (fun _ => ref_Folds_ok p2.k _ hc88) ?_
                 by_cases h89 : y10 = true
                 ·rw [if_pos h89] at hm
                  have h89b : y10 = true := h89
                  refine RunRest_cut 6 ?_
                  refine gox h89b ?_
                  by_cases h90 : ((p1.vars.getD p2.out_.toNat default).n) > 0
                  ·rw [if_pos h90] at hm
                   have h90b : decide (((p1.vars.getD p2.out_.toNat default).n) > 0) = true := decide_eq_true h90
                   refine RunRest_cut 6 ?_
                   refine gox (a2 h89b h90b) ?_
                   by_cases h91 : ((p1.vars.getD p2.out_.toNat default).elem) = y3.1
                   ·rw [if_pos h91] at hm
                    have h91b : (((p1.vars.getD p2.out_.toNat default).elem) == y3.1) = true := beq_iff_eq.2 h91
                    obtain ⟨⟨hg92a, hg92b⟩, hm⟩ := gd hm
                    refine RunRest_cut 7 ?_
                    refine gox (a2 (em TVar.enc l2 0) (a2 h89b (a2 h90b h91b))) ?_
                    by_cases h93 : ((l2.getD 0 default).elem) = y3.1 ∧ ((l2.getD 0 default).n) = 0
                    ·rw [if_pos h93] at hm
                     have h93b : ((((l2.getD 0 default).elem) == y3.1) && (((l2.getD 0 default).n) == 0)) = true := by simpa [Bool.and_eq_true] using h93
                     refine RunRest_ops ?_
                     refine gox (a2 h89b (a2 h90b (a2 h91b h93b))) ?_
                     obtain ⟨y11, hc94, hm⟩ := bd hm
                     refine RP (fun _ => ref_Tree_ok p1 p2.e ((p1.vars.getD p2.out_.toNat default).n) _ hc94) ?_
                     refine RunRest_ops ?_
                     refine gox (a2 h89b (a2 h90b (a2 h91b h93b))) ?_
                     refine hk _ _ ?_
                     clear hk hp k kp
                     refine W_ret ?_
                     refine KBody_ret [] ?_
                     obtain rfl := Option.some.inj hm
                     exact en
                    ·rw [if_neg h93] at hm
                     have h93b : ((((l2.getD 0 default).elem) == y3.1) && (((l2.getD 0 default).n) == 0)) = false := Bool.eq_false_iff.2 (fun hh => h93 (by simpa [Bool.and_eq_true] using hh))
                     refine RunRest_ops ?_
                     refine gox (a2 h89b (a2 h90b (a2 h91b h93b))) ?_
                     refine hk _ _ ?_
                     clear hk hp k kp
                     refine W_ret ?_
                     refine KBody_ret [] ?_
                     obtain rfl := Option.some.inj hm
                     exact en
                   ·rw [if_neg h91] at hm
                    have h91b : (((p1.vars.getD p2.out_.toNat default).elem) == y3.1) = false := beq_eq_false_iff_ne.2 h91
                    refine RunRest_ops ?_
                    refine gox (a2 h89b (a2 h90b h91b)) ?_
                    refine hk _ _ ?_
                    clear hk hp k kp
                    refine W_ret ?_
                    refine KBody_ret [] ?_
                    obtain rfl := Option.some.inj hm
                    exact en
                  ·rw [if_neg h90] at hm
                   have h90b : decide (((p1.vars.getD p2.out_.toNat default).n) > 0) = false := decide_eq_false h90
                   refine RunRest_ops ?_
                   refine gox (a2 h89b h90b) ?_
                   refine hk _ _ ?_
                   clear hk hp k kp
                   refine W_ret ?_
                   refine KBody_ret [] ?_
                   obtain rfl := Option.some.inj hm
                   exact en
                 ·rw [if_neg h89] at hm
                  have h89b : y10 = false := Bool.eq_false_iff.2 h89
                  refine RunRest_ops ?_
                  refine gox h89b ?_
                  refine hk _ _ ?_
                  clear hk hp k kp
                  refine W_ret ?_
                  refine KBody_ret [] ?_
                  obtain rfl := Option.some.inj hm
                  exact en
end Pam

/- the walk of ref_SysFault, printed by a program of ours -/
namespace Pam
open Go Go.Proofs
set_option maxRecDepth 100000 in
set_option maxHeartbeats 8000000 in
theorem ref_SysFault_ok (p1 : TSystem) (r : TFault) (hm : ref_SysFault p1 = some r) : SpecF Try.prog 35 [.a [.tree 2 (p1.vars.map TVar.enc), .tree 1 (p1.in_.map (eK .i64)), .tree 1 (p1.out_.map (eK .i64)), .tree 6 (p1.rules.map TRule.enc)]] (.a [.int .i64 ((r).code), .int .i64 ((r).at_)]) := by
 refine Spec_ofD 182 [.cell 2 33] Try.func35 rfl rfl rfl (by kernel_rfl) (by simp) ?_
 refine W_eqf ?_
 unfold ref_SysFault at hm
 refine W_rg [0] ?_
 refine W_seq_k fun k1 hk1 => ?_
 refine W_regF [13, 14] fun k kp hk hp => ?_
 refine go ?_
 obtain ⟨y1, hc1, hm⟩ := bd hm
 refine RP (fun _ => ref_headOf_ok p1 _ hc1) ?_
 refine RunRest_ops ?_
 refine go ?_
 refine hk _ _ ?_
 clear hk hp k kp
 refine W_rg [15, 16] ?_
 by_cases h2 : ¬ ((y1).code) = 0
 ·rw [if_pos h2] at hm
  refine W_condt rfl (bne_iff_ne.2 h2) ?_
  refine W_rg [1, 3, 17, 18] ?_
  refine W_ret ?_
  refine KThen_r ?_
  refine KBody_ret [] ?_
  obtain rfl := Option.some.inj hm
  exact en
 ·rw [if_neg h2] at hm
  refine W_condf rfl (bne_eq_false_iff_eq.2 (Decidable.not_not.1 h2)) ?_
  refine W_skip ?_
  refine KThen_n (hk1 _ _ ?_)
  refine W_joinM (S := Unit) (V := Unit) [3, 4, 5, 6, 7, 17, 19, 20, 21, 22, 23, 24, 25, 26, 27, 28, 29, 30, 31, 32, 33, 34, 35, 36, 37, 38, 39, 40, 41, 42, 43, 44, 45, 46, 47, 48, 49, 50, 51, 52, 53, 54, 55, 56, 57, 58, 59, 60, 61, 62, 63, 64, 65, 66, 67, 68, 69, 70, 71, 72, 73, 74, 75, 76, 77, 78, 79, 80, 81, 82, 83, 84, 85, 86, 87, 88, 89, 90, 91, 92, 93, 94, 95, 96, 97, 98, 99, 100, 101, 102, 103, 104, 105, 106, 107, 108, 109, 110] (fun _ _ => []) (fun _ _ => [.box [.tree 2 (p1.vars.map TVar.enc), .tree 1 (p1.in_.map (eK .i64)), .tree 1 (p1.out_.map (eK .i64)), .tree 6 (p1.rules.map TRule.enc)], .box [.int .i64 0, .int .i64 0], .box [.int .i64 ((y1).code), .int .i64 ((y1).at_)]]) (fun _ => ref_SysFault_j1 p1 = some r) ?_ ?_
  ·skip
   refine W_rg [3, 17] ?_
   refine W_block ?_
   obtain ⟨o4, hl4, hm4⟩ := bd hm
   refine W_loopM (S := Int) (V := Unit) (O := Unit ⊕ TFault) [4, 5, 6, 7, 19, 20, 21, 22, 23, 24, 25, 26, 27, 28, 29, 30, 31, 32, 33, 34, 35, 36, 37, 38, 39, 40, 41, 42, 43, 44, 45, 46, 47, 48, 49, 50, 51, 52, 53, 54, 55, 56, 57, 58, 59, 60, 61, 62, 63, 64, 65, 66, 67, 68, 69, 70, 71, 72, 73, 74, 75, 76, 77, 78, 79, 80, 81, 82, 83, 84, 85, 86, 87, 88, 89, 90, 91, 92, 93, 94, 95, 96, 97, 98, 99, 100, 101, 102, 103, 104, 105, 106, 107, 108, 109, 110] (fun x24 _ => [(4, .c (.int .i64 x24))]) (fun x24 _ => [.box [.tree 2 (p1.vars.map TVar.enc), .tree 1 (p1.in_.map (eK .i64)), .tree 1 (p1.out_.map (eK .i64)), .tree 6 (p1.rules.map TRule.enc)], .box [.int .i64 0, .int .i64 0], .box [.int .i64 ((y1).code), .int .i64 ((y1).at_)]]) _ _ () hl4 ?_ ?_
   ·exact ls
   ·rintro x24 _ r4 hm hr4
    replace hm : ref_SysFault_l4 p1 x24 = some r4 := hm
    refine W_eqm ?_
    unfold ref_SysFault_l4 at hm
    refine W_seq_k fun k7 hk7 => ?_
    refine W_rg [19, 20, 21, 22] ?_
    by_cases h27 : x24 < (p1.rules.length : Int)
    ·rw [if_pos h27] at hm
     refine W_condt rfl (decide_eq_true h27) ?_
     refine W_skip ?_
     refine KThen_n (hk7 _ _ ?_)
     refine W_joinM (S := Unit) (V := Unit) [5, 6, 7, 23, 26, 27, 28, 29, 30, 31, 32, 33, 34, 35, 36, 37, 38, 39, 40, 41, 42, 43, 44, 45, 46, 47, 48, 49, 50, 51, 52, 53, 54, 55, 56, 57, 58, 59, 60, 61, 62, 63, 64, 65, 66, 67, 68, 69, 70, 71, 72, 73, 74, 75, 76, 77, 78, 79, 80, 81, 82, 83, 84, 85, 86, 87, 88, 89, 90, 91, 92, 93, 94, 95, 96, 97, 98, 99, 100, 101, 102, 103, 104, 105, 106, 107, 108, 109, 110] (fun _ _ => []) (fun _ _ => [.box [.tree 2 (p1.vars.map TVar.enc), .tree 1 (p1.in_.map (eK .i64)), .tree 1 (p1.out_.map (eK .i64)), .tree 6 (p1.rules.map TRule.enc)], .box [.int .i64 0, .int .i64 0], .box [.int .i64 ((y1).code), .int .i64 ((y1).at_)]]) (fun _ => ref_SysFault_j5 x24 = some r4) ?_ ?_
     ·skip
      refine W_block ?_
      obtain ⟨hg28a, hm⟩ := gd hm
      refine W_rgx (em TRule.enc p1.rules x24.toNat) [23, 26, 27, 28, 29, 30] ?_
      refine W_seq_k fun k8 hk8 => ?_
      refine W_regG [31, 32, 33, 34, 35, 36, 37, 38, 39, 40] fun k kp hk hp => ?_
      refine RunRest_cut 4 ?_
      refine go ?_
      by_cases h29 : ((p1.rules.getD x24.toNat default).out_) < 0
      ·rw [if_pos h29] at hm
       have h29b : decide (((p1.rules.getD x24.toNat default).out_) < 0) = true := decide_eq_true h29
       refine RunRest_ops ?_
       refine gox h29b ?_
       refine hk _ _ ?_
       clear hk hp k kp
       refine W_condt rfl rfl ?_
       refine W_regF [1, 4, 5, 41, 42, 43] fun k kp hk hp => ?_
       refine go ?_
       obtain ⟨y25, hc30, hm⟩ := bd hm
       refine RP (fun _ => ref_F_ok 16 x24 _ hc30) ?_
       refine RunRest_ops ?_
       refine go ?_
       refine hk _ _ ?_
       clear hk hp k kp
       have ho31 := out_eq hm hr4
       subst ho31
       replace hm : some (y25) = some r := hm4
       refine W_ret ?_
       refine KThen_r ?_
       refine KBlock_r ?_
       refine KJoinM_r ?_
       refine KLoopM_r ?_
       refine KBlock_r ?_
       refine KJoinM_r ?_
       refine KBody_ret [] ?_
       obtain rfl := Option.some.inj hm
       exact en
      ·rw [if_neg h29] at hm
       have h29b : decide (((p1.rules.getD x24.toNat default).out_) < 0) = false := decide_eq_false h29
       refine RunRest_ops ?_
       refine gox h29b ?_
       refine hk _ _ ?_
       clear hk hp k kp
       by_cases h32 : ((p1.rules.getD x24.toNat default).out_) ≥ (p1.vars.length : Int)
       ·rw [if_pos h32] at hm
        refine W_condt rfl (decide_eq_true h32) ?_
        refine W_regF [1, 4, 5, 41, 42, 43] fun k kp hk hp => ?_
        refine go ?_
        obtain ⟨y26, hc33, hm⟩ := bd hm
        refine RP (fun _ => ref_F_ok 16 x24 _ hc33) ?_
        refine RunRest_ops ?_
        refine go ?_
        refine hk _ _ ?_
        clear hk hp k kp
        have ho34 := out_eq hm hr4
        subst ho34
        replace hm : some (y26) = some r := hm4
        refine W_ret ?_
        refine KThen_r ?_
        refine KBlock_r ?_
        refine KJoinM_r ?_
        refine KLoopM_r ?_
        refine KBlock_r ?_
        refine KJoinM_r ?_
        refine KBody_ret [] ?_
        obtain rfl := Option.some.inj hm
        exact en
       ·rw [if_neg h32] at hm
        refine W_condf rfl (decide_eq_false h32) ?_
        refine W_skip ?_
        refine KThen_n (hk8 _ _ ?_)
        refine W_seq_k fun k9 hk9 => ?_
        refine W_anyTF [41, 44, 45, 46, 47, 48, 49, 50, 51, 52, 53, 54, 55] (by kernel_rfl) [0, 1, 0, 4, 15, 31, 63, 63, 255, 63, 575, 2047, 4095] [false, false, false, false, true, true, false, false, false, false, false, true, true] (by kernel_rfl) fun k hk => ?_
        refine TR_ops ?_
        refine ga ?_
        obtain ⟨y27, hc35, hm⟩ := bd hm
        refine AnyCall_pureT (fun _ => ref_In_ok p1.in_ ((p1.rules.getD x24.toNat default).out_) _ hc35) (by first | trivial | exact dst_ok rfl) (by first | trivial | (intro _; first | trivial | simp [need]) | simp [need]) rfl (fun _ => rfl) ?_
        by_cases h36 : y27 = true
        ·rw [if_pos h36] at hm
         have h36b : y27 = true := h36
         refine TR_ops ?_
         refine gax h36b ?_
         refine hk _ _ ?_
         clear hk k
         refine W_condt rfl rfl ?_
         refine W_regF [1, 4, 5, 56, 57, 58] fun k kp hk hp => ?_
         refine go ?_
         obtain ⟨y28, hc37, hm⟩ := bd hm
         refine RP (fun _ => ref_F_ok 8 x24 _ hc37) ?_
         refine RunRest_ops ?_
         refine go ?_
         refine hk _ _ ?_
         clear hk hp k kp
         have ho38 := out_eq hm hr4
         subst ho38
         replace hm : some (y28) = some r := hm4
         refine W_ret ?_
         refine KThen_r ?_
         refine KBlock_r ?_
         refine KJoinM_r ?_
         refine KLoopM_r ?_
         refine KBlock_r ?_
         refine KJoinM_r ?_
         refine KBody_ret [] ?_
         obtain rfl := Option.some.inj hm
         exact en
        ·rw [if_neg h36] at hm
         have h36b : y27 = false := Bool.eq_false_iff.2 h36
         refine TR_ops ?_
         refine gax h36b ?_
         obtain ⟨y29, hc39, hm⟩ := bd hm
         refine AnyCall_pureT (fun _ => ref_made_ok p1 x24 _ hc39) (by first | trivial | exact dst_ok rfl) (by first | trivial | (intro _; first | trivial | simp [need]) | simp [need]) rfl (fun _ => rfl) ?_
         refine TR_ops ?_
         refine gax h36b ?_
         obtain ⟨y30, hc40, hm⟩ := bd hm
         refine AnyCall_pureT (fun _ => ref_In_ok y29 ((p1.rules.getD x24.toNat default).out_) _ hc40) (by first | trivial | exact dst_ok rfl) (by first | trivial | (intro _; first | trivial | simp [need]) | simp [need]) rfl (fun _ => rfl) ?_
         refine TR_ops ?_
         refine gax h36b ?_
         refine hk _ _ ?_
         clear hk k
         by_cases h41 : y30 = true
         ·rw [if_pos h41] at hm
          refine W_condt rfl (h41) ?_
          refine W_regF [1, 4, 5, 56, 57, 58] fun k kp hk hp => ?_
          refine go ?_
          obtain ⟨y31, hc42, hm⟩ := bd hm
          refine RP (fun _ => ref_F_ok 8 x24 _ hc42) ?_
          refine RunRest_ops ?_
          refine go ?_
          refine hk _ _ ?_
          clear hk hp k kp
          have ho43 := out_eq hm hr4
          subst ho43
          replace hm : some (y31) = some r := hm4
          refine W_ret ?_
          refine KThen_r ?_
          refine KBlock_r ?_
          refine KJoinM_r ?_
          refine KLoopM_r ?_
          refine KBlock_r ?_
          refine KJoinM_r ?_
          refine KBody_ret [] ?_
          obtain rfl := Option.some.inj hm
          exact en
         ·rw [if_neg h41] at hm
          refine W_condf rfl (Bool.eq_false_iff.2 h41) ?_
          refine W_skip ?_
          refine KThen_n (hk9 _ _ ?_)
          refine W_seq_k fun k10 hk10 => ?_
          refine W_anyTF [56, 59, 60, 61, 62, 63, 64, 65, 66, 67, 68, 69, 70] (by kernel_rfl) [0, 1, 3, 7, 15, 31, 63, 127, 31, 287, 799, 2047, 4095] [true, true, true, true, true, false, false, false, false, false, false, true, true] (by kernel_rfl) fun k hk => ?_
          refine TR_ops ?_
          refine ga ?_
          obtain ⟨y32, hc44, hm⟩ := bd hm
          refine AnyCall_pureT (fun _ => ref_partsOf_ok ((p1.rules.getD x24.toNat default).op) _ hc44) (by first | trivial | exact dst_ok rfl) (by first | trivial | (intro _; first | trivial | simp [need]) | simp [need]) rfl (fun _ => rfl) ?_
          by_cases h45 : y32 < 0
          ·rw [if_pos h45] at hm
           have h45b : decide (y32 < 0) = true := decide_eq_true h45
           refine TR_ops ?_
           refine gax h45b ?_
           refine hk _ _ ?_
           clear hk k
           refine W_condt rfl rfl ?_
           refine W_regF [1, 4, 5, 71, 72, 73] fun k kp hk hp => ?_
           refine go ?_
           obtain ⟨y33, hc46, hm⟩ := bd hm
           refine RP (fun _ => ref_F_ok 4 x24 _ hc46) ?_
           refine RunRest_ops ?_
           refine go ?_
           refine hk _ _ ?_
           clear hk hp k kp
           have ho47 := out_eq hm hr4
           subst ho47
           replace hm : some (y33) = some r := hm4
           refine W_ret ?_
           refine KThen_r ?_
           refine KBlock_r ?_
           refine KJoinM_r ?_
           refine KLoopM_r ?_
           refine KBlock_r ?_
           refine KJoinM_r ?_
           refine KBody_ret [] ?_
           obtain rfl := Option.some.inj hm
           exact en
          ·rw [if_neg h45] at hm
           have h45b : decide (y32 < 0) = false := decide_eq_false h45
           refine TR_ops ?_
           refine gax h45b ?_
           obtain ⟨y34, hc48, hm⟩ := bd hm
           refine AnyCall_pureT (fun _ => ref_partsOf_ok ((p1.rules.getD x24.toNat default).op) _ hc48) (by first | trivial | exact dst_ok rfl) (by first | trivial | (intro _; first | trivial | simp [need]) | simp [need]) rfl (fun _ => rfl) ?_
           refine TR_ops ?_
           refine gax h45b ?_
           refine hk _ _ ?_
           clear hk k
           by_cases h49 : ¬ y34 = (((p1.rules.getD x24.toNat default).a).length : Int)
           ·rw [if_pos h49] at hm
            refine W_condt rfl (bne_iff_ne.2 h49) ?_
            refine W_regF [1, 4, 5, 71, 72, 73] fun k kp hk hp => ?_
            refine go ?_
            obtain ⟨y35, hc50, hm⟩ := bd hm
            refine RP (fun _ => ref_F_ok 4 x24 _ hc50) ?_
            refine RunRest_ops ?_
            refine go ?_
            refine hk _ _ ?_
            clear hk hp k kp
            have ho51 := out_eq hm hr4
            subst ho51
            replace hm : some (y35) = some r := hm4
            refine W_ret ?_
            refine KThen_r ?_
            refine KBlock_r ?_
            refine KJoinM_r ?_
            refine KLoopM_r ?_
            refine KBlock_r ?_
            refine KJoinM_r ?_
            refine KBody_ret [] ?_
            obtain rfl := Option.some.inj hm
            exact en
           ·rw [if_neg h49] at hm
            refine W_condf rfl (bne_eq_false_iff_eq.2 (Decidable.not_not.1 h49)) ?_
            refine W_skip ?_
            refine KThen_n (hk10 _ _ ?_)
            refine W_seq_k fun k11 hk11 => ?_
            refine W_rg [71, 74, 75, 76] ?_
            by_cases h52 : (((p1.rules.getD x24.toNat default).e).length : Int) > 24
            ·rw [if_pos h52] at hm
             refine W_condt rfl (decide_eq_true h52) ?_
             refine W_regF [1, 4, 5, 77, 78, 79] fun k kp hk hp => ?_
             refine go ?_
             obtain ⟨y36, hc53, hm⟩ := bd hm
             refine RP (fun _ => ref_F_ok 7 x24 _ hc53) ?_
             refine RunRest_ops ?_
             refine go ?_
             refine hk _ _ ?_
             clear hk hp k kp
             have ho54 := out_eq hm hr4
             subst ho54
             replace hm : some (y36) = some r := hm4
             refine W_ret ?_
             refine KThen_r ?_
             refine KBlock_r ?_
             refine KJoinM_r ?_
             refine KLoopM_r ?_
             refine KBlock_r ?_
             refine KJoinM_r ?_
             refine KBody_ret [] ?_
             obtain rfl := Option.some.inj hm
             exact en
            ·rw [if_neg h52] at hm
             refine W_condf rfl (decide_eq_false h52) ?_
             refine W_skip ?_
             refine KThen_n (hk11 _ _ ?_)
             refine W_regF [77, 80, 81] fun k kp hk hp => ?_
             refine go ?_
             obtain ⟨y37, hc55, hm⟩ := bd hm
             refine RP (fun _ => ref_used_ok (p1.rules.getD x24.toNat default) _ hc55) ?_
             refine RunRest_ops ?_
             refine go ?_
             refine hk _ _ ?_
             clear hk hp k kp
             refine W_joinM (S := Unit) (V := Unit) [6, 7, 82, 83, 84, 85, 86, 87, 88, 89, 90, 91, 92, 93, 94, 95, 96, 97, 98, 99, 100, 101, 102, 103, 104] (fun _ _ => []) (fun _ _ => [.box [.tree 2 (p1.vars.map TVar.enc), .tree 1 (p1.in_.map (eK .i64)), .tree 1 (p1.out_.map (eK .i64)), .tree 6 (p1.rules.map TRule.enc)], .box [.int .i64 0, .int .i64 0], .box [.int .i64 ((y1).code), .int .i64 ((y1).at_)], .box [.int .i64 ((p1.rules.getD x24.toNat default).op), .int .i64 ((p1.rules.getD x24.toNat default).k), .int .i64 ((p1.rules.getD x24.toNat default).out_), .int .i64 ((p1.rules.getD x24.toNat default).n), .tree 1 (((p1.rules.getD x24.toNat default).a).map (eK .i64)), .tree 4 (((p1.rules.getD x24.toNat default).e).map TPush.enc)]]) (fun _ => ref_SysFault_j6 p1 x24 = some r4) ?_ ?_
             ·skip
              refine W_rg [] ?_
              refine W_block ?_
              obtain ⟨o5, hl5, hm5⟩ := bd hm
              refine W_loopM (S := Int) (V := Unit) (O := Unit ⊕ TFault) [7, 82, 83, 84, 85, 86, 87, 88, 89, 90, 91, 92, 93, 94, 95, 96, 97, 98, 99, 100, 101, 102, 103, 104] (fun x42 _ => [(7, .c (.int .i64 x42))]) (fun x42 _ => [.box [.tree 2 (p1.vars.map TVar.enc), .tree 1 (p1.in_.map (eK .i64)), .tree 1 (p1.out_.map (eK .i64)), .tree 6 (p1.rules.map TRule.enc)], .box [.int .i64 0, .int .i64 0], .box [.int .i64 ((y1).code), .int .i64 ((y1).at_)], .box [.int .i64 ((p1.rules.getD x24.toNat default).op), .int .i64 ((p1.rules.getD x24.toNat default).k), .int .i64 ((p1.rules.getD x24.toNat default).out_), .int .i64 ((p1.rules.getD x24.toNat default).n), .tree 1 (((p1.rules.getD x24.toNat default).a).map (eK .i64)), .tree 4 (((p1.rules.getD x24.toNat default).e).map TPush.enc)]]) _ _ () hl5 ?_ ?_
              ·exact ls
              ·rintro x42 _ r5 hm hr5
               replace hm : ref_SysFault_l5 p1 x24 y37 x42 = some r5 := hm
               refine W_eqm ?_
               unfold ref_SysFault_l5 at hm
               refine W_seq_k fun k12 hk12 => ?_
               refine W_rg [82, 83, 84] ?_
               by_cases h60 : x42 < (y37.length : Int)
               ·rw [if_pos h60] at hm
                refine W_condt rfl (decide_eq_true h60) ?_
                refine W_skip ?_
                refine KThen_n (hk12 _ _ ?_)
                refine W_seq_k fun k13 hk13 => ?_
                refine W_block ?_
                obtain ⟨hg61a, hm⟩ := gd hm
                refine W_anyTF [85, 88, 89, 90, 91, 92, 93, 94, 95, 96, 97, 98, 99, 100, 101] (by kernel_rfl) [0, 0, 3, 7, 15, 31, 63, 63, 255, 511, 63, 1087, 3135, 8191, 16383] [false, false, true, true, true, true, false, false, false, false, false, false, false, true, true] (by kernel_rfl) fun k hk => ?_
                refine TR_cut 6 rfl ?_
                refine gax (em (eK .i64) y37 x42.toNat) ?_
                by_cases h62 : (y37.getD x42.toNat default) < 0
                ·rw [if_pos h62] at hm
                 have h62b : decide ((y37.getD x42.toNat default) < 0) = true := decide_eq_true h62
                 refine TR_ops ?_
                 refine gax h62b ?_
                 refine hk _ _ ?_
                 clear hk k
                 refine W_condt rfl rfl ?_
                 refine W_regF [1, 4, 5, 6, 7, 102, 103, 104] fun k kp hk hp => ?_
                 refine go ?_
                 obtain ⟨y43, hc63, hm⟩ := bd hm
                 refine RP (fun _ => ref_F_ok 16 x24 _ hc63) ?_
                 refine RunRest_ops ?_
                 refine go ?_
                 refine hk _ _ ?_
                 clear hk hp k kp
                 have ho64 := out_eq hm hr5
                 subst ho64
                 replace hm : some (.inr (.inr (y43))) = some r4 := hm5
                 have ho65 := out_eq hm hr4
                 subst ho65
                 replace hm : some (y43) = some r := hm4
                 refine W_ret ?_
                 refine KBlock_r ?_
                 refine KThen_r ?_
                 refine KLoopM_r ?_
                 refine KBlock_r ?_
                 refine KJoinM_r ?_
                 refine KBlock_r ?_
                 refine KJoinM_r ?_
                 refine KLoopM_r ?_
                 refine KBlock_r ?_
                 refine KJoinM_r ?_
                 refine KBody_ret [] ?_
                 obtain rfl := Option.some.inj hm
                 exact en
                ·rw [if_neg h62] at hm
                 have h62b : decide ((y37.getD x42.toNat default) < 0) = false := decide_eq_false h62
                 refine TR_ops ?_
                 refine gax (a2 (em (eK .i64) y37 x42.toNat) h62b) ?_
                 refine hk _ _ ?_
                 clear hk k
                 by_cases h66 : (y37.getD x42.toNat default) ≥ (p1.vars.length : Int)
                 ·rw [if_pos h66] at hm
                  refine W_condt rfl (decide_eq_true h66) ?_
                  refine W_regF [1, 4, 5, 6, 7, 102, 103, 104] fun k kp hk hp => ?_
                  refine go ?_
                  obtain ⟨y44, hc67, hm⟩ := bd hm
                  refine RP (fun _ => ref_F_ok 16 x24 _ hc67) ?_
                  refine RunRest_ops ?_
                  refine go ?_
                  refine hk _ _ ?_
                  clear hk hp k kp
                  have ho68 := out_eq hm hr5
                  subst ho68
                  replace hm : some (.inr (.inr (y44))) = some r4 := hm5
                  have ho69 := out_eq hm hr4
                  subst ho69
                  replace hm : some (y44) = some r := hm4
                  refine W_ret ?_
                  refine KBlock_r ?_
                  refine KThen_r ?_
                  refine KLoopM_r ?_
                  refine KBlock_r ?_
                  refine KJoinM_r ?_
                  refine KBlock_r ?_
                  refine KJoinM_r ?_
                  refine KLoopM_r ?_
                  refine KBlock_r ?_
                  refine KJoinM_r ?_
                  refine KBody_ret [] ?_
                  obtain rfl := Option.some.inj hm
                  exact en
                 ·rw [if_neg h66] at hm
                  refine W_condf rfl (decide_eq_false h66) ?_
                  refine W_skip ?_
                  refine KBlock_n ?_
                  refine KThen_n (hk13 _ _ ?_)
                  refine W_rn ?_
                  refine KLoopM_n (IntKind.wrap .i64 (x42 + 1)) () hm ?_
                  exact ls
               ·rw [if_neg h60] at hm
                refine W_condf rfl (decide_eq_false h60) ?_
                refine W_exit ?_
                have ho70 := out_eq hm hr5
                subst ho70
                replace hm : ref_SysFault_j6 p1 x24 = some r4 := hm5
                refine KThen_x ?_
                refine KLoopM_x ?_
                refine KBlock_hit ?_
                refine KJoinM_n () () hm ?_
                exact ls
             ·rintro _ _ hm
              replace hm : ref_SysFault_j6 p1 x24 = some r4 := hm
              refine W_eqm ?_
              unfold ref_SysFault_j6 at hm
              refine W_regF [5, 105, 106, 107] fun k kp hk hp => ?_
              refine go ?_
              obtain ⟨y38, hc56, hm⟩ := bd hm
              refine RP (fun _ => ref_typesFit_ok p1 (p1.rules.getD x24.toNat default) _ hc56) ?_
              refine RunRest_ops ?_
              refine go ?_
              refine hk _ _ ?_
              clear hk hp k kp
              by_cases h57 : y38 = true
              ·rw [if_pos h57] at hm
               refine W_condf rfl (by rw [show y38 = true from (h57)]; rfl) ?_
               refine W_skip ?_
               refine KBlock_n ?_
               refine KJoinM_n () () hm ?_
               exact ls
              ·rw [if_neg h57] at hm
               refine W_condt rfl (by rw [show y38 = false from (Bool.eq_false_iff.2 h57)]; rfl) ?_
               refine W_regF [1, 4, 108, 109, 110] fun k kp hk hp => ?_
               refine go ?_
               obtain ⟨y39, hc58, hm⟩ := bd hm
               refine RP (fun _ => ref_F_ok 10 x24 _ hc58) ?_
               refine RunRest_ops ?_
               refine go ?_
               refine hk _ _ ?_
               clear hk hp k kp
               have ho59 := out_eq hm hr4
               subst ho59
               replace hm : some (y39) = some r := hm4
               refine W_ret ?_
               refine KBlock_r ?_
               refine KJoinM_r ?_
               refine KLoopM_r ?_
               refine KBlock_r ?_
               refine KJoinM_r ?_
               refine KBody_ret [] ?_
               obtain rfl := Option.some.inj hm
               exact en
     ·rintro _ _ hm
      replace hm : ref_SysFault_j5 x24 = some r4 := hm
      refine W_eqm ?_
      unfold ref_SysFault_j5 at hm
      refine W_rn ?_
      refine KLoopM_n (IntKind.wrap .i64 (x24 + 1)) () hm ?_
      exact ls
    ·rw [if_neg h27] at hm
     refine W_condf rfl (decide_eq_false h27) ?_
     refine W_exit ?_
     have ho71 := out_eq hm hr4
     subst ho71
     replace hm : ref_SysFault_j1 p1 = some r := hm4
     refine KThen_x ?_
     refine KLoopM_x ?_
     refine KBlock_hit ?_
     refine KJoinM_n () () hm ?_
     exact ls
  ·rintro _ _ hm
   replace hm : ref_SysFault_j1 p1 = some r := hm
   refine W_eqm ?_
   unfold ref_SysFault_j1 at hm
   refine W_regF [111, 112, 113, 114, 115] fun k kp hk hp => ?_
   refine go ?_
   obtain ⟨y2, hc3, hm⟩ := bd hm
   refine RP (fun _ => ref_made_ok p1 (p1.rules.length : Int) _ hc3) ?_
   refine RunRest_ops ?_
   refine go ?_
   refine hk _ _ ?_
   clear hk hp k kp
   refine W_joinM (S := Unit) (V := Unit) [9, 10, 11, 116, 117, 118, 119, 120, 121, 122, 123, 124, 125, 126, 127, 128, 129, 130, 131, 132, 133, 134, 135, 136, 137, 138, 139, 140, 141, 142, 143, 144, 145, 146, 147, 148, 149, 150, 151, 152, 153] (fun _ _ => []) (fun _ _ => [.box [.tree 2 (p1.vars.map TVar.enc), .tree 1 (p1.in_.map (eK .i64)), .tree 1 (p1.out_.map (eK .i64)), .tree 6 (p1.rules.map TRule.enc)], .box [.int .i64 0, .int .i64 0], .box [.int .i64 ((y1).code), .int .i64 ((y1).at_)]]) (fun _ => ref_SysFault_j2 p1 y2 = some r) ?_ ?_
   ·skip
    refine W_rg [] ?_
    refine W_block ?_
    obtain ⟨o2, hl2, hm2⟩ := bd hm
    refine W_loopM (S := Int) (V := Unit) (O := Unit ⊕ TFault) [9, 10, 11, 116, 117, 118, 119, 120, 121, 122, 123, 124, 125, 126, 127, 128, 129, 130, 131, 132, 133, 134, 135, 136, 137, 138, 139, 140, 141, 142, 143, 144, 145, 146, 147, 148, 149, 150, 151, 152, 153] (fun x12 _ => [(9, .c (.int .i64 x12))]) (fun x12 _ => [.box [.tree 2 (p1.vars.map TVar.enc), .tree 1 (p1.in_.map (eK .i64)), .tree 1 (p1.out_.map (eK .i64)), .tree 6 (p1.rules.map TRule.enc)], .box [.int .i64 0, .int .i64 0], .box [.int .i64 ((y1).code), .int .i64 ((y1).at_)]]) _ _ () hl2 ?_ ?_
    ·exact ls
    ·rintro x12 _ r2 hm hr2
     replace hm : ref_SysFault_l2 p1 y2 x12 = some r2 := hm
     refine W_eqm ?_
     unfold ref_SysFault_l2 at hm
     refine W_seq_k fun k4 hk4 => ?_
     refine W_rg [116, 117, 118, 119] ?_
     by_cases h13 : x12 < (p1.rules.length : Int)
     ·rw [if_pos h13] at hm
      refine W_condt rfl (decide_eq_true h13) ?_
      refine W_skip ?_
      refine KThen_n (hk4 _ _ ?_)
      refine W_joinM (S := Unit) (V := Unit) [10, 11, 120, 123, 124, 125, 126, 127, 128, 129, 130, 131, 132, 133, 134, 135, 136, 137, 138, 139, 140, 141, 142, 143, 144, 145, 146, 147, 148, 149, 150, 151, 152, 153] (fun _ _ => []) (fun _ _ => [.box [.tree 2 (p1.vars.map TVar.enc), .tree 1 (p1.in_.map (eK .i64)), .tree 1 (p1.out_.map (eK .i64)), .tree 6 (p1.rules.map TRule.enc)], .box [.int .i64 0, .int .i64 0], .box [.int .i64 ((y1).code), .int .i64 ((y1).at_)]]) (fun _ => ref_SysFault_j4 x12 = some r2) ?_ ?_
      ·skip
       refine W_block ?_
       obtain ⟨hg14a, hm⟩ := gd hm
       refine W_regF [120, 123, 124, 125, 126, 127, 128] fun k kp hk hp => ?_
       refine gox (em TRule.enc p1.rules x12.toNat) ?_
       obtain ⟨y13, hc15, hm⟩ := bd hm
       refine RP (fun _ => ref_used_ok (p1.rules.getD x12.toNat default) _ hc15) ?_
       refine RunRest_ops ?_
       refine go ?_
       refine hk _ _ ?_
       clear hk hp k kp
       refine W_rg [] ?_
       refine W_block ?_
       obtain ⟨o3, hl3, hm3⟩ := bd hm
       refine W_loopM (S := Int) (V := Unit) (O := Unit ⊕ TFault) [11, 129, 130, 131, 132, 133, 134, 135, 136, 137, 138, 139, 140, 141, 142, 143, 144, 145, 146, 147, 148, 149, 150, 151, 152, 153] (fun x16 _ => [(11, .c (.int .i64 x16))]) (fun x16 _ => [.box [.tree 2 (p1.vars.map TVar.enc), .tree 1 (p1.in_.map (eK .i64)), .tree 1 (p1.out_.map (eK .i64)), .tree 6 (p1.rules.map TRule.enc)], .box [.int .i64 0, .int .i64 0], .box [.int .i64 ((y1).code), .int .i64 ((y1).at_)]]) _ _ () hl3 ?_ ?_
       ·exact ls
       ·rintro x16 _ r3 hm hr3
        replace hm : ref_SysFault_l3 p1 y2 x12 y13 x16 = some r3 := hm
        refine W_eqm ?_
        unfold ref_SysFault_l3 at hm
        refine W_seq_k fun k5 hk5 => ?_
        refine W_rg [129, 130, 131] ?_
        by_cases h16 : x16 < (y13.length : Int)
        ·rw [if_pos h16] at hm
         refine W_condt rfl (decide_eq_true h16) ?_
         refine W_skip ?_
         refine KThen_n (hk5 _ _ ?_)
         refine W_seq_k fun k6 hk6 => ?_
         refine W_block ?_
         obtain ⟨hg17a, hm⟩ := gd hm
         refine W_anyTF [132, 135, 136, 137, 138, 139, 140, 141, 142, 143, 144, 145, 146, 147, 148, 149, 150] (by kernel_rfl) [0, 1, 0, 0, 12, 28, 63, 127, 255, 511, 511, 511, 3583, 7679, 16383, 32767, 65535] [false, false, false, false, false, false, true, true, true, false, false, false, false, false, true, true, true] (by kernel_rfl) fun k hk => ?_
         refine TR_ops ?_
         refine gax (em (eK .i64) y13 x16.toNat) ?_
         obtain ⟨y17, hc18, hm⟩ := bd hm
         refine AnyCall_pureT (fun _ => ref_In_ok p1.in_ (y13.getD x16.toNat default) _ hc18) (by first | trivial | exact dst_ok rfl) (by first | trivial | (intro _; first | trivial | simp [need]) | simp [need]) rfl (fun _ => rfl) ?_
         by_cases h19 : y17 = true
         ·rw [if_pos h19] at hm
          have h19b : y17 = true := h19
          have h19c : (!y17) = false := by rw [h19b]; rfl
          refine TR_ops ?_
          refine gax (a2 h19b h19c) ?_
          refine hk _ _ ?_
          clear hk k
          refine W_condf rfl rfl ?_
          refine W_skip ?_
          refine KBlock_n ?_
          refine KThen_n (hk6 _ _ ?_)
          refine W_rn ?_
          refine KLoopM_n (IntKind.wrap .i64 (x16 + 1)) () hm ?_
          first | (simp only [bS, bX, reduceIte, ↓reduceIte, reduceCtorEq, Int.reduceToNat, Nat.reduceDiv, Nat.reduceMod, Nat.reduceLT, Nat.reduceLeDiff, Nat.reduceAdd, Nat.reduceSub, Nat.reduceMul, Nat.reduceEqDiff, Nat.reduceBEq, Nat.reduceBNe, Nat.reduceGT] <;> first | done | (and_intros <;> first | rfl | (simp; done) | omega | (simp [lit, bX, eK, eB, eS, eL]; done) | (simp only [len_lit, List.length_cons, List.length_nil, List.length_append, List.length_set, List.length_replicate, List.length_map, List.length_take, List.length_drop]; omega))) | (simp only [bS, bX, reduceIte, ↓reduceIte, reduceCtorEq, Int.reduceToNat, Nat.reduceDiv, Nat.reduceMod, Nat.reduceLT, Nat.reduceLeDiff, Nat.reduceAdd, Nat.reduceSub, Nat.reduceMul, Nat.reduceEqDiff, Nat.reduceBEq, Nat.reduceBNe, Nat.reduceGT, *] <;> first | done | (and_intros <;> first | rfl | (simp; done) | omega | (simp [lit, bX, eK, eB, eS, eL]; done) | (simp only [len_lit, List.length_cons, List.length_nil, List.length_append, List.length_set, List.length_replicate, List.length_map, List.length_take, List.length_drop]; omega)))
         ·rw [if_neg h19] at hm
          have h19b : y17 = false := Bool.eq_false_iff.2 h19
          have h19c : (!y17) = true := by rw [h19b]; rfl
          refine TR_ops ?_
          refine gax (a2 (em (eK .i64) y13 x16.toNat) (a2 h19b h19c)) ?_
          obtain ⟨y18, hc20, hm⟩ := bd hm
          refine AnyCall_pureT (fun _ => ref_In_ok y2 (y13.getD x16.toNat default) _ hc20) (by first | trivial | exact dst_ok rfl) (by first | trivial | (intro _; first | trivial | simp [need]) | simp [need]) rfl (fun _ => rfl) ?_
          refine TR_ops ?_
          refine gax (a2 h19b h19c) ?_
          refine hk _ _ ?_
          clear hk k
          by_cases h21 : y18 = true
          ·rw [if_pos h21] at hm
           refine W_condf rfl (by rw [show y18 = true from (h21)]; rfl) ?_
           refine W_skip ?_
           refine KBlock_n ?_
           refine KThen_n (hk6 _ _ ?_)
           refine W_rn ?_
           refine KLoopM_n (IntKind.wrap .i64 (x16 + 1)) () hm ?_
           first | (simp only [bS, bX, reduceIte, ↓reduceIte, reduceCtorEq, Int.reduceToNat, Nat.reduceDiv, Nat.reduceMod, Nat.reduceLT, Nat.reduceLeDiff, Nat.reduceAdd, Nat.reduceSub, Nat.reduceMul, Nat.reduceEqDiff, Nat.reduceBEq, Nat.reduceBNe, Nat.reduceGT] <;> first | done | (and_intros <;> first | rfl | (simp; done) | omega | (simp [lit, bX, eK, eB, eS, eL]; done) | (simp only [len_lit, List.length_cons, List.length_nil, List.length_append, List.length_set, List.length_replicate, List.length_map, List.length_take, List.length_drop]; omega))) | (simp only [bS, bX, reduceIte, ↓reduceIte, reduceCtorEq, Int.reduceToNat, Nat.reduceDiv, Nat.reduceMod, Nat.reduceLT, Nat.reduceLeDiff, Nat.reduceAdd, Nat.reduceSub, Nat.reduceMul, Nat.reduceEqDiff, Nat.reduceBEq, Nat.reduceBNe, Nat.reduceGT, *] <;> first | done | (and_intros <;> first | rfl | (simp; done) | omega | (simp [lit, bX, eK, eB, eS, eL]; done) | (simp only [len_lit, List.length_cons, List.length_nil, List.length_append, List.length_set, List.length_replicate, List.length_map, List.length_take, List.length_drop]; omega)))
          ·rw [if_neg h21] at hm
           refine W_condt rfl (by rw [show y18 = false from (Bool.eq_false_iff.2 h21)]; rfl) ?_
           refine W_regF [1, 8, 9, 10, 11, 151, 152, 153] fun k kp hk hp => ?_
           refine go ?_
           obtain ⟨y19, hc22, hm⟩ := bd hm
           refine RP (fun _ => ref_F_ok 9 x12 _ hc22) ?_
           refine RunRest_ops ?_
           refine go ?_
           refine hk _ _ ?_
           clear hk hp k kp
           have ho23 := out_eq hm hr3
           subst ho23
           replace hm : some (.inr (.inr (y19))) = some r2 := hm3
           have ho24 := out_eq hm hr2
           subst ho24
           replace hm : some (y19) = some r := hm2
           refine W_ret ?_
           refine KBlock_r ?_
           refine KThen_r ?_
           refine KLoopM_r ?_
           refine KBlock_r ?_
           refine KBlock_r ?_
           refine KJoinM_r ?_
           refine KLoopM_r ?_
           refine KBlock_r ?_
           refine KJoinM_r ?_
           refine KBody_ret [] ?_
           obtain rfl := Option.some.inj hm
           exact en
        ·rw [if_neg h16] at hm
         refine W_condf rfl (decide_eq_false h16) ?_
         refine W_exit ?_
         have ho25 := out_eq hm hr3
         subst ho25
         replace hm : ref_SysFault_j4 x12 = some r2 := hm3
         refine KThen_x ?_
         refine KLoopM_x ?_
         refine KBlock_hit ?_
         refine KBlock_n ?_
         refine KJoinM_n () () hm ?_
         exact ls
      ·rintro _ _ hm
       replace hm : ref_SysFault_j4 x12 = some r2 := hm
       refine W_eqm ?_
       unfold ref_SysFault_j4 at hm
       refine W_rn ?_
       refine KLoopM_n (IntKind.wrap .i64 (x12 + 1)) () hm ?_
       exact ls
     ·rw [if_neg h13] at hm
      refine W_condf rfl (decide_eq_false h13) ?_
      refine W_exit ?_
      have ho26 := out_eq hm hr2
      subst ho26
      replace hm : ref_SysFault_j2 p1 y2 = some r := hm2
      refine KThen_x ?_
      refine KLoopM_x ?_
      refine KBlock_hit ?_
      refine KJoinM_n () () hm ?_
      exact ls
   ·rintro _ _ hm
    replace hm : ref_SysFault_j2 p1 y2 = some r := hm
    refine W_eqm ?_
    unfold ref_SysFault_j2 at hm
    refine W_joinM (S := Unit) (V := Unit) [1, 8, 12, 154, 155, 156, 157, 158, 159, 160, 161, 162, 163, 164, 165, 166, 167, 168, 169, 170, 171, 172, 173, 174, 175, 176, 177, 178, 179, 180] (fun _ _ => []) (fun _ _ => [.box [.tree 2 (p1.vars.map TVar.enc), .tree 1 (p1.in_.map (eK .i64)), .tree 1 (p1.out_.map (eK .i64)), .tree 6 (p1.rules.map TRule.enc)], .box [.int .i64 0, .int .i64 0], .box [.int .i64 ((y1).code), .int .i64 ((y1).at_)]]) (fun _ => ref_SysFault_j3 = some r) ?_ ?_
    ·skip
     refine W_rg [] ?_
     refine W_block ?_
     obtain ⟨o1, hl1, hm1⟩ := bd hm
     refine W_loopM (S := Int) (V := Unit) (O := Unit ⊕ TFault) [12, 154, 155, 156, 157, 158, 159, 160, 161, 162, 163, 164, 165, 166, 167, 168, 169, 170, 171, 172, 173, 174, 175, 176, 177, 178, 179, 180] (fun x5 _ => [(12, .c (.int .i64 x5))]) (fun x5 _ => [.box [.tree 2 (p1.vars.map TVar.enc), .tree 1 (p1.in_.map (eK .i64)), .tree 1 (p1.out_.map (eK .i64)), .tree 6 (p1.rules.map TRule.enc)], .box [.int .i64 0, .int .i64 0], .box [.int .i64 ((y1).code), .int .i64 ((y1).at_)]]) _ _ () hl1 ?_ ?_
     ·exact ls
     ·rintro x5 _ r1 hm hr1
      replace hm : ref_SysFault_l1 p1 y2 x5 = some r1 := hm
      refine W_eqm ?_
      unfold ref_SysFault_l1 at hm
      refine W_seq_k fun k2 hk2 => ?_
      refine W_rg [154, 155, 156, 157] ?_
      by_cases h4 : x5 < (p1.out_.length : Int)
      ·rw [if_pos h4] at hm
       refine W_condt rfl (decide_eq_true h4) ?_
       refine W_skip ?_
       refine KThen_n (hk2 _ _ ?_)
       refine W_seq_k fun k3 hk3 => ?_
       refine W_block ?_
       obtain ⟨hg5a, hm⟩ := gd hm
       refine W_anyTF [158, 161, 162, 163, 164, 165, 166, 167, 168, 169, 170, 171, 172, 173, 174, 175, 176, 177, 178] (by kernel_rfl) [0, 1, 0, 4, 0, 28, 60, 127, 255, 511, 1023, 1023, 3071, 1023, 15359, 31743, 65535, 131071, 262143] [false, false, false, false, false, false, false, true, true, true, false, false, false, false, false, false, true, true, true] (by kernel_rfl) fun k hk => ?_
       refine TR_ops ?_
       refine gax (em (eK .i64) p1.out_ x5.toNat) ?_
       obtain ⟨y6, hc6, hm⟩ := bd hm
       refine AnyCall_pureT (fun _ => ref_In_ok p1.in_ (p1.out_.getD x5.toNat default) _ hc6) (by first | trivial | exact dst_ok rfl) (by first | trivial | (intro _; first | trivial | simp [need]) | simp [need]) rfl (fun _ => rfl) ?_
       by_cases h7 : y6 = true
       ·rw [if_pos h7] at hm
        have h7b : y6 = true := h7
        have h7c : (!y6) = false := by rw [h7b]; rfl
        refine TR_ops ?_
        refine gax (a2 h7b h7c) ?_
        refine hk _ _ ?_
        clear hk k
        refine W_condf rfl rfl ?_
        refine W_skip ?_
        refine KBlock_n ?_
        refine KThen_n (hk3 _ _ ?_)
        refine W_rn ?_
        refine KLoopM_n (IntKind.wrap .i64 (x5 + 1)) () hm ?_
        first | (simp only [bS, bX, reduceIte, ↓reduceIte, reduceCtorEq, Int.reduceToNat, Nat.reduceDiv, Nat.reduceMod, Nat.reduceLT, Nat.reduceLeDiff, Nat.reduceAdd, Nat.reduceSub, Nat.reduceMul, Nat.reduceEqDiff, Nat.reduceBEq, Nat.reduceBNe, Nat.reduceGT] <;> first | done | (and_intros <;> first | rfl | (simp; done) | omega | (simp [lit, bX, eK, eB, eS, eL]; done) | (simp only [len_lit, List.length_cons, List.length_nil, List.length_append, List.length_set, List.length_replicate, List.length_map, List.length_take, List.length_drop]; omega))) | (simp only [bS, bX, reduceIte, ↓reduceIte, reduceCtorEq, Int.reduceToNat, Nat.reduceDiv, Nat.reduceMod, Nat.reduceLT, Nat.reduceLeDiff, Nat.reduceAdd, Nat.reduceSub, Nat.reduceMul, Nat.reduceEqDiff, Nat.reduceBEq, Nat.reduceBNe, Nat.reduceGT, *] <;> first | done | (and_intros <;> first | rfl | (simp; done) | omega | (simp [lit, bX, eK, eB, eS, eL]; done) | (simp only [len_lit, List.length_cons, List.length_nil, List.length_append, List.length_set, List.length_replicate, List.length_map, List.length_take, List.length_drop]; omega)))
       ·rw [if_neg h7] at hm
        have h7b : y6 = false := Bool.eq_false_iff.2 h7
        have h7c : (!y6) = true := by rw [h7b]; rfl
        refine TR_ops ?_
        refine gax (a2 (em (eK .i64) p1.out_ x5.toNat) (a2 h7b h7c)) ?_
        obtain ⟨y7, hc8, hm⟩ := bd hm
        refine AnyCall_pureT (fun _ => ref_In_ok y2 (p1.out_.getD x5.toNat default) _ hc8) (by first | trivial | exact dst_ok rfl) (by first | trivial | (intro _; first | trivial | simp [need]) | simp [need]) rfl (fun _ => rfl) ?_
        refine TR_ops ?_
        refine gax (a2 h7b h7c) ?_
        refine hk _ _ ?_
        clear hk k
        by_cases h9 : y7 = true
        ·rw [if_pos h9] at hm
         refine W_condf rfl (by rw [show y7 = true from (h9)]; rfl) ?_
         refine W_skip ?_
         refine KBlock_n ?_
         refine KThen_n (hk3 _ _ ?_)
         refine W_rn ?_
         refine KLoopM_n (IntKind.wrap .i64 (x5 + 1)) () hm ?_
         first | (simp only [bS, bX, reduceIte, ↓reduceIte, reduceCtorEq, Int.reduceToNat, Nat.reduceDiv, Nat.reduceMod, Nat.reduceLT, Nat.reduceLeDiff, Nat.reduceAdd, Nat.reduceSub, Nat.reduceMul, Nat.reduceEqDiff, Nat.reduceBEq, Nat.reduceBNe, Nat.reduceGT] <;> first | done | (and_intros <;> first | rfl | (simp; done) | omega | (simp [lit, bX, eK, eB, eS, eL]; done) | (simp only [len_lit, List.length_cons, List.length_nil, List.length_append, List.length_set, List.length_replicate, List.length_map, List.length_take, List.length_drop]; omega))) | (simp only [bS, bX, reduceIte, ↓reduceIte, reduceCtorEq, Int.reduceToNat, Nat.reduceDiv, Nat.reduceMod, Nat.reduceLT, Nat.reduceLeDiff, Nat.reduceAdd, Nat.reduceSub, Nat.reduceMul, Nat.reduceEqDiff, Nat.reduceBEq, Nat.reduceBNe, Nat.reduceGT, *] <;> first | done | (and_intros <;> first | rfl | (simp; done) | omega | (simp [lit, bX, eK, eB, eS, eL]; done) | (simp only [len_lit, List.length_cons, List.length_nil, List.length_append, List.length_set, List.length_replicate, List.length_map, List.length_take, List.length_drop]; omega)))
        ·rw [if_neg h9] at hm
         refine W_condt rfl (by rw [show y7 = false from (Bool.eq_false_iff.2 h9)]; rfl) ?_
         refine W_regF [1, 8, 12, 179, 180] fun k kp hk hp => ?_
         refine go ?_
         obtain ⟨y8, hc10, hm⟩ := bd hm
         refine RP (fun _ => ref_F_ok 9 (-1) _ hc10) ?_
         refine RunRest_ops ?_
         refine go ?_
         refine hk _ _ ?_
         clear hk hp k kp
         have ho11 := out_eq hm hr1
         subst ho11
         replace hm : some (y8) = some r := hm1
         refine W_ret ?_
         refine KBlock_r ?_
         refine KThen_r ?_
         refine KLoopM_r ?_
         refine KBlock_r ?_
         refine KJoinM_r ?_
         refine KBody_ret [] ?_
         obtain rfl := Option.some.inj hm
         exact en
      ·rw [if_neg h4] at hm
       refine W_condf rfl (decide_eq_false h4) ?_
       refine W_exit ?_
       have ho12 := out_eq hm hr1
       subst ho12
       replace hm : ref_SysFault_j3 = some r := hm1
       refine KThen_x ?_
       refine KLoopM_x ?_
       refine KBlock_hit ?_
       refine KJoinM_n () () hm ?_
       exact ls
    ·rintro _ _ hm
     replace hm : ref_SysFault_j3 = some r := hm
     refine W_eqm ?_
     unfold ref_SysFault_j3 at hm
     refine W_rg [181] ?_
     refine W_ret ?_
     refine KBody_ret [] ?_
     obtain rfl := Option.some.inj hm
     exact en
end Pam

/- the walk of law_SysChecks, printed by a program of ours -/
namespace Pam
open Go Go.Proofs
set_option maxRecDepth 100000 in
set_option maxHeartbeats 1000000 in
theorem law_SysChecks_ok (p1 : TSystem) (r : Bool) (hm : law_SysChecks p1 = some r) : SpecF Try.prog 5 [.a [.tree 2 (p1.vars.map TVar.enc), .tree 1 (p1.in_.map (eK .i64)), .tree 1 (p1.out_.map (eK .i64)), .tree 6 (p1.rules.map TRule.enc)]] (.c (.bool r)) := by
 refine Spec_ofD 13 [.tmp 2] Try.func5 rfl rfl rfl (by kernel_rfl) (by simp) ?_
 refine W_eqf ?_
 unfold law_SysChecks at hm
 refine W_rg [0, 2] ?_
 refine W_seq_k fun k1 hk1 => ?_
 refine W_regF [3] fun k kp hk hp => ?_
 refine go ?_
 obtain ⟨y1, hc1, hm⟩ := bd hm
 refine RP (fun _ => law_sysBegun_ok  _ hc1) ?_
 refine RunRest_ops ?_
 refine go ?_
 refine hk _ _ ?_
 clear hk hp k kp
 by_cases h2 : y1 = true
 ·rw [if_pos h2] at hm
  refine W_condf rfl (by rw [show y1 = true from (h2)]; rfl) ?_
  refine W_skip ?_
  refine KThen_n (hk1 _ _ ?_)
  refine W_seq_k fun k2 hk2 => ?_
  refine W_regF [4, 5] fun k kp hk hp => ?_
  refine go ?_
  obtain ⟨y2, hc3, hm⟩ := bd hm
  refine RP (fun _ => ref_GreatSystem_ok p1 450 _ hc3) ?_
  refine RunRest_ops ?_
  refine go ?_
  refine hk _ _ ?_
  clear hk hp k kp
  by_cases h4 : y2 = true
  ·rw [if_pos h4] at hm
   refine W_condt rfl (h4) ?_
   refine W_rg [1, 6] ?_
   refine W_ret ?_
   refine KThen_r ?_
   refine KBody_ret [] ?_
   obtain rfl := Option.some.inj hm
   exact en
  ·rw [if_neg h4] at hm
   refine W_condf rfl (Bool.eq_false_iff.2 h4) ?_
   refine W_skip ?_
   refine KThen_n (hk2 _ _ ?_)
   refine W_anyF [1, 6, 7, 8, 9, 10, 11, 12] (by kernel_rfl) [0, 1, 3, 0, 15, 31, 63] [false, false, false, false, true, true, true] (by kernel_rfl) fun k hk => ?_
   refine ga ?_
   obtain ⟨y3, hc5, hm⟩ := bd hm
   refine AP (fun _ => ref_CopySystem_ok p1 _ hc5) ?_
   refine ga ?_
   obtain ⟨y4, hc6, hm⟩ := bd hm
   refine AP (fun _ => sys_Check_ok (y3) _ hc6) ?_
   refine ga ?_
   obtain ⟨y5, hc7, hm⟩ := bd hm
   refine AP (fun _ => ref_SysFault_ok p1 _ hc7) ?_
   refine ga ?_
   refine hk _ _ ?_
   clear hk k
   refine W_ret ?_
   refine KBody_ret [] ?_
   obtain rfl := Option.some.inj hm
   exact en
 ·rw [if_neg h2] at hm
  refine W_condt rfl (by rw [show y1 = false from (Bool.eq_false_iff.2 h2)]; rfl) ?_
  refine W_rg [1, 4] ?_
  refine W_ret ?_
  refine KThen_r ?_
  refine KBody_ret [] ?_
  obtain rfl := Option.some.inj hm
  exact en
end Pam
