/- the walk of ref_plainTree, printed by a program of ours -/
import Derived.Test.YtpfekllhlfodiaaBase3
import Derived.Test.YtpfekllhlfodiaaEmitMakesFun1
import Derived.Test.YtpfekllhlfodiaaEmitMakesWalk1
set_option linter.all false
namespace Pam
open Go Go.Proofs
set_option maxRecDepth 100000 in
set_option maxHeartbeats 8000000 in
theorem ref_plainTree_ok (p1 : TLoops) (p2 : List TPush) (p3 : Int) (r : Bool) (hm : ref_plainTree p1 p2 p3 = some r) : SpecF Try.prog 119 [.a [.int .i64 p1.cells, .tree 1 (p1.put.map (eK .i64)), .tree 1 (p1.get.map (eK .i64)), .tree 6 (p1.steps.map TLoop.enc)], .c (.tree 4 (p2.map TPush.enc)), .c (.int .i64 p3)] (.c (.bool r)) := by
 refine Spec_ofD 113 [.tmp 6] Try.func119 rfl rfl rfl (by kernel_rfl) (by simp) ?_
 refine W_eqf ?_
 unfold ref_plainTree at hm
 refine W_rg [0, 6] ?_
 refine W_rg [] ?_
 refine W_joinM (S := Int) (V := Unit) [2, 3, 6, 7, 8, 9, 10, 11, 12, 13, 14, 15, 16, 17, 18, 19, 20, 21, 22, 23, 24, 25, 26, 27, 28, 29, 30, 31, 32, 33, 34, 35, 36, 37, 38, 39, 40, 41, 42, 43, 44, 45, 46, 47, 48, 49, 50, 51, 52, 53, 54, 55, 56, 57, 58, 59, 60, 61, 62, 63, 64, 65, 66, 67, 68, 69, 70, 71, 72, 73, 74, 75, 76, 77, 78, 79, 80, 81, 82, 83, 84, 85, 86, 87, 88, 89, 90, 91, 92, 93, 94, 95, 96, 97, 98, 99, 100, 101, 102, 103, 104, 105] (fun x1 _ => [(7, .c (.int .i64 x1))]) (fun x1 _ => [.box [.int .i64 p1.cells, .tree 1 (p1.put.map (eK .i64)), .tree 1 (p1.get.map (eK .i64)), .tree 6 (p1.steps.map TLoop.enc)]]) (fun x1 => ref_plainTree_j1 p2 x1 = some r) ?_ ?_
 ·skip
  refine W_rg [] ?_
  refine W_block ?_
  obtain ⟨o1, hl1, hm1⟩ := bd hm
  refine W_loopM (S := (Int × Int)) (V := Unit) (O := Int ⊕ Bool) [6, 7, 8, 9, 10, 11, 12, 13, 14, 15, 16, 17, 18, 19, 20, 21, 22, 23, 24, 25, 26, 27, 28, 29, 30, 31, 32, 33, 34, 35, 36, 37, 38, 39, 40, 41, 42, 43, 44, 45, 46, 47, 48, 49, 50, 51, 52, 53, 54, 55, 56, 57, 58, 59, 60, 61, 62, 63, 64, 65, 66, 67, 68, 69, 70, 71, 72, 73, 74, 75, 76, 77, 78, 79, 80, 81, 82, 83, 84, 85, 86, 87, 88, 89, 90, 91, 92, 93, 94, 95, 96, 97, 98, 99, 100, 101, 102, 103, 104, 105] (fun (x6, x7) _ => [(7, .c (.int .i64 x6)), (8, .c (.int .i64 x7))]) (fun (x6, x7) _ => [.box [.int .i64 p1.cells, .tree 1 (p1.put.map (eK .i64)), .tree 1 (p1.get.map (eK .i64)), .tree 6 (p1.steps.map TLoop.enc)]]) _ _ () hl1 ?_ ?_
  ·exact ls
  ·rintro ⟨x6, x7⟩ _ r1 hm hr1
   replace hm : ref_plainTree_l1 p1 p2 p3 x6 x7 = some r1 := hm
   refine W_eqm ?_
   unfold ref_plainTree_l1 at hm
   refine W_seq_k fun k1 hk1 => ?_
   refine W_rg [13, 14, 15] ?_
   by_cases h2 : x7 < (p2.length : Int)
   ·rw [if_pos h2] at hm
    refine W_condt rfl (decide_eq_true h2) ?_
    refine W_skip ?_
    refine KThen_n (hk1 _ _ ?_)
    refine W_seq_k fun k2 hk2 => ?_
    refine W_block ?_
    obtain ⟨hg3a, hm⟩ := gd hm
    refine W_rgx (em TPush.enc p2 x7.toNat) [16, 19, 20, 21, 22] ?_
    refine W_regF [10, 11, 23, 24, 25, 26, 27, 28, 29] fun k kp hk hp => ?_
    refine go ?_
    obtain ⟨y8, hc4, hm⟩ := bd hm
    refine RP (fun _ => ref_OpOf_ok ((p2.getD x7.toNat default).k) _ hc4) ?_
    refine RunRest_ops ?_
    refine go ?_
    refine hk _ _ ?_
    clear hk hp k kp
    refine W_rg [30] ?_
    refine W_block ?_
    refine W_rg [33] ?_
    by_cases h5 : ((p2.getD x7.toNat default).op) = 1
    ·rw [if_pos h5] at hm
     refine W_condt rfl (beq_iff_eq.2 h5) ?_
     refine W_rn ?_
     refine KBlock_n ?_
     refine KBlock_n ?_
     refine KThen_n (hk2 _ _ ?_)
     refine W_rn ?_
     refine KLoopM_n ((IntKind.wrap .i64 (x6 + 1)), (IntKind.wrap .i64 (x7 + 1))) () hm ?_
     exact ls
    ·rw [if_neg h5] at hm
     refine W_condf rfl (beq_eq_false_iff_ne.2 h5) ?_
     refine W_rg [32, 37] ?_
     by_cases h6 : ((p2.getD x7.toNat default).op) = 2
     ·rw [if_pos h6] at hm
      refine W_condt rfl (beq_iff_eq.2 h6) ?_
      refine W_seq_k fun k3 hk3 => ?_
      refine W_regF [9, 12, 31, 36, 38, 39, 40, 41] fun k kp hk hp => ?_
      refine go ?_
      obtain ⟨y9, hc7, hm⟩ := bd hm
      refine RP (fun _ => ref_there_ok p1 ((p2.getD x7.toNat default).v) 1 _ hc7) ?_
      refine RunRest_ops ?_
      refine go ?_
      refine hk _ _ ?_
      clear hk hp k kp
      by_cases h8 : y9 = true
      ·rw [if_pos h8] at hm
       refine W_condf rfl (by rw [show y9 = true from (h8)]; rfl) ?_
       refine W_skip ?_
       refine KThen_n (hk3 _ _ ?_)
       refine W_rn ?_
       refine KBlock_n ?_
       refine KBlock_n ?_
       refine KThen_n (hk2 _ _ ?_)
       refine W_rn ?_
       refine KLoopM_n ((IntKind.wrap .i64 (x6 + 1)), (IntKind.wrap .i64 (x7 + 1))) () hm ?_
       exact ls
      ·rw [if_neg h8] at hm
       refine W_condt rfl (by rw [show y9 = false from (Bool.eq_false_iff.2 h8)]; rfl) ?_
       refine W_rg [1, 2, 3, 7, 8, 42] ?_
       have ho9 := out_eq hm hr1
       subst ho9
       replace hm : some false = some r := hm1
       refine W_ret ?_
       refine KThen_r ?_
       refine KBlock_r ?_
       refine KBlock_r ?_
       refine KThen_r ?_
       refine KLoopM_r ?_
       refine KBlock_r ?_
       refine KJoinM_r ?_
       refine KBody_ret [] ?_
       obtain rfl := Option.some.inj hm
       exact en
     ·rw [if_neg h6] at hm
      refine W_condf rfl (beq_eq_false_iff_ne.2 h6) ?_
      refine W_rg [36, 46] ?_
      by_cases h10 : ((p2.getD x7.toNat default).op) = 3
      ·rw [if_pos h10] at hm
       refine W_condt rfl (beq_iff_eq.2 h10) ?_
       refine W_seq_k fun k4 hk4 => ?_
       refine W_regF [9, 12, 31, 45, 47, 48, 49, 50, 51] fun k kp hk hp => ?_
       refine go ?_
       obtain ⟨y10, hc11, hm⟩ := bd hm
       refine RP (fun _ => ref_there_ok p1 ((p2.getD x7.toNat default).v) p3 _ hc11) ?_
       refine RunRest_ops ?_
       refine go ?_
       refine hk _ _ ?_
       clear hk hp k kp
       by_cases h12 : y10 = true
       ·rw [if_pos h12] at hm
        refine W_condf rfl (by rw [show y10 = true from (h12)]; rfl) ?_
        refine W_skip ?_
        refine KThen_n (hk4 _ _ ?_)
        refine W_rn ?_
        refine KBlock_n ?_
        refine KBlock_n ?_
        refine KThen_n (hk2 _ _ ?_)
        refine W_rn ?_
        refine KLoopM_n ((IntKind.wrap .i64 (x6 + 1)), (IntKind.wrap .i64 (x7 + 1))) () hm ?_
        exact ls
       ·rw [if_neg h12] at hm
        refine W_condt rfl (by rw [show y10 = false from (Bool.eq_false_iff.2 h12)]; rfl) ?_
        refine W_rg [1, 2, 3, 7, 8, 52] ?_
        have ho13 := out_eq hm hr1
        subst ho13
        replace hm : some false = some r := hm1
        refine W_ret ?_
        refine KThen_r ?_
        refine KBlock_r ?_
        refine KBlock_r ?_
        refine KThen_r ?_
        refine KLoopM_r ?_
        refine KBlock_r ?_
        refine KJoinM_r ?_
        refine KBody_ret [] ?_
        obtain rfl := Option.some.inj hm
        exact en
      ·rw [if_neg h10] at hm
       refine W_condf rfl (beq_eq_false_iff_ne.2 h10) ?_
       refine W_rg [45, 56] ?_
       by_cases h14 : ((p2.getD x7.toNat default).op) = 4
       ·rw [if_pos h14] at hm
        refine W_condt rfl (beq_iff_eq.2 h14) ?_
        refine W_seq_k fun k5 hk5 => ?_
        refine W_regG [9, 12, 31, 55, 57, 58, 59, 60, 61, 62, 63] fun k kp hk hp => ?_
        refine RunRest_cut 4 ?_
        refine go ?_
        by_cases h15 : ((p2.getD x7.toNat default).n) < (-1000000000000000000)
        ·rw [if_pos h15] at hm
         have h15b : decide (((p2.getD x7.toNat default).n) < (-1000000000000000000)) = true := decide_eq_true h15
         refine RunRest_ops ?_
         refine gox h15b ?_
         refine hk _ _ ?_
         clear hk hp k kp
         refine W_condt rfl rfl ?_
         refine W_rg [1, 2, 3, 7, 8, 64] ?_
         have ho16 := out_eq hm hr1
         subst ho16
         replace hm : some false = some r := hm1
         refine W_ret ?_
         refine KThen_r ?_
         refine KBlock_r ?_
         refine KBlock_r ?_
         refine KThen_r ?_
         refine KLoopM_r ?_
         refine KBlock_r ?_
         refine KJoinM_r ?_
         refine KBody_ret [] ?_
         obtain rfl := Option.some.inj hm
         exact en
        ·rw [if_neg h15] at hm
         have h15b : decide (((p2.getD x7.toNat default).n) < (-1000000000000000000)) = false := decide_eq_false h15
         refine RunRest_ops ?_
         refine gox h15b ?_
         refine hk _ _ ?_
         clear hk hp k kp
         by_cases h17 : ((p2.getD x7.toNat default).n) > 1000000000000000000
         ·rw [if_pos h17] at hm
          refine W_condt rfl (decide_eq_true h17) ?_
          refine W_rg [1, 2, 3, 7, 8, 64] ?_
          have ho18 := out_eq hm hr1
          subst ho18
          replace hm : some false = some r := hm1
          refine W_ret ?_
          refine KThen_r ?_
          refine KBlock_r ?_
          refine KBlock_r ?_
          refine KThen_r ?_
          refine KLoopM_r ?_
          refine KBlock_r ?_
          refine KJoinM_r ?_
          refine KBody_ret [] ?_
          obtain rfl := Option.some.inj hm
          exact en
         ·rw [if_neg h17] at hm
          refine W_condf rfl (decide_eq_false h17) ?_
          refine W_skip ?_
          refine KThen_n (hk5 _ _ ?_)
          refine W_rn ?_
          refine KBlock_n ?_
          refine KBlock_n ?_
          refine KThen_n (hk2 _ _ ?_)
          refine W_rn ?_
          refine KLoopM_n ((IntKind.wrap .i64 (x6 + 1)), (IntKind.wrap .i64 (x7 + 1))) () hm ?_
          exact ls
       ·rw [if_neg h14] at hm
        refine W_condf rfl (beq_eq_false_iff_ne.2 h14) ?_
        refine W_rg [55, 68] ?_
        by_cases h19 : ((p2.getD x7.toNat default).op) = 5
        ·rw [if_pos h19] at hm
         refine W_condt rfl (beq_iff_eq.2 h19) ?_
         by_cases h20 : ¬ y8.2.2 = 1
         ·rw [if_pos h20] at hm
          have h20b : (y8.2.2 != 1) = true := bne_iff_ne.2 h20
          refine W_rgx h20b [9, 12, 31, 67, 69, 70, 71, 72, 73] ?_
          refine W_condt rfl rfl ?_
          refine W_rg [1, 2, 3, 7, 8, 74] ?_
          have ho21 := out_eq hm hr1
          subst ho21
          replace hm : some false = some r := hm1
          refine W_ret ?_
          refine KBlock_r ?_
          refine KBlock_r ?_
          refine KThen_r ?_
          refine KLoopM_r ?_
          refine KBlock_r ?_
          refine KJoinM_r ?_
          refine KBody_ret [] ?_
          obtain rfl := Option.some.inj hm
          exact en
         ·rw [if_neg h20] at hm
          have h20b : (y8.2.2 != 1) = false := bne_eq_false_iff_eq.2 (Decidable.not_not.1 h20)
          refine W_rgx h20b [9, 12, 31, 67, 69, 70, 71, 72, 73] ?_
          by_cases h22 : x6 < 1
          ·rw [if_pos h22] at hm
           refine W_condt rfl (decide_eq_true h22) ?_
           refine W_rg [1, 2, 3, 7, 8, 74] ?_
           have ho23 := out_eq hm hr1
           subst ho23
           replace hm : some false = some r := hm1
           refine W_ret ?_
           refine KBlock_r ?_
           refine KBlock_r ?_
           refine KThen_r ?_
           refine KLoopM_r ?_
           refine KBlock_r ?_
           refine KJoinM_r ?_
           refine KBody_ret [] ?_
           obtain rfl := Option.some.inj hm
           exact en
          ·rw [if_neg h22] at hm
           refine W_condf rfl (decide_eq_false h22) ?_
           refine W_skip ?_
           refine KBlock_n ?_
           refine KBlock_n ?_
           refine KThen_n (hk2 _ _ ?_)
           refine W_rn ?_
           refine KLoopM_n (x6, (IntKind.wrap .i64 (x7 + 1))) () hm ?_
           exact ls
        ·rw [if_neg h19] at hm
         refine W_condf rfl (beq_eq_false_iff_ne.2 h19) ?_
         refine W_rg [67, 76] ?_
         by_cases h24 : ((p2.getD x7.toNat default).op) = 6
         ·rw [if_pos h24] at hm
          refine W_condt rfl (beq_iff_eq.2 h24) ?_
          refine W_seq_k fun k6 hk6 => ?_
          by_cases h25 : ¬ y8.2.2 = 2
          ·rw [if_pos h25] at hm
           have h25b : (y8.2.2 != 2) = true := bne_iff_ne.2 h25
           refine W_rgx h25b [9, 12, 31, 75, 77, 78, 79, 80, 81] ?_
           refine W_condt rfl rfl ?_
           refine W_rg [1, 2, 3, 7, 8, 82] ?_
           have ho26 := out_eq hm hr1
           subst ho26
           replace hm : some false = some r := hm1
           refine W_ret ?_
           refine KThen_r ?_
           refine KBlock_r ?_
           refine KBlock_r ?_
           refine KThen_r ?_
           refine KLoopM_r ?_
           refine KBlock_r ?_
           refine KJoinM_r ?_
           refine KBody_ret [] ?_
           obtain rfl := Option.some.inj hm
           exact en
          ·rw [if_neg h25] at hm
           have h25b : (y8.2.2 != 2) = false := bne_eq_false_iff_eq.2 (Decidable.not_not.1 h25)
           refine W_rgx h25b [9, 12, 31, 75, 77, 78, 79, 80, 81] ?_
           by_cases h27 : x6 < 2
           ·rw [if_pos h27] at hm
            refine W_condt rfl (decide_eq_true h27) ?_
            refine W_rg [1, 2, 3, 7, 8, 82] ?_
            have ho28 := out_eq hm hr1
            subst ho28
            replace hm : some false = some r := hm1
            refine W_ret ?_
            refine KThen_r ?_
            refine KBlock_r ?_
            refine KBlock_r ?_
            refine KThen_r ?_
            refine KLoopM_r ?_
            refine KBlock_r ?_
            refine KJoinM_r ?_
            refine KBody_ret [] ?_
            obtain rfl := Option.some.inj hm
            exact en
           ·rw [if_neg h27] at hm
            refine W_condf rfl (decide_eq_false h27) ?_
            refine W_skip ?_
            refine KThen_n (hk6 _ _ ?_)
            refine W_rn ?_
            refine KBlock_n ?_
            refine KBlock_n ?_
            refine KThen_n (hk2 _ _ ?_)
            refine W_rn ?_
            refine KLoopM_n ((IntKind.wrap .i64 (x6 - 1)), (IntKind.wrap .i64 (x7 + 1))) () hm ?_
            exact ls
         ·rw [if_neg h24] at hm
          refine W_condf rfl (beq_eq_false_iff_ne.2 h24) ?_
          refine W_rg [12, 75, 86] ?_
          by_cases h29 : ((p2.getD x7.toNat default).op) = 7
          ·rw [if_pos h29] at hm
           refine W_condt rfl (beq_iff_eq.2 h29) ?_
           refine W_seq_k fun k7 hk7 => ?_
           refine W_rg [9, 31, 85, 87] ?_
           by_cases h30 : x6 < 3
           ·rw [if_pos h30] at hm
            refine W_condt rfl (decide_eq_true h30) ?_
            refine W_rg [1, 2, 3, 7, 8, 88] ?_
            have ho31 := out_eq hm hr1
            subst ho31
            replace hm : some false = some r := hm1
            refine W_ret ?_
            refine KThen_r ?_
            refine KBlock_r ?_
            refine KBlock_r ?_
            refine KThen_r ?_
            refine KLoopM_r ?_
            refine KBlock_r ?_
            refine KJoinM_r ?_
            refine KBody_ret [] ?_
            obtain rfl := Option.some.inj hm
            exact en
           ·rw [if_neg h30] at hm
            refine W_condf rfl (decide_eq_false h30) ?_
            refine W_skip ?_
            refine KThen_n (hk7 _ _ ?_)
            refine W_rn ?_
            refine KBlock_n ?_
            refine KBlock_n ?_
            refine KThen_n (hk2 _ _ ?_)
            refine W_rn ?_
            refine KLoopM_n ((IntKind.wrap .i64 (x6 - 2)), (IntKind.wrap .i64 (x7 + 1))) () hm ?_
            exact ls
          ·rw [if_neg h29] at hm
           refine W_condf rfl (beq_eq_false_iff_ne.2 h29) ?_
           refine W_rg [31, 85, 92] ?_
           by_cases h32 : ((p2.getD x7.toNat default).op) = 8
           ·rw [if_pos h32] at hm
            refine W_condt rfl (beq_iff_eq.2 h32) ?_
            refine W_seq_k fun k8 hk8 => ?_
            refine W_regF [9, 91, 93, 94, 95, 96, 97, 98, 99, 100, 101, 102] fun k kp hk hp => ?_
            refine go ?_
            obtain ⟨y11, hc33, hm⟩ := bd hm
            refine RP (fun _ => ref_there_ok p1 ((p2.getD x7.toNat default).v) ((p2.getD x7.toNat default).n) _ hc33) ?_
            by_cases h34 : y11 = true
            ·rw [if_pos h34] at hm
             have h34b : y11 = true := h34
             have h34c : (!y11) = false := by rw [h34b]; rfl
             refine RunRest_ops ?_
             refine gox (a2 h34b h34c) ?_
             refine hk _ _ ?_
             clear hk hp k kp
             by_cases h35 : x6 < 2
             ·rw [if_pos h35] at hm
              refine W_condt rfl (decide_eq_true h35) ?_
              refine W_rg [1, 2, 3, 7, 8, 103] ?_
              have ho36 := out_eq hm hr1
              subst ho36
              replace hm : some false = some r := hm1
              refine W_ret ?_
              refine KThen_r ?_
              refine KBlock_r ?_
              refine KBlock_r ?_
              refine KThen_r ?_
              refine KLoopM_r ?_
              refine KBlock_r ?_
              refine KJoinM_r ?_
              refine KBody_ret [] ?_
              obtain rfl := Option.some.inj hm
              exact en
             ·rw [if_neg h35] at hm
              refine W_condf rfl (decide_eq_false h35) ?_
              refine W_skip ?_
              refine KThen_n (hk8 _ _ ?_)
              refine W_rn ?_
              refine KBlock_n ?_
              refine KBlock_n ?_
              refine KThen_n (hk2 _ _ ?_)
              refine W_rn ?_
              refine KLoopM_n ((IntKind.wrap .i64 (x6 - 1)), (IntKind.wrap .i64 (x7 + 1))) () hm ?_
              first | (simp only [bS, bX, reduceIte, ↓reduceIte, reduceCtorEq, Int.reduceToNat, Nat.reduceDiv, Nat.reduceMod, Nat.reduceLT, Nat.reduceLeDiff, Nat.reduceAdd, Nat.reduceSub, Nat.reduceMul, Nat.reduceEqDiff, Nat.reduceBEq, Nat.reduceBNe, Nat.reduceGT] <;> first | done | (and_intros <;> first | rfl | (simp; done) | omega | (simp [lit, bX, eK, eB, eS, eL]; done) | (simp only [len_lit, List.length_cons, List.length_nil, List.length_append, List.length_set, List.length_replicate, List.length_map, List.length_take, List.length_drop]; omega))) | (simp only [bS, bX, reduceIte, ↓reduceIte, reduceCtorEq, Int.reduceToNat, Nat.reduceDiv, Nat.reduceMod, Nat.reduceLT, Nat.reduceLeDiff, Nat.reduceAdd, Nat.reduceSub, Nat.reduceMul, Nat.reduceEqDiff, Nat.reduceBEq, Nat.reduceBNe, Nat.reduceGT, *] <;> first | done | (and_intros <;> first | rfl | (simp; done) | omega | (simp [lit, bX, eK, eB, eS, eL]; done) | (simp only [len_lit, List.length_cons, List.length_nil, List.length_append, List.length_set, List.length_replicate, List.length_map, List.length_take, List.length_drop]; omega)))
            ·rw [if_neg h34] at hm
             have h34b : y11 = false := Bool.eq_false_iff.2 h34
             have h34c : (!y11) = true := by rw [h34b]; rfl
             refine RunRest_ops ?_
             refine gox (a2 h34b h34c) ?_
             refine hk _ _ ?_
             clear hk hp k kp
             refine W_condt rfl rfl ?_
             refine W_rg [1, 2, 3, 7, 8, 103] ?_
             have ho37 := out_eq hm hr1
             subst ho37
             replace hm : some false = some r := hm1
             refine W_ret ?_
             refine KThen_r ?_
             refine KBlock_r ?_
             refine KBlock_r ?_
             refine KThen_r ?_
             refine KLoopM_r ?_
             refine KBlock_r ?_
             refine KJoinM_r ?_
             refine KBody_ret [] ?_
             obtain rfl := Option.some.inj hm
             exact en
           ·rw [if_neg h32] at hm
            refine W_condf rfl (beq_eq_false_iff_ne.2 h32) ?_
            refine W_rg [1, 2, 3, 7, 8, 9, 91] ?_
            have ho38 := out_eq hm hr1
            subst ho38
            replace hm : some false = some r := hm1
            refine W_ret ?_
            refine KBlock_r ?_
            refine KBlock_r ?_
            refine KThen_r ?_
            refine KLoopM_r ?_
            refine KBlock_r ?_
            refine KJoinM_r ?_
            refine KBody_ret [] ?_
            obtain rfl := Option.some.inj hm
            exact en
   ·rw [if_neg h2] at hm
    refine W_condf rfl (decide_eq_false h2) ?_
    refine W_exit ?_
    have ho39 := out_eq hm hr1
    subst ho39
    replace hm : ref_plainTree_j1 p2 x6 = some r := hm1
    refine KThen_x ?_
    refine KLoopM_x ?_
    refine KBlock_hit ?_
    refine KJoinM_n x6 () hm ?_
    exact ls
 ·rintro x1 _ hm
  replace hm : ref_plainTree_j1 p2 x1 = some r := hm
  refine W_eqm ?_
  unfold ref_plainTree_j1 at hm
  by_cases h1 : x1 = 1
  ·rw [if_pos h1] at hm
   have h1b : (x1 == 1) = true := beq_iff_eq.2 h1
   refine W_rgx h1b [1, 7, 106, 107, 108, 109, 110, 111, 112] ?_
   refine W_ret ?_
   refine KBody_ret [] ?_
   obtain rfl := Option.some.inj hm
   exact en
  ·rw [if_neg h1] at hm
   have h1b : (x1 == 1) = false := beq_eq_false_iff_ne.2 h1
   refine W_rgx h1b [1, 7, 106, 107, 108, 109, 110, 111, 112] ?_
   refine W_ret ?_
   refine KBody_ret [] ?_
   obtain rfl := Option.some.inj hm
   exact en
end Pam

/- the walk of ref_loopOK, printed by a program of ours -/
namespace Pam
open Go Go.Proofs
set_option maxRecDepth 100000 in
set_option maxHeartbeats 8000000 in
theorem ref_loopOK_ok (p1 : TLoops) (p2 : TLoop) (r : Bool) (hm : ref_loopOK p1 p2 = some r) : SpecF Try.prog 77 [.a [.int .i64 p1.cells, .tree 1 (p1.put.map (eK .i64)), .tree 1 (p1.get.map (eK .i64)), .tree 6 (p1.steps.map TLoop.enc)], .a [.int .i64 p2.op, .int .i64 p2.k, .int .i64 p2.n, .int .i64 p2.to, .tree 4 (p2.f.map TPush.enc), .tree 4 (p2.e.map TPush.enc)]] (.c (.bool r)) := by
 refine Spec_ofD 81 [.tmp 4] Try.func77 rfl rfl rfl (by kernel_rfl) (by simp) ?_
 refine W_eqf ?_
 unfold ref_loopOK at hm
 refine W_rg [0, 1, 4] ?_
 refine W_seq_k fun k1 hk1 => ?_
 refine W_rg [9, 10] ?_
 by_cases h1 : p2.op = 1
 ·rw [if_pos h1] at hm
  refine W_condt rfl (beq_iff_eq.2 h1) ?_
  refine W_regF [2, 3, 11, 12, 13, 14, 15, 16, 17, 18, 19, 20, 21] fun k kp hk hp => ?_
  refine go ?_
  obtain ⟨y1, hc2, hm⟩ := bd hm
  refine RP (fun _ => ref_there_ok p1 p2.to 1 _ hc2) ?_
  by_cases h3 : y1 = true
  ·rw [if_pos h3] at hm
   have h3b : y1 = true := h3
   refine RunRest_ops ?_
   refine gox h3b ?_
   obtain ⟨y2, hc4, hm⟩ := bd hm
   refine RP (fun _ => ref_plainTree_ok p1 p2.e 1 _ hc4) ?_
   refine RunRest_ops ?_
   refine gox h3b ?_
   refine hk _ _ ?_
   clear hk hp k kp
   refine W_ret ?_
   refine KThen_r ?_
   refine KBody_ret [] ?_
   obtain rfl := Option.some.inj hm
   exact en
  ·rw [if_neg h3] at hm
   have h3b : y1 = false := Bool.eq_false_iff.2 h3
   refine RunRest_ops ?_
   refine gox h3b ?_
   refine hk _ _ ?_
   clear hk hp k kp
   refine W_ret ?_
   refine KThen_r ?_
   refine KBody_ret [] ?_
   obtain rfl := Option.some.inj hm
   exact en
 ·rw [if_neg h1] at hm
  refine W_condf rfl (beq_eq_false_iff_ne.2 h1) ?_
  refine W_skip ?_
  refine KThen_n (hk1 _ _ ?_)
  refine W_seq_k fun k2 hk2 => ?_
  refine W_regG [11, 22, 23, 24, 25, 26, 27, 28, 29, 30, 31, 32, 33, 34, 35, 36, 37, 38, 39, 40, 41, 42, 43, 44, 45, 46, 47] fun k kp hk hp => ?_
  refine RunRest_cut 4 ?_
  refine go ?_
  by_cases h5 : p2.op < 1
  ·rw [if_pos h5] at hm
   have h5b : decide (p2.op < 1) = true := decide_eq_true h5
   refine RunRest_ops ?_
   refine gox h5b ?_
   refine hk _ _ ?_
   clear hk hp k kp
   refine W_condt rfl rfl ?_
   refine W_rg [2, 3, 48] ?_
   refine W_ret ?_
   refine KThen_r ?_
   refine KBody_ret [] ?_
   obtain rfl := Option.some.inj hm
   exact en
  ·rw [if_neg h5] at hm
   have h5b : decide (p2.op < 1) = false := decide_eq_false h5
   refine RunRest_cut 5 ?_
   refine gox h5b ?_
   by_cases h6 : p2.op > 4
   ·rw [if_pos h6] at hm
    have h6b : decide (p2.op > 4) = true := decide_eq_true h6
    refine RunRest_ops ?_
    refine gox (a2 h5b h6b) ?_
    refine hk _ _ ?_
    clear hk hp k kp
    refine W_condt rfl rfl ?_
    refine W_rg [2, 3, 48] ?_
    refine W_ret ?_
    refine KThen_r ?_
    refine KBody_ret [] ?_
    obtain rfl := Option.some.inj hm
    exact en
   ·rw [if_neg h6] at hm
    have h6b : decide (p2.op > 4) = false := decide_eq_false h6
    refine RunRest_cut 5 ?_
    refine gox (a2 h5b h6b) ?_
    by_cases h7 : p2.n < 1
    ·rw [if_pos h7] at hm
     have h7b : decide (p2.n < 1) = true := decide_eq_true h7
     refine RunRest_ops ?_
     refine gox (a2 h5b (a2 h6b h7b)) ?_
     refine hk _ _ ?_
     clear hk hp k kp
     refine W_condt rfl rfl ?_
     refine W_rg [2, 3, 48] ?_
     refine W_ret ?_
     refine KThen_r ?_
     refine KBody_ret [] ?_
     obtain rfl := Option.some.inj hm
     exact en
    ·rw [if_neg h7] at hm
     have h7b : decide (p2.n < 1) = false := decide_eq_false h7
     refine RunRest_cut 5 ?_
     refine gox (a2 h5b (a2 h6b h7b)) ?_
     by_cases h8 : p2.n > 300
     ·rw [if_pos h8] at hm
      have h8b : decide (p2.n > 300) = true := decide_eq_true h8
      refine RunRest_ops ?_
      refine gox (a2 h5b (a2 h6b (a2 h7b h8b))) ?_
      refine hk _ _ ?_
      clear hk hp k kp
      refine W_condt rfl rfl ?_
      refine W_rg [2, 3, 48] ?_
      refine W_ret ?_
      refine KThen_r ?_
      refine KBody_ret [] ?_
      obtain rfl := Option.some.inj hm
      exact en
     ·rw [if_neg h8] at hm
      have h8b : decide (p2.n > 300) = false := decide_eq_false h8
      refine RunRest_ops ?_
      refine gox (a2 h5b (a2 h6b (a2 h7b h8b))) ?_
      obtain ⟨y3, hc9, hm⟩ := bd hm
      refine RP (fun _ => ref_plainTree_ok p1 p2.e p2.n _ hc9) ?_
      refine RunRest_ops ?_
      refine gox (a2 h5b (a2 h6b (a2 h7b h8b))) ?_
      refine hk _ _ ?_
      clear hk hp k kp
      by_cases h10 : y3 = true
      ·rw [if_pos h10] at hm
       refine W_condf rfl (by rw [show y3 = true from (h10)]; rfl) ?_
       refine W_skip ?_
       refine KThen_n (hk2 _ _ ?_)
       refine W_rg [48, 49, 50] ?_
       refine W_joinM (S := Int) (V := Unit) [5, 51, 52, 53] (fun x4 _ => [(5, .c (.int .i64 x4))]) (fun x4 _ => [.box [.int .i64 p1.cells, .tree 1 (p1.put.map (eK .i64)), .tree 1 (p1.get.map (eK .i64)), .tree 6 (p1.steps.map TLoop.enc)], .box [.int .i64 p2.op, .int .i64 p2.k, .int .i64 p2.n, .int .i64 p2.to, .tree 4 (p2.f.map TPush.enc), .tree 4 (p2.e.map TPush.enc)]]) (fun x4 => ref_loopOK_j1 p1 p2 x4 = some r) ?_ ?_
       ·skip
        refine W_rg [51, 52] ?_
        by_cases h17 : p2.op = 3
        ·rw [if_pos h17] at hm
         refine W_condt rfl (beq_iff_eq.2 h17) ?_
         refine W_rn ?_
         refine KJoinM_n 1 () hm ?_
         exact ls
        ·rw [if_neg h17] at hm
         refine W_condf rfl (beq_eq_false_iff_ne.2 h17) ?_
         refine W_skip ?_
         refine KJoinM_n p2.n () hm ?_
         exact ls
       ·rintro x4 _ hm
        replace hm : ref_loopOK_j1 p1 p2 x4 = some r := hm
        refine W_eqm ?_
        unfold ref_loopOK_j1 at hm
        refine W_regF [6, 7, 54, 55, 56, 57, 58, 59, 60] fun k kp hk hp => ?_
        refine go ?_
        obtain ⟨y5, hc11, hm⟩ := bd hm
        refine RP (fun _ => ref_OpOf_ok p2.k _ hc11) ?_
        refine RunRest_ops ?_
        refine go ?_
        refine hk _ _ ?_
        clear hk hp k kp
        refine W_regF [2, 3, 5, 8, 61, 62, 63, 64, 65, 66, 67, 68, 69, 70, 71, 72, 73, 74, 75, 76, 77, 78, 79, 80] fun k kp hk hp => ?_
        refine go ?_
        obtain ⟨y6, hc12, hm⟩ := bd hm
        refine RP (fun _ => ref_there_ok p1 p2.to x4 _ hc12) ?_
        by_cases h13 : y6 = true
        ·rw [if_pos h13] at hm
         have h13b : y6 = true := h13
         refine RunRest_cut 5 ?_
         refine gox h13b ?_
         by_cases h14 : p2.op = 2
         ·rw [if_pos h14] at hm
          have h14b : (p2.op == 2) = true := beq_iff_eq.2 h14
          refine RunRest_ops ?_
          refine gox (a2 h13b h14b) ?_
          refine hk _ _ ?_
          clear hk hp k kp
          refine W_ret ?_
          refine KBody_ret [] ?_
          obtain rfl := Option.some.inj hm
          exact en
         ·rw [if_neg h14] at hm
          have h14b : (p2.op == 2) = false := beq_eq_false_iff_ne.2 h14
          by_cases h15 : y5.2.2 = 2
          ·rw [if_pos h15] at hm
           have h15b : (y5.2.2 == 2) = true := beq_iff_eq.2 h15
           refine RunRest_ops ?_
           refine gox (a2 h13b (a2 h14b h15b)) ?_
           obtain ⟨y7, hc16, hm⟩ := bd hm
           refine RP (fun _ => ref_plainTree_ok p1 p2.f 1 _ hc16) ?_
           refine RunRest_ops ?_
           refine gox (a2 h13b (a2 h14b h15b)) ?_
           refine hk _ _ ?_
           clear hk hp k kp
           refine W_ret ?_
           refine KBody_ret [] ?_
           obtain rfl := Option.some.inj hm
           exact en
          ·rw [if_neg h15] at hm
           have h15b : (y5.2.2 == 2) = false := beq_eq_false_iff_ne.2 h15
           refine RunRest_ops ?_
           refine gox (a2 h13b (a2 h14b h15b)) ?_
           refine hk _ _ ?_
           clear hk hp k kp
           refine W_ret ?_
           refine KBody_ret [] ?_
           obtain rfl := Option.some.inj hm
           exact en
        ·rw [if_neg h13] at hm
         have h13b : y6 = false := Bool.eq_false_iff.2 h13
         refine RunRest_ops ?_
         refine gox h13b ?_
         refine hk _ _ ?_
         clear hk hp k kp
         refine W_ret ?_
         refine KBody_ret [] ?_
         obtain rfl := Option.some.inj hm
         exact en
      ·rw [if_neg h10] at hm
       refine W_condt rfl (by rw [show y3 = false from (Bool.eq_false_iff.2 h10)]; rfl) ?_
       refine W_rg [2, 3, 48] ?_
       refine W_ret ?_
       refine KThen_r ?_
       refine KBody_ret [] ?_
       obtain rfl := Option.some.inj hm
       exact en
end Pam

/- the walk of ref_LoopsFault, printed by a program of ours -/
namespace Pam
open Go Go.Proofs
set_option maxRecDepth 100000 in
set_option maxHeartbeats 8000000 in
theorem ref_LoopsFault_ok (p1 : TLoops) (r : TFault) (hm : ref_LoopsFault p1 = some r) : SpecF Try.prog 24 [.a [.int .i64 p1.cells, .tree 1 (p1.put.map (eK .i64)), .tree 1 (p1.get.map (eK .i64)), .tree 6 (p1.steps.map TLoop.enc)]] (.a [.int .i64 ((r).code), .int .i64 ((r).at_)]) := by
 refine Spec_ofD 82 [.cell 2 33] Try.func24 rfl rfl rfl (by kernel_rfl) (by simp) ?_
 refine W_eqf ?_
 unfold ref_LoopsFault at hm
 refine W_rg [0] ?_
 refine W_seq_k fun k1 hk1 => ?_
 refine W_regG [6, 7, 8, 9, 10, 11, 12] fun k kp hk hp => ?_
 refine RunRest_cut 4 ?_
 refine go ?_
 by_cases h1 : p1.cells < 1
 ·rw [if_pos h1] at hm
  have h1b : decide (p1.cells < 1) = true := decide_eq_true h1
  refine RunRest_ops ?_
  refine gox h1b ?_
  refine hk _ _ ?_
  clear hk hp k kp
  refine W_condt rfl rfl ?_
  refine W_regF [1, 13, 14] fun k kp hk hp => ?_
  refine go ?_
  obtain ⟨y1, hc2, hm⟩ := bd hm
  refine RP (fun _ => ref_F_ok 13 (-1) _ hc2) ?_
  refine RunRest_ops ?_
  refine go ?_
  refine hk _ _ ?_
  clear hk hp k kp
  refine W_ret ?_
  refine KThen_r ?_
  refine KBody_ret [] ?_
  obtain rfl := Option.some.inj hm
  exact en
 ·rw [if_neg h1] at hm
  have h1b : decide (p1.cells < 1) = false := decide_eq_false h1
  refine RunRest_ops ?_
  refine gox h1b ?_
  refine hk _ _ ?_
  clear hk hp k kp
  by_cases h3 : p1.cells > 6000
  ·rw [if_pos h3] at hm
   refine W_condt rfl (decide_eq_true h3) ?_
   refine W_regF [1, 13, 14] fun k kp hk hp => ?_
   refine go ?_
   obtain ⟨y2, hc4, hm⟩ := bd hm
   refine RP (fun _ => ref_F_ok 13 (-1) _ hc4) ?_
   refine RunRest_ops ?_
   refine go ?_
   refine hk _ _ ?_
   clear hk hp k kp
   refine W_ret ?_
   refine KThen_r ?_
   refine KBody_ret [] ?_
   obtain rfl := Option.some.inj hm
   exact en
  ·rw [if_neg h3] at hm
   refine W_condf rfl (decide_eq_false h3) ?_
   refine W_skip ?_
   refine KThen_n (hk1 _ _ ?_)
   refine W_seq_k fun k2 hk2 => ?_
   refine W_regG [13, 15, 16, 17, 18, 19, 20, 21, 22, 23, 24, 25, 26, 27, 28, 29] fun k kp hk hp => ?_
   refine RunRest_cut 5 ?_
   refine go ?_
   by_cases h5 : (p1.put.length : Int) > 6000
   ·rw [if_pos h5] at hm
    have h5b : decide ((p1.put.length : Int) > 6000) = true := decide_eq_true h5
    refine RunRest_ops ?_
    refine gox h5b ?_
    refine hk _ _ ?_
    clear hk hp k kp
    refine W_condt rfl rfl ?_
    refine W_regF [1, 30, 31] fun k kp hk hp => ?_
    refine go ?_
    obtain ⟨y3, hc6, hm⟩ := bd hm
    refine RP (fun _ => ref_F_ok 7 (-1) _ hc6) ?_
    refine RunRest_ops ?_
    refine go ?_
    refine hk _ _ ?_
    clear hk hp k kp
    refine W_ret ?_
    refine KThen_r ?_
    refine KBody_ret [] ?_
    obtain rfl := Option.some.inj hm
    exact en
   ·rw [if_neg h5] at hm
    have h5b : decide ((p1.put.length : Int) > 6000) = false := decide_eq_false h5
    refine RunRest_cut 6 ?_
    refine gox h5b ?_
    by_cases h7 : (p1.get.length : Int) > 120000
    ·rw [if_pos h7] at hm
     have h7b : decide ((p1.get.length : Int) > 120000) = true := decide_eq_true h7
     refine RunRest_ops ?_
     refine gox (a2 h5b h7b) ?_
     refine hk _ _ ?_
     clear hk hp k kp
     refine W_condt rfl rfl ?_
     refine W_regF [1, 30, 31] fun k kp hk hp => ?_
     refine go ?_
     obtain ⟨y4, hc8, hm⟩ := bd hm
     refine RP (fun _ => ref_F_ok 7 (-1) _ hc8) ?_
     refine RunRest_ops ?_
     refine go ?_
     refine hk _ _ ?_
     clear hk hp k kp
     refine W_ret ?_
     refine KThen_r ?_
     refine KBody_ret [] ?_
     obtain rfl := Option.some.inj hm
     exact en
    ·rw [if_neg h7] at hm
     have h7b : decide ((p1.get.length : Int) > 120000) = false := decide_eq_false h7
     refine RunRest_ops ?_
     refine gox (a2 h5b h7b) ?_
     refine hk _ _ ?_
     clear hk hp k kp
     by_cases h9 : (p1.steps.length : Int) > 1200
     ·rw [if_pos h9] at hm
      refine W_condt rfl (decide_eq_true h9) ?_
      refine W_regF [1, 30, 31] fun k kp hk hp => ?_
      refine go ?_
      obtain ⟨y5, hc10, hm⟩ := bd hm
      refine RP (fun _ => ref_F_ok 7 (-1) _ hc10) ?_
      refine RunRest_ops ?_
      refine go ?_
      refine hk _ _ ?_
      clear hk hp k kp
      refine W_ret ?_
      refine KThen_r ?_
      refine KBody_ret [] ?_
      obtain rfl := Option.some.inj hm
      exact en
     ·rw [if_neg h9] at hm
      refine W_condf rfl (decide_eq_false h9) ?_
      refine W_skip ?_
      refine KThen_n (hk2 _ _ ?_)
      refine W_joinM (S := Unit) (V := Unit) [3, 30, 32, 33, 34, 35, 36, 37, 38, 39, 40, 41, 42, 43, 44, 45, 46, 47] (fun _ _ => []) (fun _ _ => [.box [.int .i64 p1.cells, .tree 1 (p1.put.map (eK .i64)), .tree 1 (p1.get.map (eK .i64)), .tree 6 (p1.steps.map TLoop.enc)], .box [.int .i64 0, .int .i64 0]]) (fun _ => ref_LoopsFault_j1 p1 = some r) ?_ ?_
      ·skip
       refine W_rg [30] ?_
       refine W_block ?_
       obtain ⟨o3, hl3, hm3⟩ := bd hm
       refine W_loopM (S := Int) (V := Unit) (O := Unit ⊕ TFault) [3, 32, 33, 34, 35, 36, 37, 38, 39, 40, 41, 42, 43, 44, 45, 46, 47] (fun x20 _ => [(3, .c (.int .i64 x20))]) (fun x20 _ => [.box [.int .i64 p1.cells, .tree 1 (p1.put.map (eK .i64)), .tree 1 (p1.get.map (eK .i64)), .tree 6 (p1.steps.map TLoop.enc)], .box [.int .i64 0, .int .i64 0]]) _ _ () hl3 ?_ ?_
       ·exact ls
       ·rintro x20 _ r3 hm hr3
        replace hm : ref_LoopsFault_l3 p1 x20 = some r3 := hm
        refine W_eqm ?_
        unfold ref_LoopsFault_l3 at hm
        refine W_seq_k fun k7 hk7 => ?_
        refine W_rg [32, 33, 34, 35] ?_
        by_cases h25 : x20 < (p1.put.length : Int)
        ·rw [if_pos h25] at hm
         refine W_condt rfl (decide_eq_true h25) ?_
         refine W_skip ?_
         refine KThen_n (hk7 _ _ ?_)
         refine W_seq_k fun k8 hk8 => ?_
         refine W_block ?_
         obtain ⟨hg26a, hm⟩ := gd hm
         refine W_anyF [36, 39, 40, 41, 42, 43, 44, 45] (by kernel_rfl) [0, 0, 2, 0, 14, 30, 63, 127] [false, false, false, false, false, false, true, true] (by kernel_rfl) fun k hk => ?_
         refine gax (em (eK .i64) p1.put x20.toNat) ?_
         obtain ⟨y21, hc27, hm⟩ := bd hm
         refine AP (fun _ => ref_there_ok p1 (p1.put.getD x20.toNat default) 1 _ hc27) ?_
         refine ga ?_
         refine hk _ _ ?_
         clear hk k
         by_cases h28 : y21 = true
         ·rw [if_pos h28] at hm
          refine W_condf rfl (by rw [show y21 = true from (h28)]; rfl) ?_
          refine W_skip ?_
          refine KBlock_n ?_
          refine KThen_n (hk8 _ _ ?_)
          refine W_rn ?_
          refine KLoopM_n (IntKind.wrap .i64 (x20 + 1)) () hm ?_
          exact ls
         ·rw [if_neg h28] at hm
          refine W_condt rfl (by rw [show y21 = false from (Bool.eq_false_iff.2 h28)]; rfl) ?_
          refine W_regF [1, 3, 46, 47] fun k kp hk hp => ?_
          refine go ?_
          obtain ⟨y22, hc29, hm⟩ := bd hm
          refine RP (fun _ => ref_F_ok 16 (-1) _ hc29) ?_
          refine RunRest_ops ?_
          refine go ?_
          refine hk _ _ ?_
          clear hk hp k kp
          have ho30 := out_eq hm hr3
          subst ho30
          replace hm : some (y22) = some r := hm3
          refine W_ret ?_
          refine KBlock_r ?_
          refine KThen_r ?_
          refine KLoopM_r ?_
          refine KBlock_r ?_
          refine KJoinM_r ?_
          refine KBody_ret [] ?_
          obtain rfl := Option.some.inj hm
          exact en
        ·rw [if_neg h25] at hm
         refine W_condf rfl (decide_eq_false h25) ?_
         refine W_exit ?_
         have ho31 := out_eq hm hr3
         subst ho31
         replace hm : ref_LoopsFault_j1 p1 = some r := hm3
         refine KThen_x ?_
         refine KLoopM_x ?_
         refine KBlock_hit ?_
         refine KJoinM_n () () hm ?_
         exact ls
      ·rintro _ _ hm
       replace hm : ref_LoopsFault_j1 p1 = some r := hm
       refine W_eqm ?_
       unfold ref_LoopsFault_j1 at hm
       refine W_joinM (S := Unit) (V := Unit) [4, 48, 49, 50, 51, 52, 53, 54, 55, 56, 57, 58, 59, 60, 61, 62, 63] (fun _ _ => []) (fun _ _ => [.box [.int .i64 p1.cells, .tree 1 (p1.put.map (eK .i64)), .tree 1 (p1.get.map (eK .i64)), .tree 6 (p1.steps.map TLoop.enc)], .box [.int .i64 0, .int .i64 0]]) (fun _ => ref_LoopsFault_j2 p1 = some r) ?_ ?_
       ·skip
        refine W_rg [] ?_
        refine W_block ?_
        obtain ⟨o2, hl2, hm2⟩ := bd hm
        refine W_loopM (S := Int) (V := Unit) (O := Unit ⊕ TFault) [4, 48, 49, 50, 51, 52, 53, 54, 55, 56, 57, 58, 59, 60, 61, 62, 63] (fun x14 _ => [(4, .c (.int .i64 x14))]) (fun x14 _ => [.box [.int .i64 p1.cells, .tree 1 (p1.put.map (eK .i64)), .tree 1 (p1.get.map (eK .i64)), .tree 6 (p1.steps.map TLoop.enc)], .box [.int .i64 0, .int .i64 0]]) _ _ () hl2 ?_ ?_
        ·exact ls
        ·rintro x14 _ r2 hm hr2
         replace hm : ref_LoopsFault_l2 p1 x14 = some r2 := hm
         refine W_eqm ?_
         unfold ref_LoopsFault_l2 at hm
         refine W_seq_k fun k5 hk5 => ?_
         refine W_rg [48, 49, 50, 51] ?_
         by_cases h18 : x14 < (p1.get.length : Int)
         ·rw [if_pos h18] at hm
          refine W_condt rfl (decide_eq_true h18) ?_
          refine W_skip ?_
          refine KThen_n (hk5 _ _ ?_)
          refine W_seq_k fun k6 hk6 => ?_
          refine W_block ?_
          obtain ⟨hg19a, hm⟩ := gd hm
          refine W_anyF [52, 55, 56, 57, 58, 59, 60, 61] (by kernel_rfl) [0, 0, 2, 0, 14, 30, 63, 127] [false, false, false, false, false, false, true, true] (by kernel_rfl) fun k hk => ?_
          refine gax (em (eK .i64) p1.get x14.toNat) ?_
          obtain ⟨y15, hc20, hm⟩ := bd hm
          refine AP (fun _ => ref_there_ok p1 (p1.get.getD x14.toNat default) 1 _ hc20) ?_
          refine ga ?_
          refine hk _ _ ?_
          clear hk k
          by_cases h21 : y15 = true
          ·rw [if_pos h21] at hm
           refine W_condf rfl (by rw [show y15 = true from (h21)]; rfl) ?_
           refine W_skip ?_
           refine KBlock_n ?_
           refine KThen_n (hk6 _ _ ?_)
           refine W_rn ?_
           refine KLoopM_n (IntKind.wrap .i64 (x14 + 1)) () hm ?_
           exact ls
          ·rw [if_neg h21] at hm
           refine W_condt rfl (by rw [show y15 = false from (Bool.eq_false_iff.2 h21)]; rfl) ?_
           refine W_regF [1, 4, 62, 63] fun k kp hk hp => ?_
           refine go ?_
           obtain ⟨y16, hc22, hm⟩ := bd hm
           refine RP (fun _ => ref_F_ok 16 (-1) _ hc22) ?_
           refine RunRest_ops ?_
           refine go ?_
           refine hk _ _ ?_
           clear hk hp k kp
           have ho23 := out_eq hm hr2
           subst ho23
           replace hm : some (y16) = some r := hm2
           refine W_ret ?_
           refine KBlock_r ?_
           refine KThen_r ?_
           refine KLoopM_r ?_
           refine KBlock_r ?_
           refine KJoinM_r ?_
           refine KBody_ret [] ?_
           obtain rfl := Option.some.inj hm
           exact en
         ·rw [if_neg h18] at hm
          refine W_condf rfl (decide_eq_false h18) ?_
          refine W_exit ?_
          have ho24 := out_eq hm hr2
          subst ho24
          replace hm : ref_LoopsFault_j2 p1 = some r := hm2
          refine KThen_x ?_
          refine KLoopM_x ?_
          refine KBlock_hit ?_
          refine KJoinM_n () () hm ?_
          exact ls
       ·rintro _ _ hm
        replace hm : ref_LoopsFault_j2 p1 = some r := hm
        refine W_eqm ?_
        unfold ref_LoopsFault_j2 at hm
        refine W_joinM (S := Unit) (V := Unit) [1, 5, 64, 65, 66, 67, 68, 69, 70, 71, 72, 73, 74, 75, 76, 77, 78, 79, 80] (fun _ _ => []) (fun _ _ => [.box [.int .i64 p1.cells, .tree 1 (p1.put.map (eK .i64)), .tree 1 (p1.get.map (eK .i64)), .tree 6 (p1.steps.map TLoop.enc)], .box [.int .i64 0, .int .i64 0]]) (fun _ => ref_LoopsFault_j3 = some r) ?_ ?_
        ·skip
         refine W_rg [] ?_
         refine W_block ?_
         obtain ⟨o1, hl1, hm1⟩ := bd hm
         refine W_loopM (S := Int) (V := Unit) (O := Unit ⊕ TFault) [5, 64, 65, 66, 67, 68, 69, 70, 71, 72, 73, 74, 75, 76, 77, 78, 79, 80] (fun x8 _ => [(5, .c (.int .i64 x8))]) (fun x8 _ => [.box [.int .i64 p1.cells, .tree 1 (p1.put.map (eK .i64)), .tree 1 (p1.get.map (eK .i64)), .tree 6 (p1.steps.map TLoop.enc)], .box [.int .i64 0, .int .i64 0]]) _ _ () hl1 ?_ ?_
         ·exact ls
         ·rintro x8 _ r1 hm hr1
          replace hm : ref_LoopsFault_l1 p1 x8 = some r1 := hm
          refine W_eqm ?_
          unfold ref_LoopsFault_l1 at hm
          refine W_seq_k fun k3 hk3 => ?_
          refine W_rg [64, 65, 66, 67] ?_
          by_cases h11 : x8 < (p1.steps.length : Int)
          ·rw [if_pos h11] at hm
           refine W_condt rfl (decide_eq_true h11) ?_
           refine W_skip ?_
           refine KThen_n (hk3 _ _ ?_)
           refine W_seq_k fun k4 hk4 => ?_
           refine W_block ?_
           obtain ⟨hg12a, hm⟩ := gd hm
           refine W_anyF [68, 71, 72, 73, 74, 75, 76, 77] (by kernel_rfl) [0, 0, 2, 0, 14, 30, 63, 127] [false, false, false, false, false, false, true, true] (by kernel_rfl) fun k hk => ?_
           refine gax (em TLoop.enc p1.steps x8.toNat) ?_
           obtain ⟨y9, hc13, hm⟩ := bd hm
           refine AP (fun _ => ref_loopOK_ok p1 (p1.steps.getD x8.toNat default) _ hc13) ?_
           refine ga ?_
           refine hk _ _ ?_
           clear hk k
           by_cases h14 : y9 = true
           ·rw [if_pos h14] at hm
            refine W_condf rfl (by rw [show y9 = true from (h14)]; rfl) ?_
            refine W_skip ?_
            refine KBlock_n ?_
            refine KThen_n (hk4 _ _ ?_)
            refine W_rn ?_
            refine KLoopM_n (IntKind.wrap .i64 (x8 + 1)) () hm ?_
            exact ls
           ·rw [if_neg h14] at hm
            refine W_condt rfl (by rw [show y9 = false from (Bool.eq_false_iff.2 h14)]; rfl) ?_
            refine W_regF [1, 5, 78, 79, 80] fun k kp hk hp => ?_
            refine go ?_
            obtain ⟨y10, hc15, hm⟩ := bd hm
            refine RP (fun _ => ref_F_ok 4 x8 _ hc15) ?_
            refine RunRest_ops ?_
            refine go ?_
            refine hk _ _ ?_
            clear hk hp k kp
            have ho16 := out_eq hm hr1
            subst ho16
            replace hm : some (y10) = some r := hm1
            refine W_ret ?_
            refine KBlock_r ?_
            refine KThen_r ?_
            refine KLoopM_r ?_
            refine KBlock_r ?_
            refine KJoinM_r ?_
            refine KBody_ret [] ?_
            obtain rfl := Option.some.inj hm
            exact en
          ·rw [if_neg h11] at hm
           refine W_condf rfl (decide_eq_false h11) ?_
           refine W_exit ?_
           have ho17 := out_eq hm hr1
           subst ho17
           replace hm : ref_LoopsFault_j3 = some r := hm1
           refine KThen_x ?_
           refine KLoopM_x ?_
           refine KBlock_hit ?_
           refine KJoinM_n () () hm ?_
           exact ls
        ·rintro _ _ hm
         replace hm : ref_LoopsFault_j3 = some r := hm
         refine W_eqm ?_
         unfold ref_LoopsFault_j3 at hm
         refine W_rg [81] ?_
         refine W_ret ?_
         refine KBody_ret [] ?_
         obtain rfl := Option.some.inj hm
         exact en
end Pam

/- the walk of ref_emitting_put, printed by a program of ours -/
namespace Pam
open Go Go.Proofs
set_option maxRecDepth 100000 in
set_option maxHeartbeats 1000000 in
theorem ref_emitting_put_ok (p1 : Int) (p2 : Int) (p3 : Int) (p4 : Int) (p5 : Int) (p6 : Int) (p7 : List TIns) (v1_ : Nat) (r : (List TIns)) (hm : ref_emitting_put p1 p2 p3 p4 p5 p6 p7 = some r) : Spec Try.prog 118 [.c (.optr 0 0), .c (.int .i64 p1), .c (.int .i64 p2), .c (.int .i64 p3), .c (.int .i64 p4), .c (.int .i64 p5), .c (.int .i64 p6)] [.box [.osl 1 v1_ 0 p7.length], .arr 6 v1_ 118 (p7.map TIns.enc)] (fun p σ => ∃ w1_, (p = .t [] ∧ σ = [.box [.osl 1 w1_ 0 r.length], .arr 6 w1_ 118 (r.map TIns.enc)])) (fun _ _ => False) := by
 refine Spec_ofD 30 [] Try.func118 rfl rfl rfl (by kernel_rfl) (by simp) ?_
 refine W_eqf ?_
 unfold ref_emitting_put at hm
 obtain ⟨⟨hg1ax, hg1ay⟩, hm⟩ := gd hm
 refine W_rn ?_
 refine KBody_nrm [.box [.osl 1 (v1_ + 1) 0 (p7.length + 1)], .arr 6 (v1_ + 1) 118 ((p7 ++ (lit ([(TIns.mk p1 p2 p3 p4 p5 p6)] : List TIns))).map TIns.enc)] ?_
 obtain rfl := Option.some.inj hm
 simp only [bF, bT, tab, bX, Sum.elim_inl, Sum.elim_inr, reduceIte, ↓reduceIte, reduceCtorEq, Int.reduceToNat, Nat.reduceDiv, Nat.reduceMod, Nat.reduceLT, Nat.reduceLeDiff, Nat.reduceAdd, Nat.reduceSub, Nat.reduceMul, Nat.reduceEqDiff, Nat.reduceBEq, Nat.reduceBNe, Nat.reduceGT] <;> first | done | rfl | (and_intros <;> first | rfl | omega | (simp; done) | (simp [lit, bX, eK, eB, eS, eL]; done))
end Pam

/- the walk of ref_emitting_tree, printed by a program of ours -/
namespace Pam
open Go Go.Proofs
set_option maxRecDepth 100000 in
set_option maxHeartbeats 8000000 in
theorem ref_emitting_tree_ok (p1 : List TPush) (p2 : Int) (p3 : Int) (p4 : List TIns) (v1_ : Nat) (r : (List TIns)) (hm : ref_emitting_tree p1 p2 p3 p4 = some r) : Spec Try.prog 117 [.c (.optr 0 0), .c (.tree 4 (p1.map TPush.enc)), .c (.int .i64 p2), .c (.int .i64 p3)] [.box [.osl 1 v1_ 0 p4.length], .arr 6 v1_ 118 (p4.map TIns.enc)] (fun p σ => ∃ w1_, (p = .t [] ∧ σ = [.box [.osl 1 w1_ 0 r.length], .arr 6 w1_ 118 (r.map TIns.enc)])) (fun _ _ => False) := by
 refine Spec_ofD 179 [] Try.func117 rfl rfl rfl (by kernel_rfl) (by simp) ?_
 refine W_eqf ?_
 unfold ref_emitting_tree at hm
 refine W_rg [] ?_
 refine W_block ?_
 obtain ⟨o1, hl1, hm1⟩ := bd hm
 refine W_loopM (S := ((List TIns) × Int × Int)) (V := Nat) (O := (List TIns)) [2, 8, 9, 10, 11, 12, 13, 14, 15, 16, 17, 18, 19, 20, 21, 22, 23, 24, 25, 26, 27, 28, 29, 30, 31, 32, 33, 34, 35, 36, 37, 38, 39, 40, 41, 42, 43, 44, 45, 46, 47, 48, 49, 50, 51, 52, 53, 54, 55, 56, 57, 58, 59, 60, 61, 62, 63, 64, 65, 66, 67, 68, 69, 70, 71, 72, 73, 74, 75, 76, 77, 78, 79, 80, 81, 82, 83, 84, 85, 86, 87, 88, 89, 90, 91, 92, 93, 94, 95, 96, 97, 98, 99, 100, 101, 102, 103, 104, 105, 106, 107, 108, 109, 110, 111, 112, 113, 114, 115, 116, 117, 118, 119, 120, 121, 122, 123, 124, 125, 126, 127, 128, 129, 130, 131, 132, 133, 134, 135, 136, 137, 138, 139, 140, 141, 142, 143, 144, 145, 146, 147, 148, 149, 150, 151, 152, 153, 154, 155, 156, 157, 158, 159, 160, 161, 162, 163, 164, 165, 166, 167, 168, 169, 170, 171, 172, 173, 174, 175, 176, 177, 178] (fun (l15, x17, x18) v16 => [(2, .c (.int .i64 x17)), (8, .c (.int .i64 x18))]) (fun (l15, x17, x18) v16 => [.box [.osl 1 v16 0 l15.length], .arr 6 v16 118 (l15.map TIns.enc)]) _ _ v1_ hl1 ?_ ?_
 ·exact ls
 ·rintro ⟨l15, x17, x18⟩ v16 r1 hm hr1
  replace hm : ref_emitting_tree_l1 p1 p3 l15 x17 x18 = some r1 := hm
  refine W_eqm ?_
  unfold ref_emitting_tree_l1 at hm
  refine W_seq_k fun k1 hk1 => ?_
  refine W_rg [15, 16, 17] ?_
  by_cases h1 : x18 < (p1.length : Int)
  ·rw [if_pos h1] at hm
   refine W_condt rfl (decide_eq_true h1) ?_
   refine W_skip ?_
   refine KThen_n (hk1 _ _ ?_)
   refine W_seq_k fun k2 hk2 => ?_
   refine W_block ?_
   obtain ⟨hg2a, hm⟩ := gd hm
   refine W_rgx (em TPush.enc p1 x18.toNat) [18, 21, 22, 23, 24] ?_
   refine W_rg [25] ?_
   refine W_block ?_
   refine W_rg [28] ?_
   by_cases h3 : ((p1.getD x18.toNat default).op) = 1
   ·rw [if_pos h3] at hm
    refine W_condt rfl (beq_iff_eq.2 h3) ?_
    refine W_regF [9, 26, 27, 29, 30, 31, 32, 33] fun k kp hk hp => ?_
    refine go ?_
    obtain ⟨y19, hc4, hm⟩ := bd hm
    refine RA (ref_emitting_put_ok 1 0 x17 0 0 ((p1.getD x18.toNat default).n) l15 v16 _ hc4) [0, 1] ?_
    rintro p σ' hq5 _
    obtain ⟨v20, rfl, rfl⟩ := hq5
    refine RunRest_ops ?_
    refine go ?_
    refine hk _ _ ?_
    clear hk hp k kp
    refine W_rn ?_
    refine KBlock_n ?_
    refine KBlock_n ?_
    refine KThen_n (hk2 _ _ ?_)
    refine W_rn ?_
    refine KLoopM_n (y19, (IntKind.wrap .i64 (x17 + 1)), (IntKind.wrap .i64 (x18 + 1))) v20 hm ?_
    exact ls
   ·rw [if_neg h3] at hm
    refine W_condf rfl (beq_eq_false_iff_ne.2 h3) ?_
    refine W_rg [27, 37] ?_
    by_cases h6 : ((p1.getD x18.toNat default).op) = 2
    ·rw [if_pos h6] at hm
     refine W_condt rfl (beq_iff_eq.2 h6) ?_
     refine W_regF [9, 26, 36, 38, 39, 40, 41, 42] fun k kp hk hp => ?_
     refine go ?_
     obtain ⟨y21, hc7, hm⟩ := bd hm
     refine RA (ref_emitting_put_ok 2 0 x17 0 0 ((p1.getD x18.toNat default).v) l15 v16 _ hc7) [0, 1] ?_
     rintro p σ' hq8 _
     obtain ⟨v22, rfl, rfl⟩ := hq8
     refine RunRest_ops ?_
     refine go ?_
     refine hk _ _ ?_
     clear hk hp k kp
     refine W_rn ?_
     refine KBlock_n ?_
     refine KBlock_n ?_
     refine KThen_n (hk2 _ _ ?_)
     refine W_rn ?_
     refine KLoopM_n (y21, (IntKind.wrap .i64 (x17 + 1)), (IntKind.wrap .i64 (x18 + 1))) v22 hm ?_
     exact ls
    ·rw [if_neg h6] at hm
     refine W_condf rfl (beq_eq_false_iff_ne.2 h6) ?_
     refine W_rg [36, 46] ?_
     by_cases h9 : ((p1.getD x18.toNat default).op) = 3
     ·rw [if_pos h9] at hm
      refine W_condt rfl (beq_iff_eq.2 h9) ?_
      refine W_seq_k fun k3 hk3 => ?_
      refine W_rg [26, 45, 47] ?_
      by_cases h10 : p3 = 0
      ·rw [if_pos h10] at hm
       refine W_condt rfl (beq_iff_eq.2 h10) ?_
       refine W_region fun k kp hk hp => ?_
       refine go ?_
       obtain ⟨y23, hc11, hm⟩ := bd hm
       refine RA (ref_emitting_put_ok 2 0 x17 0 0 ((p1.getD x18.toNat default).v) l15 v16 _ hc11) [0, 1] ?_
       rintro p σ' hq12 _
       obtain ⟨v24, rfl, rfl⟩ := hq12
       refine RunRest_ops ?_
       refine go ?_
       refine hk _ _ ?_
       clear hk hp k kp
       refine KThen_n (hk3 _ _ ?_)
       refine W_rn ?_
       refine KBlock_n ?_
       refine KBlock_n ?_
       refine KThen_n (hk2 _ _ ?_)
       refine W_rn ?_
       refine KLoopM_n (y23, (IntKind.wrap .i64 (x17 + 1)), (IntKind.wrap .i64 (x18 + 1))) v24 hm ?_
       exact ls
      ·rw [if_neg h10] at hm
       refine W_condf rfl (beq_eq_false_iff_ne.2 h10) ?_
       refine W_region fun k kp hk hp => ?_
       refine go ?_
       obtain ⟨y25, hc13, hm⟩ := bd hm
       refine RA (ref_emitting_put_ok 3 0 x17 0 p3 ((p1.getD x18.toNat default).v) l15 v16 _ hc13) [0, 1] ?_
       rintro p σ' hq14 _
       obtain ⟨v26, rfl, rfl⟩ := hq14
       refine RunRest_ops ?_
       refine go ?_
       refine hk _ _ ?_
       clear hk hp k kp
       refine KThen_n (hk3 _ _ ?_)
       refine W_rn ?_
       refine KBlock_n ?_
       refine KBlock_n ?_
       refine KThen_n (hk2 _ _ ?_)
       refine W_rn ?_
       refine KLoopM_n (y25, (IntKind.wrap .i64 (x17 + 1)), (IntKind.wrap .i64 (x18 + 1))) v26 hm ?_
       exact ls
     ·rw [if_neg h9] at hm
      refine W_condf rfl (beq_eq_false_iff_ne.2 h9) ?_
      refine W_rg [45, 63] ?_
      by_cases h15 : ((p1.getD x18.toNat default).op) = 4
      ·rw [if_pos h15] at hm
       refine W_condt rfl (beq_iff_eq.2 h15) ?_
       refine W_regF [9, 26, 62, 64, 65, 66, 67, 68] fun k kp hk hp => ?_
       refine go ?_
       obtain ⟨y27, hc16, hm⟩ := bd hm
       refine RA (ref_emitting_put_ok 1 0 x17 0 0 ((p1.getD x18.toNat default).n) l15 v16 _ hc16) [0, 1] ?_
       rintro p σ' hq17 _
       obtain ⟨v28, rfl, rfl⟩ := hq17
       refine RunRest_ops ?_
       refine go ?_
       refine hk _ _ ?_
       clear hk hp k kp
       refine W_seq_k fun k4 hk4 => ?_
       refine W_rg [69] ?_
       by_cases h18 : p3 > 0
       ·rw [if_pos h18] at hm
        refine W_condt rfl (decide_eq_true h18) ?_
        refine W_region fun k kp hk hp => ?_
        refine go ?_
        obtain ⟨y29, hc19, hm⟩ := bd hm
        refine RA (ref_emitting_put_ok 7 1 x17 x17 0 0 y27 v28 _ hc19) [0, 1] ?_
        rintro p σ' hq20 _
        obtain ⟨v30, rfl, rfl⟩ := hq20
        refine RunRest_ops ?_
        refine go ?_
        refine hk _ _ ?_
        clear hk hp k kp
        refine KThen_n (hk4 _ _ ?_)
        refine W_rn ?_
        refine KBlock_n ?_
        refine KBlock_n ?_
        refine KThen_n (hk2 _ _ ?_)
        refine W_rn ?_
        refine KLoopM_n (y29, (IntKind.wrap .i64 (x17 + 1)), (IntKind.wrap .i64 (x18 + 1))) v30 hm ?_
        exact ls
       ·rw [if_neg h18] at hm
        refine W_condf rfl (decide_eq_false h18) ?_
        refine W_skip ?_
        refine KThen_n (hk4 _ _ ?_)
        refine W_rn ?_
        refine KBlock_n ?_
        refine KBlock_n ?_
        refine KThen_n (hk2 _ _ ?_)
        refine W_rn ?_
        refine KLoopM_n (y27, (IntKind.wrap .i64 (x17 + 1)), (IntKind.wrap .i64 (x18 + 1))) v28 hm ?_
        exact ls
      ·rw [if_neg h15] at hm
       refine W_condf rfl (beq_eq_false_iff_ne.2 h15) ?_
       refine W_rg [62, 78] ?_
       by_cases h21 : ((p1.getD x18.toNat default).op) = 5
       ·rw [if_pos h21] at hm
        refine W_condt rfl (beq_iff_eq.2 h21) ?_
        refine W_region fun k kp hk hp => ?_
        refine go ?_
        obtain ⟨y31, hc22, hm⟩ := bd hm
        refine RA (ref_emitting_put_ok 6 ((p1.getD x18.toNat default).k) (IntKind.wrap .i64 (x17 - 1)) (IntKind.wrap .i64 (x17 - 1)) 0 0 l15 v16 _ hc22) [0, 1] ?_
        rintro p σ' hq23 _
        obtain ⟨v32, rfl, rfl⟩ := hq23
        refine RunRest_ops ?_
        refine go ?_
        refine hk _ _ ?_
        clear hk hp k kp
        refine KBlock_n ?_
        refine KBlock_n ?_
        refine KThen_n (hk2 _ _ ?_)
        refine W_rn ?_
        refine KLoopM_n (y31, x17, (IntKind.wrap .i64 (x18 + 1))) v32 hm ?_
        exact ls
       ·rw [if_neg h21] at hm
        refine W_condf rfl (beq_eq_false_iff_ne.2 h21) ?_
        refine W_rg [77, 88] ?_
        by_cases h24 : ((p1.getD x18.toNat default).op) = 6
        ·rw [if_pos h24] at hm
         refine W_condt rfl (beq_iff_eq.2 h24) ?_
         refine W_regF [9, 26, 87, 89, 90, 91, 92, 93, 94, 95, 96, 97, 98] fun k kp hk hp => ?_
         refine go ?_
         obtain ⟨y33, hc25, hm⟩ := bd hm
         refine RA (ref_emitting_put_ok 7 ((p1.getD x18.toNat default).k) (IntKind.wrap .i64 (x17 - 2)) (IntKind.wrap .i64 (x17 - 2)) (IntKind.wrap .i64 (x17 - 1)) 0 l15 v16 _ hc25) [0, 1] ?_
         rintro p σ' hq26 _
         obtain ⟨v34, rfl, rfl⟩ := hq26
         refine RunRest_ops ?_
         refine go ?_
         refine hk _ _ ?_
         clear hk hp k kp
         refine W_rn ?_
         refine KBlock_n ?_
         refine KBlock_n ?_
         refine KThen_n (hk2 _ _ ?_)
         refine W_rn ?_
         refine KLoopM_n (y33, (IntKind.wrap .i64 (x17 - 1)), (IntKind.wrap .i64 (x18 + 1))) v34 hm ?_
         exact ls
        ·rw [if_neg h24] at hm
         refine W_condf rfl (beq_eq_false_iff_ne.2 h24) ?_
         refine W_rg [87, 102] ?_
         by_cases h27 : ((p1.getD x18.toNat default).op) = 7
         ·rw [if_pos h27] at hm
          refine W_condt rfl (beq_iff_eq.2 h27) ?_
          refine W_regF [9, 26, 101, 103, 104, 105, 106, 107, 108, 109, 110] fun k kp hk hp => ?_
          refine go ?_
          obtain ⟨y35, hc28, hm⟩ := bd hm
          refine RA (ref_emitting_put_ok 8 0 (IntKind.wrap .i64 (x17 - 3)) (IntKind.wrap .i64 (x17 - 2)) (IntKind.wrap .i64 (x17 - 1)) 0 l15 v16 _ hc28) [0, 1] ?_
          rintro p σ' hq29 _
          obtain ⟨v36, rfl, rfl⟩ := hq29
          refine RunRest_ops ?_
          refine go ?_
          refine hk _ _ ?_
          clear hk hp k kp
          refine W_rn ?_
          refine KBlock_n ?_
          refine KBlock_n ?_
          refine KThen_n (hk2 _ _ ?_)
          refine W_rn ?_
          refine KLoopM_n (y35, (IntKind.wrap .i64 (x17 - 2)), (IntKind.wrap .i64 (x18 + 1))) v36 hm ?_
          exact ls
         ·rw [if_neg h27] at hm
          refine W_condf rfl (beq_eq_false_iff_ne.2 h27) ?_
          refine W_rg [26, 101, 114] ?_
          by_cases h30 : ((p1.getD x18.toNat default).op) = 8
          ·rw [if_pos h30] at hm
           refine W_condt rfl (beq_iff_eq.2 h30) ?_
           refine W_rg [113, 115, 116, 117, 118, 119, 120, 121, 122, 123] ?_
           refine W_regF [124, 125, 126] fun k kp hk hp => ?_
           refine go ?_
           obtain ⟨y37, hc31, hm⟩ := bd hm
           refine RA (ref_emitting_put_ok 1 0 x17 0 0 0 l15 v16 _ hc31) [0, 1] ?_
           rintro p σ' hq32 _
           obtain ⟨v38, rfl, rfl⟩ := hq32
           refine RunRest_ops ?_
           refine go ?_
           refine hk _ _ ?_
           clear hk hp k kp
           refine W_regF [127, 128, 129, 130, 131] fun k kp hk hp => ?_
           refine go ?_
           obtain ⟨y39, hc33, hm⟩ := bd hm
           refine RA (ref_emitting_put_ok 7 8 (IntKind.wrap .i64 (x17 + 1)) (IntKind.wrap .i64 (x17 - 2)) x17 0 y37 v38 _ hc33) [0, 1] ?_
           rintro p σ' hq34 _
           obtain ⟨v40, rfl, rfl⟩ := hq34
           refine RunRest_ops ?_
           refine go ?_
           refine hk _ _ ?_
           clear hk hp k kp
           refine W_regF [132, 133, 134, 135] fun k kp hk hp => ?_
           refine go ?_
           obtain ⟨y41, hc35, hm⟩ := bd hm
           refine RA (ref_emitting_put_ok 6 14 (IntKind.wrap .i64 (x17 + 1)) (IntKind.wrap .i64 (x17 + 1)) 0 0 y39 v40 _ hc35) [0, 1] ?_
           rintro p σ' hq36 _
           obtain ⟨v42, rfl, rfl⟩ := hq36
           refine RunRest_ops ?_
           refine go ?_
           refine hk _ _ ?_
           clear hk hp k kp
           refine W_regF [136, 137, 138, 139, 140] fun k kp hk hp => ?_
           refine go ?_
           obtain ⟨y43, hc37, hm⟩ := bd hm
           refine RA (ref_emitting_put_ok 1 0 (IntKind.wrap .i64 (x17 + 2)) 0 0 ((p1.getD x18.toNat default).n) y41 v42 _ hc37) [0, 1] ?_
           rintro p σ' hq38 _
           obtain ⟨v44, rfl, rfl⟩ := hq38
           refine RunRest_ops ?_
           refine go ?_
           refine hk _ _ ?_
           clear hk hp k kp
           refine W_regF [141, 142, 143, 144, 145] fun k kp hk hp => ?_
           refine go ?_
           obtain ⟨y45, hc39, hm⟩ := bd hm
           refine RA (ref_emitting_put_ok 7 8 (IntKind.wrap .i64 (x17 + 2)) (IntKind.wrap .i64 (x17 - 2)) (IntKind.wrap .i64 (x17 + 2)) 0 y43 v44 _ hc39) [0, 1] ?_
           rintro p σ' hq40 _
           obtain ⟨v46, rfl, rfl⟩ := hq40
           refine RunRest_ops ?_
           refine go ?_
           refine hk _ _ ?_
           clear hk hp k kp
           refine W_regF [146, 147, 148, 149, 150] fun k kp hk hp => ?_
           refine go ?_
           obtain ⟨y47, hc41, hm⟩ := bd hm
           refine RA (ref_emitting_put_ok 7 10 (IntKind.wrap .i64 (x17 + 1)) (IntKind.wrap .i64 (x17 + 1)) (IntKind.wrap .i64 (x17 + 2)) 0 y45 v46 _ hc41) [0, 1] ?_
           rintro p σ' hq42 _
           obtain ⟨v48, rfl, rfl⟩ := hq42
           refine RunRest_ops ?_
           refine go ?_
           refine hk _ _ ?_
           clear hk hp k kp
           refine W_regF [151, 152, 153, 154] fun k kp hk hp => ?_
           refine go ?_
           obtain ⟨y49, hc43, hm⟩ := bd hm
           refine RA (ref_emitting_put_ok 9 0 (IntKind.wrap .i64 (x17 + 2)) (IntKind.wrap .i64 (x17 + 1)) 0 0 y47 v48 _ hc43) [0, 1] ?_
           rintro p σ' hq44 _
           obtain ⟨v50, rfl, rfl⟩ := hq44
           refine RunRest_ops ?_
           refine go ?_
           refine hk _ _ ?_
           clear hk hp k kp
           refine W_regF [12, 155, 156, 157, 158, 159] fun k kp hk hp => ?_
           refine go ?_
           obtain ⟨y51, hc45, hm⟩ := bd hm
           refine RA (ref_emitting_put_ok 8 0 (IntKind.wrap .i64 (x17 + 2)) (IntKind.wrap .i64 (x17 - 2)) x17 0 y49 v50 _ hc45) [0, 1] ?_
           rintro p σ' hq46 _
           obtain ⟨v52, rfl, rfl⟩ := hq46
           refine RunRest_ops ?_
           refine go ?_
           refine hk _ _ ?_
           clear hk hp k kp
           refine W_regF [9, 160, 161, 162, 163, 164, 165, 166, 167] fun k kp hk hp => ?_
           refine go ?_
           obtain ⟨y53, hc47, hm⟩ := bd hm
           refine RA (ref_emitting_put_ok 3 0 (IntKind.wrap .i64 (x17 + 2)) (IntKind.wrap .i64 (x17 + 2)) ((p1.getD x18.toNat default).n) ((p1.getD x18.toNat default).v) y51 v52 _ hc47) [0, 1] ?_
           rintro p σ' hq48 _
           obtain ⟨v54, rfl, rfl⟩ := hq48
           refine RunRest_ops ?_
           refine go ?_
           refine hk _ _ ?_
           clear hk hp k kp
           refine W_regF [11, 14, 168, 169, 170, 171, 172] fun k kp hk hp => ?_
           refine go ?_
           obtain ⟨y55, hc49, hm⟩ := bd hm
           refine RA (ref_emitting_put_ok 8 0 (IntKind.wrap .i64 (x17 + 1)) (IntKind.wrap .i64 (x17 + 2)) (IntKind.wrap .i64 (x17 - 1)) 0 y53 v54 _ hc49) [0, 1] ?_
           rintro p σ' hq50 _
           obtain ⟨v56, rfl, rfl⟩ := hq50
           refine RunRest_ops ?_
           refine go ?_
           refine hk _ _ ?_
           clear hk hp k kp
           refine W_regF [10, 13, 173, 174, 175, 176] fun k kp hk hp => ?_
           refine go ?_
           obtain ⟨y57, hc51, hm⟩ := bd hm
           refine RA (ref_emitting_put_ok 9 0 (IntKind.wrap .i64 (x17 - 2)) (IntKind.wrap .i64 (x17 + 1)) 0 0 y55 v56 _ hc51) [0, 1] ?_
           rintro p σ' hq52 _
           obtain ⟨v58, rfl, rfl⟩ := hq52
           refine RunRest_ops ?_
           refine go ?_
           refine hk _ _ ?_
           clear hk hp k kp
           refine W_rn ?_
           refine KBlock_n ?_
           refine KBlock_n ?_
           refine KThen_n (hk2 _ _ ?_)
           refine W_rn ?_
           refine KLoopM_n (y57, (IntKind.wrap .i64 (x17 - 1)), (IntKind.wrap .i64 (x18 + 1))) v58 hm ?_
           exact ls
          ·rw [if_neg h30] at hm
           refine W_condf rfl (beq_eq_false_iff_ne.2 h30) ?_
           refine W_skip ?_
           refine KBlock_n ?_
           refine KBlock_n ?_
           refine KThen_n (hk2 _ _ ?_)
           refine W_rn ?_
           refine KLoopM_n (l15, x17, (IntKind.wrap .i64 (x18 + 1))) v16 hm ?_
           exact ls
  ·rw [if_neg h1] at hm
   refine W_condf rfl (decide_eq_false h1) ?_
   refine W_exit ?_
   have ho53 := out_eq hm hr1
   subst ho53
   replace hm : some l15 = some r := hm1
   refine KThen_x ?_
   refine KLoopM_x ?_
   refine KBlock_hit ?_
   refine KBody_nrm [.box [.osl 1 v16 0 l15.length], .arr 6 v16 118 (l15.map TIns.enc)] ?_
   obtain rfl := Option.some.inj hm
   exact en
end Pam

/- the walk of ref_emitting_step, printed by a program of ours -/
namespace Pam
open Go Go.Proofs
set_option maxRecDepth 100000 in
set_option maxHeartbeats 8000000 in
theorem ref_emitting_step_ok (p1 : TLoop) (p2 : List TIns) (v1_ : Nat) (r : (List TIns)) (hm : ref_emitting_step p1 p2 = some r) : Spec Try.prog 73 [.c (.optr 0 0), .a [.int .i64 p1.op, .int .i64 p1.k, .int .i64 p1.n, .int .i64 p1.to, .tree 4 (p1.f.map TPush.enc), .tree 4 (p1.e.map TPush.enc)]] [.box [.osl 1 v1_ 0 p2.length], .arr 6 v1_ 118 (p2.map TIns.enc)] (fun p σ => ∃ w1_, (p = .t [] ∧ σ = [.box [.osl 1 w1_ 0 r.length], .arr 6 w1_ 118 (r.map TIns.enc)])) (fun _ _ => False) := by
 refine Spec_ofD 76 [] Try.func73 rfl rfl rfl (by kernel_rfl) (by simp) ?_
 refine W_eqf ?_
 unfold ref_emitting_step at hm
 refine W_rg [1] ?_
 refine W_seq_k fun k1 hk1 => ?_
 refine W_rg [4, 5] ?_
 by_cases h1 : p1.op = 1
 ·rw [if_pos h1] at hm
  refine W_condt rfl (beq_iff_eq.2 h1) ?_
  refine W_regF [6, 7, 8, 9, 10] fun k kp hk hp => ?_
  refine go ?_
  obtain ⟨y1, hc2, hm⟩ := bd hm
  refine RA (ref_emitting_tree_ok p1.e 2 0 p2 v1_ _ hc2) [0, 1] ?_
  rintro p σ' hq3 _
  obtain ⟨v2, rfl, rfl⟩ := hq3
  refine RunRest_ops ?_
  refine go ?_
  refine hk _ _ ?_
  clear hk hp k kp
  refine W_regF [0, 3, 11, 12, 13, 14] fun k kp hk hp => ?_
  refine go ?_
  obtain ⟨y3, hc4, hm⟩ := bd hm
  refine RA (ref_emitting_put_ok 4 0 2 0 0 p1.to y1 v2 _ hc4) [0, 1] ?_
  rintro p σ' hq5 _
  obtain ⟨v4, rfl, rfl⟩ := hq5
  refine RunRest_ops ?_
  refine go ?_
  refine hk _ _ ?_
  clear hk hp k kp
  refine W_ret ?_
  refine KThen_r ?_
  refine KBody_ret [.box [.osl 1 v4 0 y3.length], .arr 6 v4 118 (y3.map TIns.enc)] ?_
  obtain rfl := Option.some.inj hm
  exact en
 ·rw [if_neg h1] at hm
  refine W_condf rfl (beq_eq_false_iff_ne.2 h1) ?_
  refine W_skip ?_
  refine KThen_n (hk1 _ _ ?_)
  refine W_joinM (S := (List TIns)) (V := Nat) [6, 15, 16, 17, 18, 19, 20, 21, 22, 23, 24, 25, 26, 27, 28] (fun l7 v8 => []) (fun l7 v8 => [.box [.osl 1 v8 0 l7.length], .arr 6 v8 118 (l7.map TIns.enc), .box [.int .i64 p1.op, .int .i64 p1.k, .int .i64 p1.n, .int .i64 p1.to, .tree 4 (p1.f.map TPush.enc), .tree 4 (p1.e.map TPush.enc)]]) (fun l7 => ref_emitting_step_j1 p1 l7 = some r) ?_ ?_
  ·skip
   refine W_regG [6, 15, 16, 17, 18, 19, 20, 21] fun k kp hk hp => ?_
   refine RunRest_cut 4 ?_
   refine go ?_
   by_cases h26 : p1.op = 3
   ·rw [if_pos h26] at hm
    have h26b : (p1.op == 3) = true := beq_iff_eq.2 h26
    refine RunRest_ops ?_
    refine gox h26b ?_
    refine hk _ _ ?_
    clear hk hp k kp
    refine W_condt rfl rfl ?_
    refine W_regF [22, 23, 24, 25, 26] fun k kp hk hp => ?_
    refine go ?_
    obtain ⟨y29, hc27, hm⟩ := bd hm
    refine RA (ref_emitting_tree_ok p1.f 2 0 p2 v1_ _ hc27) [0, 1] ?_
    rintro p σ' hq28 _
    obtain ⟨v30, rfl, rfl⟩ := hq28
    refine RunRest_ops ?_
    refine go ?_
    refine hk _ _ ?_
    clear hk hp k kp
    refine W_region fun k kp hk hp => ?_
    refine go ?_
    obtain ⟨y31, hc29, hm⟩ := bd hm
    refine RA (ref_emitting_put_ok 9 0 1 2 0 0 y29 v30 _ hc29) [0, 1] ?_
    rintro p σ' hq30 _
    obtain ⟨v32, rfl, rfl⟩ := hq30
    refine RunRest_ops ?_
    refine go ?_
    refine hk _ _ ?_
    clear hk hp k kp
    refine KJoinM_n y31 v32 hm ?_
    exact ls
   ·rw [if_neg h26] at hm
    have h26b : (p1.op == 3) = false := beq_eq_false_iff_ne.2 h26
    refine RunRest_ops ?_
    refine gox h26b ?_
    refine hk _ _ ?_
    clear hk hp k kp
    by_cases h31 : p1.op = 4
    ·rw [if_pos h31] at hm
     refine W_condt rfl (beq_iff_eq.2 h31) ?_
     refine W_regF [22, 23, 24, 25, 26] fun k kp hk hp => ?_
     refine go ?_
     obtain ⟨y33, hc32, hm⟩ := bd hm
     refine RA (ref_emitting_tree_ok p1.f 2 0 p2 v1_ _ hc32) [0, 1] ?_
     rintro p σ' hq33 _
     obtain ⟨v34, rfl, rfl⟩ := hq33
     refine RunRest_ops ?_
     refine go ?_
     refine hk _ _ ?_
     clear hk hp k kp
     refine W_region fun k kp hk hp => ?_
     refine go ?_
     obtain ⟨y35, hc34, hm⟩ := bd hm
     refine RA (ref_emitting_put_ok 9 0 1 2 0 0 y33 v34 _ hc34) [0, 1] ?_
     rintro p σ' hq35 _
     obtain ⟨v36, rfl, rfl⟩ := hq35
     refine RunRest_ops ?_
     refine go ?_
     refine hk _ _ ?_
     clear hk hp k kp
     refine KJoinM_n y35 v36 hm ?_
     exact ls
    ·rw [if_neg h31] at hm
     refine W_condf rfl (beq_eq_false_iff_ne.2 h31) ?_
     refine W_skip ?_
     refine KJoinM_n p2 v1_ hm ?_
     exact ls
  ·rintro l7 v8 hm
   replace hm : ref_emitting_step_j1 p1 l7 = some r := hm
   refine W_eqm ?_
   unfold ref_emitting_step_j1 at hm
   refine W_regF [29, 30, 31, 32] fun k kp hk hp => ?_
   refine go ?_
   obtain ⟨y9, hc6, hm⟩ := bd hm
   refine RA (ref_emitting_put_ok 10 0 0 0 0 p1.n l7 v8 _ hc6) [0, 1] ?_
   rintro p σ' hq7 _
   obtain ⟨v10, rfl, rfl⟩ := hq7
   refine RunRest_ops ?_
   refine go ?_
   refine hk _ _ ?_
   clear hk hp k kp
   refine W_regF [33, 34, 35, 36, 37, 38] fun k kp hk hp => ?_
   refine go ?_
   obtain ⟨y11, hc8, hm⟩ := bd hm
   refine RA (ref_emitting_tree_ok p1.e 2 p1.n y9 v10 _ hc8) [0, 1] ?_
   rintro p σ' hq9 _
   obtain ⟨v12, rfl, rfl⟩ := hq9
   refine RunRest_ops ?_
   refine go ?_
   refine hk _ _ ?_
   clear hk hp k kp
   refine W_joinM (S := (List TIns)) (V := Nat) [39, 40, 41, 42, 43, 44, 45, 46, 47, 48, 49, 50, 51, 52, 53, 54, 55, 56, 57, 58, 59, 60, 61, 62, 63, 64, 65, 66] (fun l15 v16 => []) (fun l15 v16 => [.box [.osl 1 v16 0 l15.length], .arr 6 v16 118 (l15.map TIns.enc), .box [.int .i64 p1.op, .int .i64 p1.k, .int .i64 p1.n, .int .i64 p1.to, .tree 4 (p1.f.map TPush.enc), .tree 4 (p1.e.map TPush.enc)]]) (fun l15 => ref_emitting_step_j2 p1 l15 = some r) ?_ ?_
   ·skip
    refine W_rg [39] ?_
    refine W_block ?_
    refine W_rg [42] ?_
    by_cases h15 : p1.op = 2
    ·rw [if_pos h15] at hm
     refine W_condt rfl (beq_iff_eq.2 h15) ?_
     refine W_region fun k kp hk hp => ?_
     refine go ?_
     obtain ⟨y21, hc16, hm⟩ := bd hm
     refine RA (ref_emitting_put_ok 5 0 2 0 p1.n p1.to y11 v12 _ hc16) [0, 1] ?_
     rintro p σ' hq17 _
     obtain ⟨v22, rfl, rfl⟩ := hq17
     refine RunRest_ops ?_
     refine go ?_
     refine hk _ _ ?_
     clear hk hp k kp
     refine KBlock_n ?_
     refine KJoinM_n y21 v22 hm ?_
     exact ls
    ·rw [if_neg h15] at hm
     refine W_condf rfl (beq_eq_false_iff_ne.2 h15) ?_
     refine W_rg [41, 50] ?_
     by_cases h18 : p1.op = 3
     ·rw [if_pos h18] at hm
      refine W_condt rfl (beq_iff_eq.2 h18) ?_
      refine W_region fun k kp hk hp => ?_
      refine go ?_
      obtain ⟨y23, hc19, hm⟩ := bd hm
      refine RA (ref_emitting_put_ok 7 p1.k 1 1 2 0 y11 v12 _ hc19) [0, 1] ?_
      rintro p σ' hq20 _
      obtain ⟨v24, rfl, rfl⟩ := hq20
      refine RunRest_ops ?_
      refine go ?_
      refine hk _ _ ?_
      clear hk hp k kp
      refine KBlock_n ?_
      refine KJoinM_n y23 v24 hm ?_
      exact ls
     ·rw [if_neg h18] at hm
      refine W_condf rfl (beq_eq_false_iff_ne.2 h18) ?_
      refine W_rg [40, 49, 56] ?_
      by_cases h21 : p1.op = 4
      ·rw [if_pos h21] at hm
       refine W_condt rfl (beq_iff_eq.2 h21) ?_
       refine W_regF [55, 57, 58, 59, 60] fun k kp hk hp => ?_
       refine go ?_
       obtain ⟨y25, hc22, hm⟩ := bd hm
       refine RA (ref_emitting_put_ok 7 p1.k 1 1 2 0 y11 v12 _ hc22) [0, 1] ?_
       rintro p σ' hq23 _
       obtain ⟨v26, rfl, rfl⟩ := hq23
       refine RunRest_ops ?_
       refine go ?_
       refine hk _ _ ?_
       clear hk hp k kp
       refine W_region fun k kp hk hp => ?_
       refine go ?_
       obtain ⟨y27, hc24, hm⟩ := bd hm
       refine RA (ref_emitting_put_ok 5 0 1 0 p1.n p1.to y25 v26 _ hc24) [0, 1] ?_
       rintro p σ' hq25 _
       obtain ⟨v28, rfl, rfl⟩ := hq25
       refine RunRest_ops ?_
       refine go ?_
       refine hk _ _ ?_
       clear hk hp k kp
       refine KBlock_n ?_
       refine KJoinM_n y27 v28 hm ?_
       exact ls
      ·rw [if_neg h21] at hm
       refine W_condf rfl (beq_eq_false_iff_ne.2 h21) ?_
       refine W_skip ?_
       refine KBlock_n ?_
       refine KJoinM_n y11 v12 hm ?_
       exact ls
   ·rintro l15 v16 hm
    replace hm : ref_emitting_step_j2 p1 l15 = some r := hm
    refine W_eqm ?_
    unfold ref_emitting_step_j2 at hm
    refine W_regF [67, 68] fun k kp hk hp => ?_
    refine go ?_
    obtain ⟨y17, hc10, hm⟩ := bd hm
    refine RA (ref_emitting_put_ok 11 0 0 0 0 0 l15 v16 _ hc10) [0, 1] ?_
    rintro p σ' hq11 _
    obtain ⟨v18, rfl, rfl⟩ := hq11
    refine RunRest_ops ?_
    refine go ?_
    refine hk _ _ ?_
    clear hk hp k kp
    refine W_rg [69, 70] ?_
    by_cases h12 : p1.op = 3
    ·rw [if_pos h12] at hm
     refine W_condt rfl (beq_iff_eq.2 h12) ?_
     refine W_region fun k kp hk hp => ?_
     refine go ?_
     obtain ⟨y19, hc13, hm⟩ := bd hm
     refine RA (ref_emitting_put_ok 4 0 1 0 0 p1.to y17 v18 _ hc13) [0, 1] ?_
     rintro p σ' hq14 _
     obtain ⟨v20, rfl, rfl⟩ := hq14
     refine RunRest_ops ?_
     refine go ?_
     refine hk _ _ ?_
     clear hk hp k kp
     refine KBody_nrm [.box [.osl 1 v20 0 y19.length], .arr 6 v20 118 (y19.map TIns.enc)] ?_
     obtain rfl := Option.some.inj hm
     exact en
    ·rw [if_neg h12] at hm
     refine W_condf rfl (beq_eq_false_iff_ne.2 h12) ?_
     refine W_skip ?_
     refine KBody_nrm [.box [.osl 1 v18 0 y17.length], .arr 6 v18 118 (y17.map TIns.enc)] ?_
     obtain rfl := Option.some.inj hm
     exact en
end Pam

/- the walk of ref_CostOf, printed by a program of ours -/
namespace Pam
open Go Go.Proofs
set_option maxRecDepth 100000 in
set_option maxHeartbeats 8000000 in
theorem ref_CostOf_ok (p1 : List TIns) (v0_ : Nat) (r : Int) (hm : ref_CostOf p1 = some r) : Spec Try.prog 74 [.c (.osl 0 v0_ 0 p1.length)] [.arr 6 v0_ 118 (p1.map TIns.enc)] (fun p σ => (p = .c (.int .i64 r) ∧ σ = [.arr 6 v0_ 118 (p1.map TIns.enc)])) (fun _ _ => False) := by
 refine Spec_ofD 81 [.tmp 2] Try.func74 rfl rfl rfl (by kernel_rfl) (by simp) ?_
 refine W_eqf ?_
 unfold ref_CostOf at hm
 refine W_rg [2] ?_
 refine W_rg [] ?_
 refine W_joinM (S := Int) (V := Unit) [0, 2, 3, 4, 5, 6, 7, 8, 9, 10, 11, 12, 13, 14, 15, 16, 17, 18, 19, 20, 21, 22, 23, 24, 25, 26, 27, 28, 29, 30, 31, 32, 33, 34, 35, 36, 37, 38, 39, 40, 41, 42, 43, 44, 45, 46, 47, 48, 49, 50, 51, 52, 53, 54, 55, 56, 57, 58, 59, 60, 61, 62, 63, 64, 65, 66, 67, 68, 69, 70, 71, 72, 73, 74, 75, 76, 77, 78, 79] (fun x1 _ => [(3, .c (.int .i64 x1))]) (fun x1 _ => [.arr 6 v0_ 118 (p1.map TIns.enc)]) (fun x1 => ref_CostOf_j1 x1 = some r) ?_ ?_
 ·skip
  refine W_rg [] ?_
  refine W_block ?_
  obtain ⟨o1, hl1, hm1⟩ := bd hm
  refine W_loopM (S := (Int × Int)) (V := Unit) (O := Int ⊕ Int) [0, 2, 3, 4, 5, 6, 7, 8, 9, 10, 11, 12, 13, 14, 15, 16, 17, 18, 19, 20, 21, 22, 23, 24, 25, 26, 27, 28, 29, 30, 31, 32, 33, 34, 35, 36, 37, 38, 39, 40, 41, 42, 43, 44, 45, 46, 47, 48, 49, 50, 51, 52, 53, 54, 55, 56, 57, 58, 59, 60, 61, 62, 63, 64, 65, 66, 67, 68, 69, 70, 71, 72, 73, 74, 75, 76, 77, 78, 79] (fun (x6, x7) _ => [(0, .c (.osl 0 v0_ 0 p1.length)), (3, .c (.int .i64 x6)), (4, .c (.int .i64 x7))]) (fun (x6, x7) _ => [.arr 6 v0_ 118 (p1.map TIns.enc)]) _ _ () hl1 ?_ ?_
  ·exact ls
  ·rintro ⟨x6, x7⟩ _ r1 hm hr1
   replace hm : ref_CostOf_l1 p1 x6 x7 = some r1 := hm
   refine W_eqm ?_
   unfold ref_CostOf_l1 at hm
   refine W_seq_k fun k1 hk1 => ?_
   refine W_rg [6, 7, 8] ?_
   by_cases h1 : x7 < (p1.length : Int)
   ·rw [if_pos h1] at hm
    refine W_condt rfl (decide_eq_true h1) ?_
    refine W_skip ?_
    refine KThen_n (hk1 _ _ ?_)
    refine W_joinM (S := (Int × Int)) (V := Unit) [0, 2, 3, 4, 5, 9, 12, 13, 14, 15, 16, 17, 18, 19, 20, 21, 22, 23, 24, 25, 26, 27, 28, 29, 30, 31, 32, 33, 34, 35, 36, 37, 38, 39, 40, 41, 42, 43, 44, 45, 46, 47, 48, 49, 50, 51, 52, 53, 54, 55, 56, 57, 58, 59, 60, 61, 62, 63, 64, 65, 66, 67, 68, 69, 70, 71, 72, 73, 74, 75, 76, 77, 78, 79] (fun (x8, x9) _ => [(0, .c (.osl 0 v0_ 0 p1.length)), (3, .c (.int .i64 x8)), (4, .c (.int .i64 x9))]) (fun (x8, x9) _ => [.arr 6 v0_ 118 (p1.map TIns.enc)]) (fun (x8, x9) => ref_CostOf_j2 x8 x9 = some r1) ?_ ?_
    ·skip
     refine W_block ?_
     refine W_rg [9, 12, 13] ?_
     refine W_seq_k fun k2 hk2 => ?_
     obtain ⟨hg2a, hm⟩ := gd hm
     refine W_rgx (em TIns.enc p1 x7.toNat) [14, 15, 16, 17, 18] ?_
     by_cases h3 : ((p1.getD x7.toNat default).op) = 11
     ·rw [if_pos h3] at hm
      refine W_condt rfl (beq_iff_eq.2 h3) ?_
      refine W_rg [0, 3, 4, 19] ?_
      have ho4 := out_eq hm hr1
      subst ho4
      replace hm : some 0 = some r := hm1
      refine W_ret ?_
      refine KThen_r ?_
      refine KBlock_r ?_
      refine KJoinM_r ?_
      refine KLoopM_r ?_
      refine KBlock_r ?_
      refine KJoinM_r ?_
      refine KBody_ret [.arr 6 v0_ 118 (p1.map TIns.enc)] ?_
      obtain rfl := Option.some.inj hm
      exact en
     ·rw [if_neg h3] at hm
      refine W_condf rfl (beq_eq_false_iff_ne.2 h3) ?_
      refine W_skip ?_
      refine KThen_n (hk2 _ _ ?_)
      refine W_seq_k fun k3 hk3 => ?_
      refine W_rgx (em TIns.enc p1 x7.toNat) [19, 20, 21, 22, 23, 24] ?_
      by_cases h5 : ¬ ((p1.getD x7.toNat default).op) = 10
      ·rw [if_pos h5] at hm
       refine W_condt rfl (bne_iff_ne.2 h5) ?_
       refine W_exit ?_
       refine KThen_x ?_
       refine KBlock_hit ?_
       refine KJoinM_n ((IntKind.wrap .i64 (x6 + 1)), x7) () hm ?_
       exact ls
      ·rw [if_neg h5] at hm
       refine W_condf rfl (bne_eq_false_iff_eq.2 (Decidable.not_not.1 h5)) ?_
       refine W_skip ?_
       refine KThen_n (hk3 _ _ ?_)
       refine W_rg [25, 26, 27] ?_
       refine W_joinM (S := Int) (V := Unit) [0, 2, 5, 28, 29, 30, 31, 32, 33, 34, 35, 36, 37, 38, 39, 40, 41, 42, 43, 44, 45, 46, 47] (fun x10 _ => [(0, .c (.osl 0 v0_ 0 p1.length)), (5, .c (.int .i64 x10))]) (fun x10 _ => [.arr 6 v0_ 118 (p1.map TIns.enc)]) (fun x10 => ref_CostOf_j3 p1 x6 x7 x10 = some r1) ?_ ?_
       ·skip
        refine W_block ?_
        obtain ⟨o2, hl2, hm2⟩ := bd hm
        refine W_loopM (S := Int) (V := Unit) (O := Int ⊕ Int) [0, 2, 5, 28, 29, 30, 31, 32, 33, 34, 35, 36, 37, 38, 39, 40, 41, 42, 43, 44, 45, 46, 47] (fun x13 _ => [(0, .c (.osl 0 v0_ 0 p1.length)), (5, .c (.int .i64 x13))]) (fun x13 _ => [.arr 6 v0_ 118 (p1.map TIns.enc)]) _ _ () hl2 ?_ ?_
        ·exact ls
        ·rintro x13 _ r2 hm hr2
         replace hm : ref_CostOf_l2 p1 x13 = some r2 := hm
         refine W_eqm ?_
         unfold ref_CostOf_l2 at hm
         refine W_seq_k fun k5 hk5 => ?_
         refine W_regG [28, 29, 30, 31, 32, 33, 34, 35, 36, 37, 38] fun k kp hk hp => ?_
         refine RunRest_cut 5 ?_
         refine go ?_
         by_cases h12 : x13 < (p1.length : Int)
         ·rw [if_pos h12] at hm
          have h12b : decide (x13 < (p1.length : Int)) = true := decide_eq_true h12
          obtain ⟨hg13a, hm⟩ := gd hm
          refine RunRest_ops ?_
          refine gox (a2 (em TIns.enc p1 x13.toNat) h12b) ?_
          refine hk _ _ ?_
          clear hk hp k kp
          by_cases h14 : ¬ ((p1.getD x13.toNat default).op) = 11
          ·rw [if_pos h14] at hm
           refine W_condt rfl (bne_iff_ne.2 h14) ?_
           refine W_skip ?_
           refine KThen_n (hk5 _ _ ?_)
           refine W_block ?_
           refine W_seq_k fun k6 hk6 => ?_
           refine W_rgx (em TIns.enc p1 x13.toNat) [39, 40, 41, 42, 43, 44] ?_
           by_cases h15 : ((p1.getD x13.toNat default).op) = 10
           ·rw [if_pos h15] at hm
            refine W_condt rfl (beq_iff_eq.2 h15) ?_
            refine W_rg [0, 3, 4, 5, 45] ?_
            have ho16 := out_eq hm hr2
            subst ho16
            replace hm : some (.inr (.inr 0)) = some r1 := hm2
            have ho17 := out_eq hm hr1
            subst ho17
            replace hm : some 0 = some r := hm1
            refine W_ret ?_
            refine KThen_r ?_
            refine KBlock_r ?_
            refine KLoopM_r ?_
            refine KBlock_r ?_
            refine KJoinM_r ?_
            refine KBlock_r ?_
            refine KJoinM_r ?_
            refine KLoopM_r ?_
            refine KBlock_r ?_
            refine KJoinM_r ?_
            refine KBody_ret [.arr 6 v0_ 118 (p1.map TIns.enc)] ?_
            obtain rfl := Option.some.inj hm
            exact en
           ·rw [if_neg h15] at hm
            refine W_condf rfl (beq_eq_false_iff_ne.2 h15) ?_
            refine W_skip ?_
            refine KThen_n (hk6 _ _ ?_)
            refine W_rn ?_
            refine KBlock_n ?_
            refine KLoopM_n (IntKind.wrap .i64 (x13 + 1)) () hm ?_
            exact ls
          ·rw [if_neg h14] at hm
           refine W_condf rfl (bne_eq_false_iff_eq.2 (Decidable.not_not.1 h14)) ?_
           refine W_exit ?_
           have ho18 := out_eq hm hr2
           subst ho18
           replace hm : ref_CostOf_j3 p1 x6 x7 x13 = some r1 := hm2
           refine KThen_x ?_
           refine KLoopM_x ?_
           refine KBlock_hit ?_
           refine KJoinM_n x13 () hm ?_
           exact ls
         ·rw [if_neg h12] at hm
          have h12b : decide (x13 < (p1.length : Int)) = false := decide_eq_false h12
          refine RunRest_ops ?_
          refine gox h12b ?_
          refine hk _ _ ?_
          clear hk hp k kp
          refine W_condf rfl rfl ?_
          refine W_exit ?_
          have ho19 := out_eq hm hr2
          subst ho19
          replace hm : ref_CostOf_j3 p1 x6 x7 x13 = some r1 := hm2
          refine KThen_x ?_
          refine KLoopM_x ?_
          refine KBlock_hit ?_
          refine KJoinM_n x13 () hm ?_
          exact ls
       ·rintro x10 _ hm
        replace hm : ref_CostOf_j3 p1 x6 x7 x10 = some r1 := hm
        refine W_eqm ?_
        unfold ref_CostOf_j3 at hm
        refine W_seq_k fun k4 hk4 => ?_
        refine W_regG [48, 49, 50, 51, 52, 53, 54, 55, 56, 57, 58, 59, 60, 61, 62, 63, 64, 65, 66] fun k kp hk hp => ?_
        refine RunRest_cut 5 ?_
        refine go ?_
        by_cases h6 : x10 = (p1.length : Int)
        ·rw [if_pos h6] at hm
         have h6b : (x10 == (p1.length : Int)) = true := beq_iff_eq.2 h6
         refine RunRest_ops ?_
         refine gox h6b ?_
         refine hk _ _ ?_
         clear hk hp k kp
         refine W_condt rfl rfl ?_
         refine W_rg [0, 3, 4, 5, 67] ?_
         have ho7 := out_eq hm hr1
         subst ho7
         replace hm : some 0 = some r := hm1
         refine W_ret ?_
         refine KThen_r ?_
         refine KBlock_r ?_
         refine KJoinM_r ?_
         refine KLoopM_r ?_
         refine KBlock_r ?_
         refine KJoinM_r ?_
         refine KBody_ret [.arr 6 v0_ 118 (p1.map TIns.enc)] ?_
         obtain rfl := Option.some.inj hm
         exact en
        ·rw [if_neg h6] at hm
         have h6b : (x10 == (p1.length : Int)) = false := beq_eq_false_iff_ne.2 h6
         refine RunRest_cut 8 ?_
         refine gox (a2 (em TIns.enc p1 x7.toNat) h6b) ?_
         by_cases h8 : ((p1.getD x7.toNat default).n) < 1
         ·rw [if_pos h8] at hm
          have h8b : decide (((p1.getD x7.toNat default).n) < 1) = true := decide_eq_true h8
          refine RunRest_ops ?_
          refine gox (a2 h6b h8b) ?_
          refine hk _ _ ?_
          clear hk hp k kp
          refine W_condt rfl rfl ?_
          refine W_rg [0, 3, 4, 5, 67] ?_
          have ho9 := out_eq hm hr1
          subst ho9
          replace hm : some 0 = some r := hm1
          refine W_ret ?_
          refine KThen_r ?_
          refine KBlock_r ?_
          refine KJoinM_r ?_
          refine KLoopM_r ?_
          refine KBlock_r ?_
          refine KJoinM_r ?_
          refine KBody_ret [.arr 6 v0_ 118 (p1.map TIns.enc)] ?_
          obtain rfl := Option.some.inj hm
          exact en
         ·rw [if_neg h8] at hm
          have h8b : decide (((p1.getD x7.toNat default).n) < 1) = false := decide_eq_false h8
          refine RunRest_ops ?_
          refine gox (a2 (em TIns.enc p1 x7.toNat) (a2 h6b h8b)) ?_
          refine hk _ _ ?_
          clear hk hp k kp
          by_cases h10 : ((p1.getD x7.toNat default).n) > 300
          ·rw [if_pos h10] at hm
           refine W_condt rfl (decide_eq_true h10) ?_
           refine W_rg [0, 3, 4, 5, 67] ?_
           have ho11 := out_eq hm hr1
           subst ho11
           replace hm : some 0 = some r := hm1
           refine W_ret ?_
           refine KThen_r ?_
           refine KBlock_r ?_
           refine KJoinM_r ?_
           refine KLoopM_r ?_
           refine KBlock_r ?_
           refine KJoinM_r ?_
           refine KBody_ret [.arr 6 v0_ 118 (p1.map TIns.enc)] ?_
           obtain rfl := Option.some.inj hm
           exact en
          ·rw [if_neg h10] at hm
           refine W_condf rfl (decide_eq_false h10) ?_
           refine W_skip ?_
           refine KThen_n (hk4 _ _ ?_)
           refine W_rgx (em TIns.enc p1 x7.toNat) [4, 67, 68, 69, 70, 71, 72, 73, 74, 75, 76, 77, 78] ?_
           refine W_rn ?_
           refine KBlock_n ?_
           refine KJoinM_n ((IntKind.wrap .i64 ((IntKind.wrap .i64 (x6 + 1)) + (IntKind.wrap .i64 (((p1.getD x7.toNat default).n) * (IntKind.wrap .i64 (x10 - x7)))))), x10) () hm ?_
           exact ls
    ·rintro ⟨x8, x9⟩ _ hm
     replace hm : ref_CostOf_j2 x8 x9 = some r1 := hm
     refine W_eqm ?_
     unfold ref_CostOf_j2 at hm
     refine W_rn ?_
     refine KLoopM_n (x8, (IntKind.wrap .i64 (x9 + 1))) () hm ?_
     exact ls
   ·rw [if_neg h1] at hm
    refine W_condf rfl (decide_eq_false h1) ?_
    refine W_exit ?_
    have ho20 := out_eq hm hr1
    subst ho20
    replace hm : ref_CostOf_j1 x6 = some r := hm1
    refine KThen_x ?_
    refine KLoopM_x ?_
    refine KBlock_hit ?_
    refine KJoinM_n x6 () hm ?_
    exact ls
 ·rintro x1 _ hm
  replace hm : ref_CostOf_j1 x1 = some r := hm
  refine W_eqm ?_
  unfold ref_CostOf_j1 at hm
  refine W_rg [3, 80] ?_
  refine W_ret ?_
  refine KBody_ret [.arr 6 v0_ 118 (p1.map TIns.enc)] ?_
  obtain rfl := Option.some.inj hm
  exact en
end Pam

/- the walk of ref_regsOK, printed by a program of ours -/
namespace Pam
open Go Go.Proofs
set_option maxRecDepth 100000 in
set_option maxHeartbeats 1000000 in
theorem ref_regsOK_ok (p1 : TImage) (p2 : List Int) (r : Bool) (hm : ref_regsOK p1 p2 = some r) : SpecF Try.prog 121 [.a [.int .i64 p1.cells, .int .i64 p1.regs, .int .i64 p1.cost, .tree 1 (p1.put.map (eK .i64)), .tree 1 (p1.bools.map (eK .i64)), .tree 1 (p1.get.map (eK .i64)), .tree 6 (p1.code.map TIns.enc)], .c (.tree 1 (p2.map (eK .i64)))] (.c (.bool r)) := by
 refine Spec_ofD 26 [.tmp 4] Try.func121 rfl rfl rfl (by kernel_rfl) (by simp) ?_
 refine W_eqf ?_
 unfold ref_regsOK at hm
 refine W_rg [0, 4] ?_
 refine W_joinM (S := Unit) (V := Unit) [1, 2, 4, 5, 6, 7, 8, 9, 10, 11, 12, 13, 14, 15, 16, 17, 18, 19, 20, 21, 22, 23, 24, 25] (fun _ _ => []) (fun _ _ => [.box [.int .i64 p1.cells, .int .i64 p1.regs, .int .i64 p1.cost, .tree 1 (p1.put.map (eK .i64)), .tree 1 (p1.bools.map (eK .i64)), .tree 1 (p1.get.map (eK .i64)), .tree 6 (p1.code.map TIns.enc)]]) (fun _ => ref_regsOK_j1 = some r) ?_ ?_
 ·skip
  refine W_rg [] ?_
  refine W_block ?_
  obtain ⟨o1, hl1, hm1⟩ := bd hm
  refine W_loopM (S := Int) (V := Unit) (O := Unit ⊕ Bool) [4, 5, 6, 7, 8, 9, 10, 11, 12, 13, 14, 15, 16, 17, 18, 19, 20, 21, 22, 23, 24, 25] (fun x3 _ => [(5, .c (.int .i64 x3))]) (fun x3 _ => [.box [.int .i64 p1.cells, .int .i64 p1.regs, .int .i64 p1.cost, .tree 1 (p1.put.map (eK .i64)), .tree 1 (p1.bools.map (eK .i64)), .tree 1 (p1.get.map (eK .i64)), .tree 6 (p1.code.map TIns.enc)]]) _ _ () hl1 ?_ ?_
  ·exact ls
  ·rintro x3 _ r1 hm hr1
   replace hm : ref_regsOK_l1 p1 p2 x3 = some r1 := hm
   refine W_eqm ?_
   unfold ref_regsOK_l1 at hm
   refine W_seq_k fun k1 hk1 => ?_
   refine W_rg [6, 7, 8] ?_
   by_cases h1 : x3 < (p2.length : Int)
   ·rw [if_pos h1] at hm
    refine W_condt rfl (decide_eq_true h1) ?_
    refine W_skip ?_
    refine KThen_n (hk1 _ _ ?_)
    refine W_seq_k fun k2 hk2 => ?_
    refine W_block ?_
    obtain ⟨hg2a, hm⟩ := gd hm
    refine W_anyTF [9, 12, 13, 14, 15, 16, 17, 18, 19, 20, 21, 22, 23, 24] (by kernel_rfl) [0, 0, 3, 7, 15, 31, 63, 63, 255, 511, 63, 1087, 4095, 8191] [false, false, true, true, true, true, false, false, false, false, false, false, true, true] (by kernel_rfl) fun k hk => ?_
    refine TR_cut 6 rfl ?_
    refine gax (em (eK .i64) p2 x3.toNat) ?_
    by_cases h3 : (p2.getD x3.toNat default) < 0
    ·rw [if_pos h3] at hm
     have h3b : decide ((p2.getD x3.toNat default) < 0) = true := decide_eq_true h3
     refine TR_ops ?_
     refine gax h3b ?_
     refine hk _ _ ?_
     clear hk k
     refine W_condt rfl rfl ?_
     refine W_rg [1, 2, 5, 25] ?_
     have ho4 := out_eq hm hr1
     subst ho4
     replace hm : some false = some r := hm1
     refine W_ret ?_
     refine KBlock_r ?_
     refine KThen_r ?_
     refine KLoopM_r ?_
     refine KBlock_r ?_
     refine KJoinM_r ?_
     refine KBody_ret [] ?_
     obtain rfl := Option.some.inj hm
     exact en
    ·rw [if_neg h3] at hm
     have h3b : decide ((p2.getD x3.toNat default) < 0) = false := decide_eq_false h3
     refine TR_ops ?_
     refine gax (a2 (em (eK .i64) p2 x3.toNat) h3b) ?_
     refine hk _ _ ?_
     clear hk k
     by_cases h5 : (p2.getD x3.toNat default) ≥ p1.regs
     ·rw [if_pos h5] at hm
      refine W_condt rfl (decide_eq_true h5) ?_
      refine W_rg [1, 2, 5, 25] ?_
      have ho6 := out_eq hm hr1
      subst ho6
      replace hm : some false = some r := hm1
      refine W_ret ?_
      refine KBlock_r ?_
      refine KThen_r ?_
      refine KLoopM_r ?_
      refine KBlock_r ?_
      refine KJoinM_r ?_
      refine KBody_ret [] ?_
      obtain rfl := Option.some.inj hm
      exact en
     ·rw [if_neg h5] at hm
      refine W_condf rfl (decide_eq_false h5) ?_
      refine W_skip ?_
      refine KBlock_n ?_
      refine KThen_n (hk2 _ _ ?_)
      refine W_rn ?_
      refine KLoopM_n (IntKind.wrap .i64 (x3 + 1)) () hm ?_
      exact ls
   ·rw [if_neg h1] at hm
    refine W_condf rfl (decide_eq_false h1) ?_
    refine W_exit ?_
    have ho7 := out_eq hm hr1
    subst ho7
    replace hm : ref_regsOK_j1 = some r := hm1
    refine KThen_x ?_
    refine KLoopM_x ?_
    refine KBlock_hit ?_
    refine KJoinM_n () () hm ?_
    exact ls
 ·rintro _ _ hm
  replace hm : ref_regsOK_j1 = some r := hm
  refine W_eqm ?_
  unfold ref_regsOK_j1 at hm
  refine W_rg [] ?_
  refine W_ret ?_
  refine KBody_ret [] ?_
  obtain rfl := Option.some.inj hm
  exact en
end Pam

/- the walk of ref_insOK, printed by a program of ours -/
namespace Pam
open Go Go.Proofs
set_option maxRecDepth 100000 in
set_option maxHeartbeats 8000000 in
theorem ref_insOK_ok (p1 : TImage) (p2 : TIns) (r : Bool) (hm : ref_insOK p1 p2 = some r) : SpecF Try.prog 78 [.a [.int .i64 p1.cells, .int .i64 p1.regs, .int .i64 p1.cost, .tree 1 (p1.put.map (eK .i64)), .tree 1 (p1.bools.map (eK .i64)), .tree 1 (p1.get.map (eK .i64)), .tree 6 (p1.code.map TIns.enc)], .a [.int .i64 p2.op, .int .i64 p2.k, .int .i64 p2.r_, .int .i64 p2.a, .int .i64 p2.b, .int .i64 p2.n]] (.c (.bool r)) := by
 refine Spec_ofD 149 [.tmp 4] Try.func78 rfl rfl rfl (by kernel_rfl) (by simp) ?_
 refine W_eqf ?_
 unfold ref_insOK at hm
 refine W_rg [0, 1, 4] ?_
 refine W_regF [5, 6, 8, 9, 10, 11, 12, 13, 14] fun k kp hk hp => ?_
 refine go ?_
 obtain ⟨y1, hc1, hm⟩ := bd hm
 refine RP (fun _ => ref_OpOf_ok p2.k _ hc1) ?_
 refine RunRest_ops ?_
 refine go ?_
 refine hk _ _ ?_
 clear hk hp k kp
 refine W_seq_k fun k1 hk1 => ?_
 refine W_rg [15] ?_
 refine W_block ?_
 refine W_rg [18] ?_
 by_cases h2 : p2.op = 1
 ·rw [if_pos h2] at hm
  refine W_condt rfl (beq_iff_eq.2 h2) ?_
  refine W_regF [2, 3, 7, 16, 17, 19, 20, 21, 22, 23] fun k kp hk hp => ?_
  refine go ?_
  refine RunCall_turn (Ghost_fr 2 rfl) ?_
  simp only [bR, bT, tab, bX, reduceIte, ↓reduceIte, reduceCtorEq, Int.reduceToNat, Nat.reduceDiv, Nat.reduceMod, Nat.reduceLT, Nat.reduceLeDiff, Nat.reduceAdd, Nat.reduceSub, Nat.reduceMul, Nat.reduceEqDiff, Nat.reduceBEq, Nat.reduceBNe, Nat.reduceGT, bZ, List.replicate, List.foldr]
  repeat refine ⟨by first | omega | assumption | decide | exact all_len fun _ => rfl | (intro _; omega) | rfl | exact fun e => absurd (List.map_eq_nil_iff.1 e) (by assumption) | (and_intros <;> first | omega | assumption | decide | exact all_len fun _ => rfl), ?_⟩
  obtain ⟨y2, hc3, hm⟩ := bd hm
  refine RP (fun _ => ref_regsOK_ok p1 (lit ([p2.r_] : List Int)) _ hc3) ?_
  refine RunRest_ops ?_
  refine go ?_
  refine hk _ _ ?_
  clear hk hp k kp
  refine W_ret ?_
  refine KBlock_r ?_
  refine KThen_r ?_
  refine KBody_ret [] ?_
  obtain rfl := Option.some.inj hm
  exact en
 ·rw [if_neg h2] at hm
  refine W_condf rfl (beq_eq_false_iff_ne.2 h2) ?_
  refine W_joinM (S := Bool) (V := Unit) [17, 24, 25, 26] (fun b3 _ => [(24, .c (.bool b3))]) (fun b3 _ => [.box [.int .i64 p1.cells, .int .i64 p1.regs, .int .i64 p1.cost, .tree 1 (p1.put.map (eK .i64)), .tree 1 (p1.bools.map (eK .i64)), .tree 1 (p1.get.map (eK .i64)), .tree 6 (p1.code.map TIns.enc)], .box [.int .i64 p2.op, .int .i64 p2.k, .int .i64 p2.r_, .int .i64 p2.a, .int .i64 p2.b, .int .i64 p2.n]]) (fun b3 => ref_insOK_j1 p1 p2 y1 b3 = some r) ?_ ?_
  ·skip
   refine W_rg [17, 25] ?_
   by_cases h29 : p2.op = 2
   ·rw [if_pos h29] at hm
    refine W_condt rfl (beq_iff_eq.2 h29) ?_
    refine W_skip ?_
    refine KJoinM_n (p2.op == 2) () hm ?_
    exact ls
   ·rw [if_neg h29] at hm
    refine W_condf rfl (beq_eq_false_iff_ne.2 h29) ?_
    refine W_rn ?_
    refine KJoinM_n (p2.op == 4) () hm ?_
    exact ls
  ·rintro b3 _ hm
   replace hm : ref_insOK_j1 p1 p2 y1 b3 = some r := hm
   refine W_eqm ?_
   unfold ref_insOK_j1 at hm
   by_cases h4 : b3 = true
   ·rw [if_pos h4] at hm
    refine W_condt rfl (h4) ?_
    refine W_regF [2, 3, 7, 16, 24, 27, 28, 29, 30, 31, 32, 33, 34, 35, 36, 37, 38, 39, 40, 41, 42, 43] fun k kp hk hp => ?_
    refine go ?_
    refine RunCall_turn (Ghost_fr 2 rfl) ?_
    simp only [bR, bT, tab, bX, reduceIte, ↓reduceIte, reduceCtorEq, Int.reduceToNat, Nat.reduceDiv, Nat.reduceMod, Nat.reduceLT, Nat.reduceLeDiff, Nat.reduceAdd, Nat.reduceSub, Nat.reduceMul, Nat.reduceEqDiff, Nat.reduceBEq, Nat.reduceBNe, Nat.reduceGT, bZ, List.replicate, List.foldr]
    repeat refine ⟨by first | omega | assumption | decide | exact all_len fun _ => rfl | (intro _; omega) | rfl | exact fun e => absurd (List.map_eq_nil_iff.1 e) (by assumption) | (and_intros <;> first | omega | assumption | decide | exact all_len fun _ => rfl), ?_⟩
    obtain ⟨y4, hc5, hm⟩ := bd hm
    refine RP (fun _ => ref_regsOK_ok p1 (lit ([p2.r_] : List Int)) _ hc5) ?_
    by_cases h6 : y4 = true
    ·rw [if_pos h6] at hm
     have h6b : y4 = true := h6
     refine RunRest_cut 6 ?_
     refine gox h6b ?_
     by_cases h7 : p2.n ≥ 0
     ·rw [if_pos h7] at hm
      have h7b : decide (p2.n ≥ 0) = true := decide_eq_true h7
      refine RunRest_ops ?_
      refine gox (a2 h6b h7b) ?_
      refine hk _ _ ?_
      clear hk hp k kp
      refine W_ret ?_
      refine KBlock_r ?_
      refine KThen_r ?_
      refine KBody_ret [] ?_
      obtain rfl := Option.some.inj hm
      exact en
     ·rw [if_neg h7] at hm
      have h7b : decide (p2.n ≥ 0) = false := decide_eq_false h7
      refine RunRest_ops ?_
      refine gox (a2 h6b h7b) ?_
      refine hk _ _ ?_
      clear hk hp k kp
      refine W_ret ?_
      refine KBlock_r ?_
      refine KThen_r ?_
      refine KBody_ret [] ?_
      obtain rfl := Option.some.inj hm
      exact en
    ·rw [if_neg h6] at hm
     have h6b : y4 = false := Bool.eq_false_iff.2 h6
     refine RunRest_ops ?_
     refine gox h6b ?_
     refine hk _ _ ?_
     clear hk hp k kp
     refine W_ret ?_
     refine KBlock_r ?_
     refine KThen_r ?_
     refine KBody_ret [] ?_
     obtain rfl := Option.some.inj hm
     exact en
   ·rw [if_neg h4] at hm
    refine W_condf rfl (Bool.eq_false_iff.2 h4) ?_
    refine W_joinM (S := Bool) (V := Unit) [24, 44, 45, 46] (fun b5 _ => [(44, .c (.bool b5))]) (fun b5 _ => [.box [.int .i64 p1.cells, .int .i64 p1.regs, .int .i64 p1.cost, .tree 1 (p1.put.map (eK .i64)), .tree 1 (p1.bools.map (eK .i64)), .tree 1 (p1.get.map (eK .i64)), .tree 6 (p1.code.map TIns.enc)], .box [.int .i64 p2.op, .int .i64 p2.k, .int .i64 p2.r_, .int .i64 p2.a, .int .i64 p2.b, .int .i64 p2.n]]) (fun b5 => ref_insOK_j2 p1 p2 y1 b5 = some r) ?_ ?_
    ·skip
     refine W_rg [24, 45] ?_
     by_cases h28 : p2.op = 3
     ·rw [if_pos h28] at hm
      refine W_condt rfl (beq_iff_eq.2 h28) ?_
      refine W_skip ?_
      refine KJoinM_n (p2.op == 3) () hm ?_
      exact ls
     ·rw [if_neg h28] at hm
      refine W_condf rfl (beq_eq_false_iff_ne.2 h28) ?_
      refine W_rn ?_
      refine KJoinM_n (p2.op == 5) () hm ?_
      exact ls
    ·rintro b5 _ hm
     replace hm : ref_insOK_j2 p1 p2 y1 b5 = some r := hm
     refine W_eqm ?_
     unfold ref_insOK_j2 at hm
     by_cases h8 : b5 = true
     ·rw [if_pos h8] at hm
      refine W_condt rfl (h8) ?_
      refine W_regF [2, 3, 7, 16, 44, 47, 48, 49, 50, 51, 52, 53, 54, 55, 56, 57, 58, 59, 60, 61, 62, 63, 64, 65, 66, 67, 68, 69, 70, 71, 72, 73, 74, 75, 76, 77, 78, 79, 80] fun k kp hk hp => ?_
      refine go ?_
      refine RunCall_turn (Ghost_fr 2 rfl) ?_
      simp only [bR, bT, tab, bX, reduceIte, ↓reduceIte, reduceCtorEq, Int.reduceToNat, Nat.reduceDiv, Nat.reduceMod, Nat.reduceLT, Nat.reduceLeDiff, Nat.reduceAdd, Nat.reduceSub, Nat.reduceMul, Nat.reduceEqDiff, Nat.reduceBEq, Nat.reduceBNe, Nat.reduceGT, bZ, List.replicate, List.foldr]
      repeat refine ⟨by first | omega | assumption | decide | exact all_len fun _ => rfl | (intro _; omega) | rfl | exact fun e => absurd (List.map_eq_nil_iff.1 e) (by assumption) | (and_intros <;> first | omega | assumption | decide | exact all_len fun _ => rfl), ?_⟩
      obtain ⟨y6, hc9, hm⟩ := bd hm
      refine RP (fun _ => ref_regsOK_ok p1 (lit ([p2.r_, p2.a] : List Int)) _ hc9) ?_
      by_cases h10 : y6 = true
      ·rw [if_pos h10] at hm
       have h10b : y6 = true := h10
       refine RunRest_cut 6 ?_
       refine gox h10b ?_
       by_cases h11 : p2.n ≥ 0
       ·rw [if_pos h11] at hm
        have h11b : decide (p2.n ≥ 0) = true := decide_eq_true h11
        refine RunRest_cut 7 ?_
        refine gox (a2 h10b h11b) ?_
        by_cases h12 : p2.n < p1.cells
        ·rw [if_pos h12] at hm
         have h12b : decide (p2.n < p1.cells) = true := decide_eq_true h12
         refine RunRest_cut 5 ?_
         refine gox (a2 h10b (a2 h11b h12b)) ?_
         by_cases h13 : p2.b ≥ 1
         ·rw [if_pos h13] at hm
          have h13b : decide (p2.b ≥ 1) = true := decide_eq_true h13
          refine RunRest_ops ?_
          refine gox (a2 h10b (a2 h11b (a2 h12b h13b))) ?_
          refine hk _ _ ?_
          clear hk hp k kp
          refine W_ret ?_
          refine KBlock_r ?_
          refine KThen_r ?_
          refine KBody_ret [] ?_
          obtain rfl := Option.some.inj hm
          exact en
         ·rw [if_neg h13] at hm
          have h13b : decide (p2.b ≥ 1) = false := decide_eq_false h13
          refine RunRest_ops ?_
          refine gox (a2 h10b (a2 h11b (a2 h12b h13b))) ?_
          refine hk _ _ ?_
          clear hk hp k kp
          refine W_ret ?_
          refine KBlock_r ?_
          refine KThen_r ?_
          refine KBody_ret [] ?_
          obtain rfl := Option.some.inj hm
          exact en
        ·rw [if_neg h12] at hm
         have h12b : decide (p2.n < p1.cells) = false := decide_eq_false h12
         refine RunRest_ops ?_
         refine gox (a2 h10b (a2 h11b h12b)) ?_
         refine hk _ _ ?_
         clear hk hp k kp
         refine W_ret ?_
         refine KBlock_r ?_
         refine KThen_r ?_
         refine KBody_ret [] ?_
         obtain rfl := Option.some.inj hm
         exact en
       ·rw [if_neg h11] at hm
        have h11b : decide (p2.n ≥ 0) = false := decide_eq_false h11
        refine RunRest_ops ?_
        refine gox (a2 h10b h11b) ?_
        refine hk _ _ ?_
        clear hk hp k kp
        refine W_ret ?_
        refine KBlock_r ?_
        refine KThen_r ?_
        refine KBody_ret [] ?_
        obtain rfl := Option.some.inj hm
        exact en
      ·rw [if_neg h10] at hm
       have h10b : y6 = false := Bool.eq_false_iff.2 h10
       refine RunRest_ops ?_
       refine gox h10b ?_
       refine hk _ _ ?_
       clear hk hp k kp
       refine W_ret ?_
       refine KBlock_r ?_
       refine KThen_r ?_
       refine KBody_ret [] ?_
       obtain rfl := Option.some.inj hm
       exact en
     ·rw [if_neg h8] at hm
      refine W_condf rfl (Bool.eq_false_iff.2 h8) ?_
      refine W_rg [44, 82] ?_
      by_cases h14 : p2.op = 6
      ·rw [if_pos h14] at hm
       refine W_condt rfl (beq_iff_eq.2 h14) ?_
       refine W_regF [2, 3, 7, 16, 81, 83, 84, 85, 86, 87, 88, 89, 90, 91, 92, 93] fun k kp hk hp => ?_
       refine go ?_
       refine RunCall_turn (Ghost_fr 2 rfl) ?_
       simp only [bR, bT, tab, bX, reduceIte, ↓reduceIte, reduceCtorEq, Int.reduceToNat, Nat.reduceDiv, Nat.reduceMod, Nat.reduceLT, Nat.reduceLeDiff, Nat.reduceAdd, Nat.reduceSub, Nat.reduceMul, Nat.reduceEqDiff, Nat.reduceBEq, Nat.reduceBNe, Nat.reduceGT, bZ, List.replicate, List.foldr]
       repeat refine ⟨by first | omega | assumption | decide | exact all_len fun _ => rfl | (intro _; omega) | rfl | exact fun e => absurd (List.map_eq_nil_iff.1 e) (by assumption) | (and_intros <;> first | omega | assumption | decide | exact all_len fun _ => rfl), ?_⟩
       obtain ⟨y7, hc15, hm⟩ := bd hm
       refine RP (fun _ => ref_regsOK_ok p1 (lit ([p2.r_, p2.a] : List Int)) _ hc15) ?_
       by_cases h16 : y7 = true
       ·rw [if_pos h16] at hm
        have h16b : y7 = true := h16
        refine RunRest_ops ?_
        refine gox h16b ?_
        refine hk _ _ ?_
        clear hk hp k kp
        refine W_ret ?_
        refine KBlock_r ?_
        refine KThen_r ?_
        refine KBody_ret [] ?_
        obtain rfl := Option.some.inj hm
        exact en
       ·rw [if_neg h16] at hm
        have h16b : y7 = false := Bool.eq_false_iff.2 h16
        refine RunRest_ops ?_
        refine gox h16b ?_
        refine hk _ _ ?_
        clear hk hp k kp
        refine W_ret ?_
        refine KBlock_r ?_
        refine KThen_r ?_
        refine KBody_ret [] ?_
        obtain rfl := Option.some.inj hm
        exact en
      ·rw [if_neg h14] at hm
       refine W_condf rfl (beq_eq_false_iff_ne.2 h14) ?_
       refine W_rg [81, 95] ?_
       by_cases h17 : p2.op = 7
       ·rw [if_pos h17] at hm
        refine W_condt rfl (beq_iff_eq.2 h17) ?_
        refine W_regF [2, 3, 7, 16, 94, 96, 97, 98, 99, 100, 101, 102, 103, 104, 105, 106, 107, 108] fun k kp hk hp => ?_
        refine go ?_
        refine RunCall_turn (Ghost_fr 2 rfl) ?_
        simp only [bR, bT, tab, bX, reduceIte, ↓reduceIte, reduceCtorEq, Int.reduceToNat, Nat.reduceDiv, Nat.reduceMod, Nat.reduceLT, Nat.reduceLeDiff, Nat.reduceAdd, Nat.reduceSub, Nat.reduceMul, Nat.reduceEqDiff, Nat.reduceBEq, Nat.reduceBNe, Nat.reduceGT, bZ, List.replicate, List.foldr]
        repeat refine ⟨by first | omega | assumption | decide | exact all_len fun _ => rfl | (intro _; omega) | rfl | exact fun e => absurd (List.map_eq_nil_iff.1 e) (by assumption) | (and_intros <;> first | omega | assumption | decide | exact all_len fun _ => rfl), ?_⟩
        obtain ⟨y8, hc18, hm⟩ := bd hm
        refine RP (fun _ => ref_regsOK_ok p1 (lit ([p2.r_, p2.a, p2.b] : List Int)) _ hc18) ?_
        by_cases h19 : y8 = true
        ·rw [if_pos h19] at hm
         have h19b : y8 = true := h19
         refine RunRest_ops ?_
         refine gox h19b ?_
         refine hk _ _ ?_
         clear hk hp k kp
         refine W_ret ?_
         refine KBlock_r ?_
         refine KThen_r ?_
         refine KBody_ret [] ?_
         obtain rfl := Option.some.inj hm
         exact en
        ·rw [if_neg h19] at hm
         have h19b : y8 = false := Bool.eq_false_iff.2 h19
         refine RunRest_ops ?_
         refine gox h19b ?_
         refine hk _ _ ?_
         clear hk hp k kp
         refine W_ret ?_
         refine KBlock_r ?_
         refine KThen_r ?_
         refine KBody_ret [] ?_
         obtain rfl := Option.some.inj hm
         exact en
       ·rw [if_neg h17] at hm
        refine W_condf rfl (beq_eq_false_iff_ne.2 h17) ?_
        refine W_rg [7, 94, 110] ?_
        by_cases h20 : p2.op = 8
        ·rw [if_pos h20] at hm
         refine W_condt rfl (beq_iff_eq.2 h20) ?_
         refine W_regF [2, 3, 16, 109, 111, 112, 113, 114, 115, 116, 117, 118, 119] fun k kp hk hp => ?_
         refine go ?_
         refine RunCall_turn (Ghost_fr 2 rfl) ?_
         simp only [bR, bT, tab, bX, reduceIte, ↓reduceIte, reduceCtorEq, Int.reduceToNat, Nat.reduceDiv, Nat.reduceMod, Nat.reduceLT, Nat.reduceLeDiff, Nat.reduceAdd, Nat.reduceSub, Nat.reduceMul, Nat.reduceEqDiff, Nat.reduceBEq, Nat.reduceBNe, Nat.reduceGT, bZ, List.replicate, List.foldr]
         repeat refine ⟨by first | omega | assumption | decide | exact all_len fun _ => rfl | (intro _; omega) | rfl | exact fun e => absurd (List.map_eq_nil_iff.1 e) (by assumption) | (and_intros <;> first | omega | assumption | decide | exact all_len fun _ => rfl), ?_⟩
         obtain ⟨y9, hc21, hm⟩ := bd hm
         refine RP (fun _ => ref_regsOK_ok p1 (lit ([p2.r_, p2.a, p2.b] : List Int)) _ hc21) ?_
         refine RunRest_ops ?_
         refine go ?_
         refine hk _ _ ?_
         clear hk hp k kp
         refine W_ret ?_
         refine KBlock_r ?_
         refine KThen_r ?_
         refine KBody_ret [] ?_
         obtain rfl := Option.some.inj hm
         exact en
        ·rw [if_neg h20] at hm
         refine W_condf rfl (beq_eq_false_iff_ne.2 h20) ?_
         refine W_rg [109, 121] ?_
         by_cases h22 : p2.op = 9
         ·rw [if_pos h22] at hm
          refine W_condt rfl (beq_iff_eq.2 h22) ?_
          refine W_regF [2, 3, 16, 120, 122, 123, 124, 125, 126, 127, 128] fun k kp hk hp => ?_
          refine go ?_
          refine RunCall_turn (Ghost_fr 2 rfl) ?_
          simp only [bR, bT, tab, bX, reduceIte, ↓reduceIte, reduceCtorEq, Int.reduceToNat, Nat.reduceDiv, Nat.reduceMod, Nat.reduceLT, Nat.reduceLeDiff, Nat.reduceAdd, Nat.reduceSub, Nat.reduceMul, Nat.reduceEqDiff, Nat.reduceBEq, Nat.reduceBNe, Nat.reduceGT, bZ, List.replicate, List.foldr]
          repeat refine ⟨by first | omega | assumption | decide | exact all_len fun _ => rfl | (intro _; omega) | rfl | exact fun e => absurd (List.map_eq_nil_iff.1 e) (by assumption) | (and_intros <;> first | omega | assumption | decide | exact all_len fun _ => rfl), ?_⟩
          obtain ⟨y10, hc23, hm⟩ := bd hm
          refine RP (fun _ => ref_regsOK_ok p1 (lit ([p2.r_, p2.a] : List Int)) _ hc23) ?_
          refine RunRest_ops ?_
          refine go ?_
          refine hk _ _ ?_
          clear hk hp k kp
          refine W_ret ?_
          refine KBlock_r ?_
          refine KThen_r ?_
          refine KBody_ret [] ?_
          obtain rfl := Option.some.inj hm
          exact en
         ·rw [if_neg h22] at hm
          refine W_condf rfl (beq_eq_false_iff_ne.2 h22) ?_
          refine W_rg [16, 120, 130] ?_
          by_cases h24 : p2.op = 10
          ·rw [if_pos h24] at hm
           refine W_condt rfl (beq_iff_eq.2 h24) ?_
           refine W_regF [2, 3, 129, 131, 132, 133, 134, 135, 136, 137, 138, 139, 140, 141, 142, 143, 144, 145] fun k kp hk hp => ?_
           refine go ?_
           refine RunCall_turn (Ghost_fr 2 rfl) ?_
           simp only [bR, bT, tab, bX, reduceIte, ↓reduceIte, reduceCtorEq, Int.reduceToNat, Nat.reduceDiv, Nat.reduceMod, Nat.reduceLT, Nat.reduceLeDiff, Nat.reduceAdd, Nat.reduceSub, Nat.reduceMul, Nat.reduceEqDiff, Nat.reduceBEq, Nat.reduceBNe, Nat.reduceGT, bZ, List.replicate, List.foldr]
           repeat refine ⟨by first | omega | assumption | decide | exact all_len fun _ => rfl | (intro _; omega) | rfl | exact fun e => absurd (List.map_eq_nil_iff.1 e) (by assumption) | (and_intros <;> first | omega | assumption | decide | exact all_len fun _ => rfl), ?_⟩
           obtain ⟨y11, hc25, hm⟩ := bd hm
           refine RP (fun _ => ref_regsOK_ok p1 (lit ([p2.r_] : List Int)) _ hc25) ?_
           by_cases h26 : y11 = true
           ·rw [if_pos h26] at hm
            have h26b : y11 = true := h26
            refine RunRest_cut 6 ?_
            refine gox h26b ?_
            by_cases h27 : p2.n ≥ 1
            ·rw [if_pos h27] at hm
             have h27b : decide (p2.n ≥ 1) = true := decide_eq_true h27
             refine RunRest_ops ?_
             refine gox (a2 h26b h27b) ?_
             refine hk _ _ ?_
             clear hk hp k kp
             refine W_ret ?_
             refine KBlock_r ?_
             refine KThen_r ?_
             refine KBody_ret [] ?_
             obtain rfl := Option.some.inj hm
             exact en
            ·rw [if_neg h27] at hm
             have h27b : decide (p2.n ≥ 1) = false := decide_eq_false h27
             refine RunRest_ops ?_
             refine gox (a2 h26b h27b) ?_
             refine hk _ _ ?_
             clear hk hp k kp
             refine W_ret ?_
             refine KBlock_r ?_
             refine KThen_r ?_
             refine KBody_ret [] ?_
             obtain rfl := Option.some.inj hm
             exact en
           ·rw [if_neg h26] at hm
            have h26b : y11 = false := Bool.eq_false_iff.2 h26
            refine RunRest_ops ?_
            refine gox h26b ?_
            refine hk _ _ ?_
            clear hk hp k kp
            refine W_ret ?_
            refine KBlock_r ?_
            refine KThen_r ?_
            refine KBody_ret [] ?_
            obtain rfl := Option.some.inj hm
            exact en
          ·rw [if_neg h24] at hm
           refine W_condf rfl (beq_eq_false_iff_ne.2 h24) ?_
           refine W_skip ?_
           refine KBlock_n ?_
           refine KThen_n (hk1 _ _ ?_)
           refine W_rg [2, 3, 129, 146, 147, 148] ?_
           refine W_ret ?_
           refine KBody_ret [] ?_
           obtain rfl := Option.some.inj hm
           exact en
end Pam

/- the walk of ref_CostOf_2, printed by a program of ours -/
namespace Pam
open Go Go.Proofs
set_option maxRecDepth 100000 in
set_option maxHeartbeats 8000000 in
theorem ref_CostOf_2_ok (p1 : List TIns) (r : Int) (hm : ref_CostOf_2 p1 = some r) : SpecF Try.prog 74 [.c (.tree 6 (p1.map TIns.enc))] (.c (.int .i64 r)) := by
 refine Spec_ofD 81 [.tmp 2] Try.func74 rfl rfl rfl (by kernel_rfl) (by simp) ?_
 refine W_eqf ?_
 unfold ref_CostOf_2 at hm
 refine W_rg [2] ?_
 refine W_rg [] ?_
 refine W_joinM (S := Int) (V := Unit) [0, 2, 3, 4, 5, 6, 7, 8, 9, 10, 11, 12, 13, 14, 15, 16, 17, 18, 19, 20, 21, 22, 23, 24, 25, 26, 27, 28, 29, 30, 31, 32, 33, 34, 35, 36, 37, 38, 39, 40, 41, 42, 43, 44, 45, 46, 47, 48, 49, 50, 51, 52, 53, 54, 55, 56, 57, 58, 59, 60, 61, 62, 63, 64, 65, 66, 67, 68, 69, 70, 71, 72, 73, 74, 75, 76, 77, 78, 79] (fun x1 _ => [(3, .c (.int .i64 x1))]) (fun x1 _ => []) (fun x1 => ref_CostOf_2_j1 x1 = some r) ?_ ?_
 ·skip
  refine W_rg [] ?_
  refine W_block ?_
  obtain ⟨o1, hl1, hm1⟩ := bd hm
  refine W_loopM (S := (Int × Int)) (V := Unit) (O := Int ⊕ Int) [2, 3, 4, 5, 6, 7, 8, 9, 10, 11, 12, 13, 14, 15, 16, 17, 18, 19, 20, 21, 22, 23, 24, 25, 26, 27, 28, 29, 30, 31, 32, 33, 34, 35, 36, 37, 38, 39, 40, 41, 42, 43, 44, 45, 46, 47, 48, 49, 50, 51, 52, 53, 54, 55, 56, 57, 58, 59, 60, 61, 62, 63, 64, 65, 66, 67, 68, 69, 70, 71, 72, 73, 74, 75, 76, 77, 78, 79] (fun (x6, x7) _ => [(3, .c (.int .i64 x6)), (4, .c (.int .i64 x7))]) (fun (x6, x7) _ => []) _ _ () hl1 ?_ ?_
  ·exact ls
  ·rintro ⟨x6, x7⟩ _ r1 hm hr1
   replace hm : ref_CostOf_2_l1 p1 x6 x7 = some r1 := hm
   refine W_eqm ?_
   unfold ref_CostOf_2_l1 at hm
   refine W_seq_k fun k1 hk1 => ?_
   refine W_rg [6, 7, 8] ?_
   by_cases h1 : x7 < (p1.length : Int)
   ·rw [if_pos h1] at hm
    refine W_condt rfl (decide_eq_true h1) ?_
    refine W_skip ?_
    refine KThen_n (hk1 _ _ ?_)
    refine W_joinM (S := (Int × Int)) (V := Unit) [2, 3, 4, 5, 9, 12, 13, 14, 15, 16, 17, 18, 19, 20, 21, 22, 23, 24, 25, 26, 27, 28, 29, 30, 31, 32, 33, 34, 35, 36, 37, 38, 39, 40, 41, 42, 43, 44, 45, 46, 47, 48, 49, 50, 51, 52, 53, 54, 55, 56, 57, 58, 59, 60, 61, 62, 63, 64, 65, 66, 67, 68, 69, 70, 71, 72, 73, 74, 75, 76, 77, 78, 79] (fun (x8, x9) _ => [(3, .c (.int .i64 x8)), (4, .c (.int .i64 x9))]) (fun (x8, x9) _ => []) (fun (x8, x9) => ref_CostOf_2_j2 x8 x9 = some r1) ?_ ?_
    ·skip
     refine W_block ?_
     refine W_rg [9, 12, 13] ?_
     refine W_seq_k fun k2 hk2 => ?_
     obtain ⟨hg2a, hm⟩ := gd hm
     refine W_rgx (em TIns.enc p1 x7.toNat) [14, 15, 16, 17, 18] ?_
     by_cases h3 : ((p1.getD x7.toNat default).op) = 11
     ·rw [if_pos h3] at hm
      refine W_condt rfl (beq_iff_eq.2 h3) ?_
      refine W_rg [0, 3, 4, 19] ?_
      have ho4 := out_eq hm hr1
      subst ho4
      replace hm : some 0 = some r := hm1
      refine W_ret ?_
      refine KThen_r ?_
      refine KBlock_r ?_
      refine KJoinM_r ?_
      refine KLoopM_r ?_
      refine KBlock_r ?_
      refine KJoinM_r ?_
      refine KBody_ret [] ?_
      obtain rfl := Option.some.inj hm
      exact en
     ·rw [if_neg h3] at hm
      refine W_condf rfl (beq_eq_false_iff_ne.2 h3) ?_
      refine W_skip ?_
      refine KThen_n (hk2 _ _ ?_)
      refine W_seq_k fun k3 hk3 => ?_
      refine W_rgx (em TIns.enc p1 x7.toNat) [19, 20, 21, 22, 23, 24] ?_
      by_cases h5 : ¬ ((p1.getD x7.toNat default).op) = 10
      ·rw [if_pos h5] at hm
       refine W_condt rfl (bne_iff_ne.2 h5) ?_
       refine W_exit ?_
       refine KThen_x ?_
       refine KBlock_hit ?_
       refine KJoinM_n ((IntKind.wrap .i64 (x6 + 1)), x7) () hm ?_
       exact ls
      ·rw [if_neg h5] at hm
       refine W_condf rfl (bne_eq_false_iff_eq.2 (Decidable.not_not.1 h5)) ?_
       refine W_skip ?_
       refine KThen_n (hk3 _ _ ?_)
       refine W_rg [25, 26, 27] ?_
       refine W_joinM (S := Int) (V := Unit) [2, 5, 28, 29, 30, 31, 32, 33, 34, 35, 36, 37, 38, 39, 40, 41, 42, 43, 44, 45, 46, 47] (fun x10 _ => [(5, .c (.int .i64 x10))]) (fun x10 _ => []) (fun x10 => ref_CostOf_2_j3 p1 x6 x7 x10 = some r1) ?_ ?_
       ·skip
        refine W_block ?_
        obtain ⟨o2, hl2, hm2⟩ := bd hm
        refine W_loopM (S := Int) (V := Unit) (O := Int ⊕ Int) [2, 5, 28, 29, 30, 31, 32, 33, 34, 35, 36, 37, 38, 39, 40, 41, 42, 43, 44, 45, 46, 47] (fun x13 _ => [(5, .c (.int .i64 x13))]) (fun x13 _ => []) _ _ () hl2 ?_ ?_
        ·exact ls
        ·rintro x13 _ r2 hm hr2
         replace hm : ref_CostOf_2_l2 p1 x13 = some r2 := hm
         refine W_eqm ?_
         unfold ref_CostOf_2_l2 at hm
         refine W_seq_k fun k5 hk5 => ?_
         refine W_regG [28, 29, 30, 31, 32, 33, 34, 35, 36, 37, 38] fun k kp hk hp => ?_
         refine RunRest_cut 5 ?_
         refine go ?_
         by_cases h12 : x13 < (p1.length : Int)
         ·rw [if_pos h12] at hm
          have h12b : decide (x13 < (p1.length : Int)) = true := decide_eq_true h12
          obtain ⟨hg13a, hm⟩ := gd hm
          refine RunRest_ops ?_
          refine gox (a2 (em TIns.enc p1 x13.toNat) h12b) ?_
          refine hk _ _ ?_
          clear hk hp k kp
          by_cases h14 : ¬ ((p1.getD x13.toNat default).op) = 11
          ·rw [if_pos h14] at hm
           refine W_condt rfl (bne_iff_ne.2 h14) ?_
           refine W_skip ?_
           refine KThen_n (hk5 _ _ ?_)
           refine W_block ?_
           refine W_seq_k fun k6 hk6 => ?_
           refine W_rgx (em TIns.enc p1 x13.toNat) [39, 40, 41, 42, 43, 44] ?_
           by_cases h15 : ((p1.getD x13.toNat default).op) = 10
           ·rw [if_pos h15] at hm
            refine W_condt rfl (beq_iff_eq.2 h15) ?_
            refine W_rg [0, 3, 4, 5, 45] ?_
            have ho16 := out_eq hm hr2
            subst ho16
            replace hm : some (.inr (.inr 0)) = some r1 := hm2
            have ho17 := out_eq hm hr1
            subst ho17
            replace hm : some 0 = some r := hm1
            refine W_ret ?_
            refine KThen_r ?_
            refine KBlock_r ?_
            refine KLoopM_r ?_
            refine KBlock_r ?_
            refine KJoinM_r ?_
            refine KBlock_r ?_
            refine KJoinM_r ?_
            refine KLoopM_r ?_
            refine KBlock_r ?_
            refine KJoinM_r ?_
            refine KBody_ret [] ?_
            obtain rfl := Option.some.inj hm
            exact en
           ·rw [if_neg h15] at hm
            refine W_condf rfl (beq_eq_false_iff_ne.2 h15) ?_
            refine W_skip ?_
            refine KThen_n (hk6 _ _ ?_)
            refine W_rn ?_
            refine KBlock_n ?_
            refine KLoopM_n (IntKind.wrap .i64 (x13 + 1)) () hm ?_
            exact ls
          ·rw [if_neg h14] at hm
           refine W_condf rfl (bne_eq_false_iff_eq.2 (Decidable.not_not.1 h14)) ?_
           refine W_exit ?_
           have ho18 := out_eq hm hr2
           subst ho18
           replace hm : ref_CostOf_2_j3 p1 x6 x7 x13 = some r1 := hm2
           refine KThen_x ?_
           refine KLoopM_x ?_
           refine KBlock_hit ?_
           refine KJoinM_n x13 () hm ?_
           exact ls
         ·rw [if_neg h12] at hm
          have h12b : decide (x13 < (p1.length : Int)) = false := decide_eq_false h12
          refine RunRest_ops ?_
          refine gox h12b ?_
          refine hk _ _ ?_
          clear hk hp k kp
          refine W_condf rfl rfl ?_
          refine W_exit ?_
          have ho19 := out_eq hm hr2
          subst ho19
          replace hm : ref_CostOf_2_j3 p1 x6 x7 x13 = some r1 := hm2
          refine KThen_x ?_
          refine KLoopM_x ?_
          refine KBlock_hit ?_
          refine KJoinM_n x13 () hm ?_
          exact ls
       ·rintro x10 _ hm
        replace hm : ref_CostOf_2_j3 p1 x6 x7 x10 = some r1 := hm
        refine W_eqm ?_
        unfold ref_CostOf_2_j3 at hm
        refine W_seq_k fun k4 hk4 => ?_
        refine W_regG [48, 49, 50, 51, 52, 53, 54, 55, 56, 57, 58, 59, 60, 61, 62, 63, 64, 65, 66] fun k kp hk hp => ?_
        refine RunRest_cut 5 ?_
        refine go ?_
        by_cases h6 : x10 = (p1.length : Int)
        ·rw [if_pos h6] at hm
         have h6b : (x10 == (p1.length : Int)) = true := beq_iff_eq.2 h6
         refine RunRest_ops ?_
         refine gox h6b ?_
         refine hk _ _ ?_
         clear hk hp k kp
         refine W_condt rfl rfl ?_
         refine W_rg [0, 3, 4, 5, 67] ?_
         have ho7 := out_eq hm hr1
         subst ho7
         replace hm : some 0 = some r := hm1
         refine W_ret ?_
         refine KThen_r ?_
         refine KBlock_r ?_
         refine KJoinM_r ?_
         refine KLoopM_r ?_
         refine KBlock_r ?_
         refine KJoinM_r ?_
         refine KBody_ret [] ?_
         obtain rfl := Option.some.inj hm
         exact en
        ·rw [if_neg h6] at hm
         have h6b : (x10 == (p1.length : Int)) = false := beq_eq_false_iff_ne.2 h6
         refine RunRest_cut 8 ?_
         refine gox (a2 (em TIns.enc p1 x7.toNat) h6b) ?_
         by_cases h8 : ((p1.getD x7.toNat default).n) < 1
         ·rw [if_pos h8] at hm
          have h8b : decide (((p1.getD x7.toNat default).n) < 1) = true := decide_eq_true h8
          refine RunRest_ops ?_
          refine gox (a2 h6b h8b) ?_
          refine hk _ _ ?_
          clear hk hp k kp
          refine W_condt rfl rfl ?_
          refine W_rg [0, 3, 4, 5, 67] ?_
          have ho9 := out_eq hm hr1
          subst ho9
          replace hm : some 0 = some r := hm1
          refine W_ret ?_
          refine KThen_r ?_
          refine KBlock_r ?_
          refine KJoinM_r ?_
          refine KLoopM_r ?_
          refine KBlock_r ?_
          refine KJoinM_r ?_
          refine KBody_ret [] ?_
          obtain rfl := Option.some.inj hm
          exact en
         ·rw [if_neg h8] at hm
          have h8b : decide (((p1.getD x7.toNat default).n) < 1) = false := decide_eq_false h8
          refine RunRest_ops ?_
          refine gox (a2 (em TIns.enc p1 x7.toNat) (a2 h6b h8b)) ?_
          refine hk _ _ ?_
          clear hk hp k kp
          by_cases h10 : ((p1.getD x7.toNat default).n) > 300
          ·rw [if_pos h10] at hm
           refine W_condt rfl (decide_eq_true h10) ?_
           refine W_rg [0, 3, 4, 5, 67] ?_
           have ho11 := out_eq hm hr1
           subst ho11
           replace hm : some 0 = some r := hm1
           refine W_ret ?_
           refine KThen_r ?_
           refine KBlock_r ?_
           refine KJoinM_r ?_
           refine KLoopM_r ?_
           refine KBlock_r ?_
           refine KJoinM_r ?_
           refine KBody_ret [] ?_
           obtain rfl := Option.some.inj hm
           exact en
          ·rw [if_neg h10] at hm
           refine W_condf rfl (decide_eq_false h10) ?_
           refine W_skip ?_
           refine KThen_n (hk4 _ _ ?_)
           refine W_rgx (em TIns.enc p1 x7.toNat) [4, 67, 68, 69, 70, 71, 72, 73, 74, 75, 76, 77, 78] ?_
           refine W_rn ?_
           refine KBlock_n ?_
           refine KJoinM_n ((IntKind.wrap .i64 ((IntKind.wrap .i64 (x6 + 1)) + (IntKind.wrap .i64 (((p1.getD x7.toNat default).n) * (IntKind.wrap .i64 (x10 - x7)))))), x10) () hm ?_
           exact ls
    ·rintro ⟨x8, x9⟩ _ hm
     replace hm : ref_CostOf_2_j2 x8 x9 = some r1 := hm
     refine W_eqm ?_
     unfold ref_CostOf_2_j2 at hm
     refine W_rn ?_
     refine KLoopM_n (x8, (IntKind.wrap .i64 (x9 + 1))) () hm ?_
     exact ls
   ·rw [if_neg h1] at hm
    refine W_condf rfl (decide_eq_false h1) ?_
    refine W_exit ?_
    have ho20 := out_eq hm hr1
    subst ho20
    replace hm : ref_CostOf_2_j1 x6 = some r := hm1
    refine KThen_x ?_
    refine KLoopM_x ?_
    refine KBlock_hit ?_
    refine KJoinM_n x6 () hm ?_
    exact ls
 ·rintro x1 _ hm
  replace hm : ref_CostOf_2_j1 x1 = some r := hm
  refine W_eqm ?_
  unfold ref_CostOf_2_j1 at hm
  refine W_rg [3, 80] ?_
  refine W_ret ?_
  refine KBody_ret [] ?_
  obtain rfl := Option.some.inj hm
  exact en
end Pam

/- the walk of ref_ImageFault, printed by a program of ours -/
namespace Pam
open Go Go.Proofs
set_option maxRecDepth 100000 in
set_option maxHeartbeats 8000000 in
theorem ref_ImageFault_ok (p1 : TImage) (r : TFault) (hm : ref_ImageFault p1 = some r) : SpecF Try.prog 25 [.a [.int .i64 p1.cells, .int .i64 p1.regs, .int .i64 p1.cost, .tree 1 (p1.put.map (eK .i64)), .tree 1 (p1.bools.map (eK .i64)), .tree 1 (p1.get.map (eK .i64)), .tree 6 (p1.code.map TIns.enc)]] (.a [.int .i64 ((r).code), .int .i64 ((r).at_)]) := by
 refine Spec_ofD 127 [.cell 2 33] Try.func25 rfl rfl rfl (by kernel_rfl) (by simp) ?_
 refine W_eqf ?_
 unfold ref_ImageFault at hm
 refine W_rg [0] ?_
 refine W_seq_k fun k1 hk1 => ?_
 refine W_regG [8, 9, 10, 11, 12, 13, 14, 15, 16, 17, 18, 19, 20, 21, 22, 23, 24] fun k kp hk hp => ?_
 refine RunRest_cut 4 ?_
 refine go ?_
 by_cases h1 : p1.cells < 1
 ·rw [if_pos h1] at hm
  have h1b : decide (p1.cells < 1) = true := decide_eq_true h1
  refine RunRest_ops ?_
  refine gox h1b ?_
  refine hk _ _ ?_
  clear hk hp k kp
  refine W_condt rfl rfl ?_
  refine W_regF [1, 25, 26] fun k kp hk hp => ?_
  refine go ?_
  obtain ⟨y1, hc2, hm⟩ := bd hm
  refine RP (fun _ => ref_F_ok 13 (-1) _ hc2) ?_
  refine RunRest_ops ?_
  refine go ?_
  refine hk _ _ ?_
  clear hk hp k kp
  refine W_ret ?_
  refine KThen_r ?_
  refine KBody_ret [] ?_
  obtain rfl := Option.some.inj hm
  exact en
 ·rw [if_neg h1] at hm
  have h1b : decide (p1.cells < 1) = false := decide_eq_false h1
  refine RunRest_cut 5 ?_
  refine gox h1b ?_
  by_cases h3 : p1.cells > 6000
  ·rw [if_pos h3] at hm
   have h3b : decide (p1.cells > 6000) = true := decide_eq_true h3
   refine RunRest_ops ?_
   refine gox (a2 h1b h3b) ?_
   refine hk _ _ ?_
   clear hk hp k kp
   refine W_condt rfl rfl ?_
   refine W_regF [1, 25, 26] fun k kp hk hp => ?_
   refine go ?_
   obtain ⟨y2, hc4, hm⟩ := bd hm
   refine RP (fun _ => ref_F_ok 13 (-1) _ hc4) ?_
   refine RunRest_ops ?_
   refine go ?_
   refine hk _ _ ?_
   clear hk hp k kp
   refine W_ret ?_
   refine KThen_r ?_
   refine KBody_ret [] ?_
   obtain rfl := Option.some.inj hm
   exact en
  ·rw [if_neg h3] at hm
   have h3b : decide (p1.cells > 6000) = false := decide_eq_false h3
   refine RunRest_cut 5 ?_
   refine gox (a2 h1b h3b) ?_
   by_cases h5 : p1.regs < 1
   ·rw [if_pos h5] at hm
    have h5b : decide (p1.regs < 1) = true := decide_eq_true h5
    refine RunRest_ops ?_
    refine gox (a2 h1b (a2 h3b h5b)) ?_
    refine hk _ _ ?_
    clear hk hp k kp
    refine W_condt rfl rfl ?_
    refine W_regF [1, 25, 26] fun k kp hk hp => ?_
    refine go ?_
    obtain ⟨y3, hc6, hm⟩ := bd hm
    refine RP (fun _ => ref_F_ok 13 (-1) _ hc6) ?_
    refine RunRest_ops ?_
    refine go ?_
    refine hk _ _ ?_
    clear hk hp k kp
    refine W_ret ?_
    refine KThen_r ?_
    refine KBody_ret [] ?_
    obtain rfl := Option.some.inj hm
    exact en
   ·rw [if_neg h5] at hm
    have h5b : decide (p1.regs < 1) = false := decide_eq_false h5
    refine RunRest_ops ?_
    refine gox (a2 h1b (a2 h3b h5b)) ?_
    refine hk _ _ ?_
    clear hk hp k kp
    by_cases h7 : p1.regs > 40
    ·rw [if_pos h7] at hm
     refine W_condt rfl (decide_eq_true h7) ?_
     refine W_regF [1, 25, 26] fun k kp hk hp => ?_
     refine go ?_
     obtain ⟨y4, hc8, hm⟩ := bd hm
     refine RP (fun _ => ref_F_ok 13 (-1) _ hc8) ?_
     refine RunRest_ops ?_
     refine go ?_
     refine hk _ _ ?_
     clear hk hp k kp
     refine W_ret ?_
     refine KThen_r ?_
     refine KBody_ret [] ?_
     obtain rfl := Option.some.inj hm
     exact en
    ·rw [if_neg h7] at hm
     refine W_condf rfl (decide_eq_false h7) ?_
     refine W_skip ?_
     refine KThen_n (hk1 _ _ ?_)
     refine W_seq_k fun k2 hk2 => ?_
     refine W_regG [25, 27, 28, 29, 30, 31, 32, 33, 34, 35, 36, 37, 38, 39, 40, 41, 42, 43, 44, 45, 46, 47] fun k kp hk hp => ?_
     refine RunRest_cut 5 ?_
     refine go ?_
     by_cases h9 : (p1.put.length : Int) > 6000
     ·rw [if_pos h9] at hm
      have h9b : decide ((p1.put.length : Int) > 6000) = true := decide_eq_true h9
      refine RunRest_ops ?_
      refine gox h9b ?_
      refine hk _ _ ?_
      clear hk hp k kp
      refine W_condt rfl rfl ?_
      refine W_regF [1, 48, 49] fun k kp hk hp => ?_
      refine go ?_
      obtain ⟨y5, hc10, hm⟩ := bd hm
      refine RP (fun _ => ref_F_ok 7 (-1) _ hc10) ?_
      refine RunRest_ops ?_
      refine go ?_
      refine hk _ _ ?_
      clear hk hp k kp
      refine W_ret ?_
      refine KThen_r ?_
      refine KBody_ret [] ?_
      obtain rfl := Option.some.inj hm
      exact en
     ·rw [if_neg h9] at hm
      have h9b : decide ((p1.put.length : Int) > 6000) = false := decide_eq_false h9
      refine RunRest_cut 6 ?_
      refine gox h9b ?_
      by_cases h11 : (p1.bools.length : Int) > 6000
      ·rw [if_pos h11] at hm
       have h11b : decide ((p1.bools.length : Int) > 6000) = true := decide_eq_true h11
       refine RunRest_ops ?_
       refine gox (a2 h9b h11b) ?_
       refine hk _ _ ?_
       clear hk hp k kp
       refine W_condt rfl rfl ?_
       refine W_regF [1, 48, 49] fun k kp hk hp => ?_
       refine go ?_
       obtain ⟨y6, hc12, hm⟩ := bd hm
       refine RP (fun _ => ref_F_ok 7 (-1) _ hc12) ?_
       refine RunRest_ops ?_
       refine go ?_
       refine hk _ _ ?_
       clear hk hp k kp
       refine W_ret ?_
       refine KThen_r ?_
       refine KBody_ret [] ?_
       obtain rfl := Option.some.inj hm
       exact en
      ·rw [if_neg h11] at hm
       have h11b : decide ((p1.bools.length : Int) > 6000) = false := decide_eq_false h11
       refine RunRest_cut 6 ?_
       refine gox (a2 h9b h11b) ?_
       by_cases h13 : (p1.get.length : Int) > 120000
       ·rw [if_pos h13] at hm
        have h13b : decide ((p1.get.length : Int) > 120000) = true := decide_eq_true h13
        refine RunRest_ops ?_
        refine gox (a2 h9b (a2 h11b h13b)) ?_
        refine hk _ _ ?_
        clear hk hp k kp
        refine W_condt rfl rfl ?_
        refine W_regF [1, 48, 49] fun k kp hk hp => ?_
        refine go ?_
        obtain ⟨y7, hc14, hm⟩ := bd hm
        refine RP (fun _ => ref_F_ok 7 (-1) _ hc14) ?_
        refine RunRest_ops ?_
        refine go ?_
        refine hk _ _ ?_
        clear hk hp k kp
        refine W_ret ?_
        refine KThen_r ?_
        refine KBody_ret [] ?_
        obtain rfl := Option.some.inj hm
        exact en
       ·rw [if_neg h13] at hm
        have h13b : decide ((p1.get.length : Int) > 120000) = false := decide_eq_false h13
        refine RunRest_ops ?_
        refine gox (a2 h9b (a2 h11b h13b)) ?_
        refine hk _ _ ?_
        clear hk hp k kp
        by_cases h15 : (p1.code.length : Int) > 200000
        ·rw [if_pos h15] at hm
         refine W_condt rfl (decide_eq_true h15) ?_
         refine W_regF [1, 48, 49] fun k kp hk hp => ?_
         refine go ?_
         obtain ⟨y8, hc16, hm⟩ := bd hm
         refine RP (fun _ => ref_F_ok 7 (-1) _ hc16) ?_
         refine RunRest_ops ?_
         refine go ?_
         refine hk _ _ ?_
         clear hk hp k kp
         refine W_ret ?_
         refine KThen_r ?_
         refine KBody_ret [] ?_
         obtain rfl := Option.some.inj hm
         exact en
        ·rw [if_neg h15] at hm
         refine W_condf rfl (decide_eq_false h15) ?_
         refine W_skip ?_
         refine KThen_n (hk2 _ _ ?_)
         refine W_rg [48, 50, 51, 52, 53, 54, 55, 56] ?_
         refine W_eqa [.box [.int .i64 p1.cells, .int .i64 p1.regs, .int .i64 p1.cost, .tree 1 (p1.put.map (eK .i64)), .tree 1 (p1.bools.map (eK .i64)), .tree 1 (p1.get.map (eK .i64)), .tree 6 (p1.code.map TIns.enc)], .box [.int .i64 0, .int .i64 0], .arr 1 0 22 ((lit ([p1.put, p1.bools, p1.get] : List (List Int))).map (eL 1 (eK .i64)))] ?_
         refine W_joinM (S := Unit) (V := Unit) [3, 4, 5, 57, 58, 59, 60, 61, 62, 63, 64, 65, 66, 67, 68, 69, 70, 71, 72, 73, 74, 75, 76, 77, 78, 79, 80, 81, 82, 83, 84, 85, 86, 87, 88, 89, 90] (fun _ _ => []) (fun _ _ => [.box [.int .i64 p1.cells, .int .i64 p1.regs, .int .i64 p1.cost, .tree 1 (p1.put.map (eK .i64)), .tree 1 (p1.bools.map (eK .i64)), .tree 1 (p1.get.map (eK .i64)), .tree 6 (p1.code.map TIns.enc)], .box [.int .i64 0, .int .i64 0], .arr 1 0 22 ((lit ([p1.put, p1.bools, p1.get] : List (List Int))).map (eL 1 (eK .i64)))]) (fun _ => ref_ImageFault_j1 p1 = some r) ?_ ?_
         ·skip
          refine W_rg [] ?_
          refine W_block ?_
          obtain ⟨o2, hl2, hm2⟩ := bd hm
          refine W_loopM (S := Int) (V := Unit) (O := Unit ⊕ TFault) [3, 4, 5, 57, 58, 59, 60, 61, 62, 63, 64, 65, 66, 67, 68, 69, 70, 71, 72, 73, 74, 75, 76, 77, 78, 79, 80, 81, 82, 83, 84, 85, 86, 87, 88, 89, 90] (fun x20 _ => [(3, .c (.osl 2 0 0 3)), (4, .c (.int .i64 x20))]) (fun x20 _ => [.box [.int .i64 p1.cells, .int .i64 p1.regs, .int .i64 p1.cost, .tree 1 (p1.put.map (eK .i64)), .tree 1 (p1.bools.map (eK .i64)), .tree 1 (p1.get.map (eK .i64)), .tree 6 (p1.code.map TIns.enc)], .box [.int .i64 0, .int .i64 0], .arr 1 0 22 ((lit ([p1.put, p1.bools, p1.get] : List (List Int))).map (eL 1 (eK .i64)))]) _ _ () hl2 ?_ ?_
          ·exact ls
          ·rintro x20 _ r2 hm hr2
           replace hm : ref_ImageFault_l2 p1 x20 = some r2 := hm
           refine W_eqm ?_
           unfold ref_ImageFault_l2 at hm
           refine W_seq_k fun k6 hk6 => ?_
           refine W_rg [57] ?_
           by_cases h30 : x20 < 3
           ·rw [if_pos h30] at hm
            refine W_condt rfl (decide_eq_true h30) ?_
            refine W_skip ?_
            refine KThen_n (hk6 _ _ ?_)
            refine W_joinM (S := Unit) (V := Unit) [3, 5, 58, 61, 62, 63, 64, 65, 66, 67, 68, 69, 70, 71, 72, 73, 74, 75, 76, 77, 78, 79, 80, 81, 82, 83, 84, 85, 86, 87, 88, 89, 90] (fun _ _ => [(3, .c (.osl 2 0 0 3))]) (fun _ _ => [.box [.int .i64 p1.cells, .int .i64 p1.regs, .int .i64 p1.cost, .tree 1 (p1.put.map (eK .i64)), .tree 1 (p1.bools.map (eK .i64)), .tree 1 (p1.get.map (eK .i64)), .tree 6 (p1.code.map TIns.enc)], .box [.int .i64 0, .int .i64 0], .arr 1 0 22 ((lit ([p1.put, p1.bools, p1.get] : List (List Int))).map (eL 1 (eK .i64)))]) (fun _ => ref_ImageFault_j3 x20 = some r2) ?_ ?_
            ·skip
             refine W_block ?_
             refine W_rg [58] ?_
             refine W_block ?_
             obtain ⟨o3, hl3, hm3⟩ := bd hm
             refine W_loopM (S := Int) (V := Unit) (O := Unit ⊕ TFault) [3, 5, 61, 62, 63, 64, 65, 66, 67, 68, 69, 70, 71, 72, 73, 74, 75, 76, 77, 78, 79, 80, 81, 82, 83, 84, 85, 86, 87, 88, 89, 90] (fun x23 _ => [(3, .c (.osl 2 0 0 3)), (5, .c (.int .i64 x23))]) (fun x23 _ => [.box [.int .i64 p1.cells, .int .i64 p1.regs, .int .i64 p1.cost, .tree 1 (p1.put.map (eK .i64)), .tree 1 (p1.bools.map (eK .i64)), .tree 1 (p1.get.map (eK .i64)), .tree 6 (p1.code.map TIns.enc)], .box [.int .i64 0, .int .i64 0], .arr 1 0 22 ((lit ([p1.put, p1.bools, p1.get] : List (List Int))).map (eL 1 (eK .i64)))]) _ _ () hl3 ?_ ?_
             ·exact ls
             ·rintro x23 _ r3 hm hr3
              replace hm : ref_ImageFault_l3 p1 x20 x23 = some r3 := hm
              refine W_eqm ?_
              unfold ref_ImageFault_l3 at hm
              refine W_seq_k fun k7 hk7 => ?_
              obtain ⟨hg31a, hm⟩ := gd hm
              refine W_rgx (em (eL 1 (eK .i64)) (lit ([p1.put, p1.bools, p1.get] : List (List Int))) x20.toNat) [61, 62, 63, 64, 65, 66] ?_
              by_cases h32 : x23 < (((lit ([p1.put, p1.bools, p1.get] : List (List Int))).getD x20.toNat default).length : Int)
              ·rw [if_pos h32] at hm
               refine W_condt rfl (decide_eq_true h32) ?_
               refine W_skip ?_
               refine KThen_n (hk7 _ _ ?_)
               refine W_seq_k fun k8 hk8 => ?_
               refine W_block ?_
               obtain ⟨hg33a, hm⟩ := gd hm
               refine W_anyTF [67, 70, 71, 72, 73, 74, 75, 76, 77, 78, 79, 80, 81, 82, 83, 84, 85, 86, 87, 88] (by kernel_rfl) [0, 0, 3, 7, 0, 31, 63, 127, 255, 511, 511, 2047, 4095, 511, 16383, 32767, 511, 66047, 262143, 524287] [false, false, false, false, false, true, true, true, true, false, false, false, false, false, false, false, false, false, true, true] (by kernel_rfl) fun k hk => ?_
               refine TR_cut 9 rfl ?_
               refine gax (a2 (em (eL 1 (eK .i64)) (lit ([p1.put, p1.bools, p1.get] : List (List Int))) x20.toNat) (em (eK .i64) ((lit ([p1.put, p1.bools, p1.get] : List (List Int))).getD x20.toNat default) x23.toNat)) ?_
               by_cases h34 : (((lit ([p1.put, p1.bools, p1.get] : List (List Int))).getD x20.toNat default).getD x23.toNat default) < 0
               ·rw [if_pos h34] at hm
                have h34b : decide ((((lit ([p1.put, p1.bools, p1.get] : List (List Int))).getD x20.toNat default).getD x23.toNat default) < 0) = true := decide_eq_true h34
                refine TR_ops ?_
                refine gax h34b ?_
                refine hk _ _ ?_
                clear hk k
                refine W_condt rfl rfl ?_
                refine W_regF [1, 3, 4, 5, 89, 90] fun k kp hk hp => ?_
                refine go ?_
                obtain ⟨y24, hc35, hm⟩ := bd hm
                refine RP (fun _ => ref_F_ok 16 (-1) _ hc35) ?_
                refine RunRest_ops ?_
                refine go ?_
                refine hk _ _ ?_
                clear hk hp k kp
                have ho36 := out_eq hm hr3
                subst ho36
                replace hm : some (.inr (.inr (y24))) = some r2 := hm3
                have ho37 := out_eq hm hr2
                subst ho37
                replace hm : some (y24) = some r := hm2
                refine W_ret ?_
                refine KBlock_r ?_
                refine KThen_r ?_
                refine KLoopM_r ?_
                refine KBlock_r ?_
                refine KBlock_r ?_
                refine KJoinM_r ?_
                refine KLoopM_r ?_
                refine KBlock_r ?_
                refine KJoinM_r ?_
                refine KBody_ret [] ?_
                obtain rfl := Option.some.inj hm
                exact en
               ·rw [if_neg h34] at hm
                have h34b : decide ((((lit ([p1.put, p1.bools, p1.get] : List (List Int))).getD x20.toNat default).getD x23.toNat default) < 0) = false := decide_eq_false h34
                refine TR_ops ?_
                refine gax (a2 (em (eL 1 (eK .i64)) (lit ([p1.put, p1.bools, p1.get] : List (List Int))) x20.toNat) (a2 (em (eK .i64) ((lit ([p1.put, p1.bools, p1.get] : List (List Int))).getD x20.toNat default) x23.toNat) h34b)) ?_
                refine hk _ _ ?_
                clear hk k
                by_cases h38 : (((lit ([p1.put, p1.bools, p1.get] : List (List Int))).getD x20.toNat default).getD x23.toNat default) ≥ p1.cells
                ·rw [if_pos h38] at hm
                 refine W_condt rfl (decide_eq_true h38) ?_
                 refine W_regF [1, 3, 4, 5, 89, 90] fun k kp hk hp => ?_
                 refine go ?_
                 obtain ⟨y25, hc39, hm⟩ := bd hm
                 refine RP (fun _ => ref_F_ok 16 (-1) _ hc39) ?_
                 refine RunRest_ops ?_
                 refine go ?_
                 refine hk _ _ ?_
                 clear hk hp k kp
                 have ho40 := out_eq hm hr3
                 subst ho40
                 replace hm : some (.inr (.inr (y25))) = some r2 := hm3
                 have ho41 := out_eq hm hr2
                 subst ho41
                 replace hm : some (y25) = some r := hm2
                 refine W_ret ?_
                 refine KBlock_r ?_
                 refine KThen_r ?_
                 refine KLoopM_r ?_
                 refine KBlock_r ?_
                 refine KBlock_r ?_
                 refine KJoinM_r ?_
                 refine KLoopM_r ?_
                 refine KBlock_r ?_
                 refine KJoinM_r ?_
                 refine KBody_ret [] ?_
                 obtain rfl := Option.some.inj hm
                 exact en
                ·rw [if_neg h38] at hm
                 refine W_condf rfl (decide_eq_false h38) ?_
                 refine W_skip ?_
                 refine KBlock_n ?_
                 refine KThen_n (hk8 _ _ ?_)
                 refine W_rn ?_
                 refine KLoopM_n (IntKind.wrap .i64 (x23 + 1)) () hm ?_
                 exact ls
              ·rw [if_neg h32] at hm
               refine W_condf rfl (decide_eq_false h32) ?_
               refine W_exit ?_
               have ho42 := out_eq hm hr3
               subst ho42
               replace hm : ref_ImageFault_j3 x20 = some r2 := hm3
               refine KThen_x ?_
               refine KLoopM_x ?_
               refine KBlock_hit ?_
               refine KBlock_n ?_
               refine KJoinM_n () () hm ?_
               exact ls
            ·rintro _ _ hm
             replace hm : ref_ImageFault_j3 x20 = some r2 := hm
             refine W_eqm ?_
             unfold ref_ImageFault_j3 at hm
             refine W_rn ?_
             refine KLoopM_n (IntKind.wrap .i64 (x20 + 1)) () hm ?_
             exact ls
           ·rw [if_neg h30] at hm
            refine W_condf rfl (decide_eq_false h30) ?_
            refine W_exit ?_
            have ho43 := out_eq hm hr2
            subst ho43
            replace hm : ref_ImageFault_j1 p1 = some r := hm2
            refine KThen_x ?_
            refine KLoopM_x ?_
            refine KBlock_hit ?_
            refine KJoinM_n () () hm ?_
            exact ls
         ·rintro _ _ hm
          replace hm : ref_ImageFault_j1 p1 = some r := hm
          refine W_eqm ?_
          unfold ref_ImageFault_j1 at hm
          refine W_joinM (S := Unit) (V := Unit) [6, 91, 92, 93, 94, 95, 96, 97, 98, 99, 100, 101, 102, 103, 104, 105, 106, 107] (fun _ _ => []) (fun _ _ => [.box [.int .i64 p1.cells, .int .i64 p1.regs, .int .i64 p1.cost, .tree 1 (p1.put.map (eK .i64)), .tree 1 (p1.bools.map (eK .i64)), .tree 1 (p1.get.map (eK .i64)), .tree 6 (p1.code.map TIns.enc)], .box [.int .i64 0, .int .i64 0], .arr 1 0 22 ((lit ([p1.put, p1.bools, p1.get] : List (List Int))).map (eL 1 (eK .i64)))]) (fun _ => ref_ImageFault_j2 p1 = some r) ?_ ?_
          ·skip
           refine W_rg [] ?_
           refine W_block ?_
           obtain ⟨o1, hl1, hm1⟩ := bd hm
           refine W_loopM (S := Int) (V := Unit) (O := Unit ⊕ TFault) [6, 91, 92, 93, 94, 95, 96, 97, 98, 99, 100, 101, 102, 103, 104, 105, 106, 107] (fun x14 _ => [(6, .c (.int .i64 x14))]) (fun x14 _ => [.box [.int .i64 p1.cells, .int .i64 p1.regs, .int .i64 p1.cost, .tree 1 (p1.put.map (eK .i64)), .tree 1 (p1.bools.map (eK .i64)), .tree 1 (p1.get.map (eK .i64)), .tree 6 (p1.code.map TIns.enc)], .box [.int .i64 0, .int .i64 0], .arr 1 0 22 ((lit ([p1.put, p1.bools, p1.get] : List (List Int))).map (eL 1 (eK .i64)))]) _ _ () hl1 ?_ ?_
           ·exact ls
           ·rintro x14 _ r1 hm hr1
            replace hm : ref_ImageFault_l1 p1 x14 = some r1 := hm
            refine W_eqm ?_
            unfold ref_ImageFault_l1 at hm
            refine W_seq_k fun k4 hk4 => ?_
            refine W_rg [91, 92, 93, 94] ?_
            by_cases h23 : x14 < (p1.code.length : Int)
            ·rw [if_pos h23] at hm
             refine W_condt rfl (decide_eq_true h23) ?_
             refine W_skip ?_
             refine KThen_n (hk4 _ _ ?_)
             refine W_seq_k fun k5 hk5 => ?_
             refine W_block ?_
             obtain ⟨hg24a, hm⟩ := gd hm
             refine W_anyF [95, 98, 99, 100, 101, 102, 103, 104] (by kernel_rfl) [0, 0, 2, 0, 14, 30, 63, 127] [false, false, false, false, false, false, true, true] (by kernel_rfl) fun k hk => ?_
             refine gax (em TIns.enc p1.code x14.toNat) ?_
             obtain ⟨y15, hc25, hm⟩ := bd hm
             refine AP (fun _ => ref_insOK_ok p1 (p1.code.getD x14.toNat default) _ hc25) ?_
             refine ga ?_
             refine hk _ _ ?_
             clear hk k
             by_cases h26 : y15 = true
             ·rw [if_pos h26] at hm
              refine W_condf rfl (by rw [show y15 = true from (h26)]; rfl) ?_
              refine W_skip ?_
              refine KBlock_n ?_
              refine KThen_n (hk5 _ _ ?_)
              refine W_rn ?_
              refine KLoopM_n (IntKind.wrap .i64 (x14 + 1)) () hm ?_
              exact ls
             ·rw [if_neg h26] at hm
              refine W_condt rfl (by rw [show y15 = false from (Bool.eq_false_iff.2 h26)]; rfl) ?_
              refine W_regF [1, 6, 105, 106, 107] fun k kp hk hp => ?_
              refine go ?_
              obtain ⟨y16, hc27, hm⟩ := bd hm
              refine RP (fun _ => ref_F_ok 4 x14 _ hc27) ?_
              refine RunRest_ops ?_
              refine go ?_
              refine hk _ _ ?_
              clear hk hp k kp
              have ho28 := out_eq hm hr1
              subst ho28
              replace hm : some (y16) = some r := hm1
              refine W_ret ?_
              refine KBlock_r ?_
              refine KThen_r ?_
              refine KLoopM_r ?_
              refine KBlock_r ?_
              refine KJoinM_r ?_
              refine KBody_ret [] ?_
              obtain rfl := Option.some.inj hm
              exact en
            ·rw [if_neg h23] at hm
             refine W_condf rfl (decide_eq_false h23) ?_
             refine W_exit ?_
             have ho29 := out_eq hm hr1
             subst ho29
             replace hm : ref_ImageFault_j2 p1 = some r := hm1
             refine KThen_x ?_
             refine KLoopM_x ?_
             refine KBlock_hit ?_
             refine KJoinM_n () () hm ?_
             exact ls
          ·rintro _ _ hm
           replace hm : ref_ImageFault_j2 p1 = some r := hm
           refine W_eqm ?_
           unfold ref_ImageFault_j2 at hm
           refine W_regF [108, 109, 110] fun k kp hk hp => ?_
           refine go ?_
           obtain ⟨y9, hc17, hm⟩ := bd hm
           refine RP (fun _ => ref_CostOf_2_ok p1.code _ hc17) ?_
           refine RunRest_ops ?_
           refine go ?_
           refine hk _ _ ?_
           clear hk hp k kp
           refine W_seq_k fun k3 hk3 => ?_
           refine W_regG [1, 7, 111, 112, 113, 114, 115, 116, 117, 118, 119, 120, 121, 122, 123] fun k kp hk hp => ?_
           refine RunRest_cut 5 ?_
           refine go ?_
           by_cases h18 : ¬ p1.cost = y9
           ·rw [if_pos h18] at hm
            have h18b : (p1.cost != y9) = true := bne_iff_ne.2 h18
            refine RunRest_ops ?_
            refine gox h18b ?_
            refine hk _ _ ?_
            clear hk hp k kp
            refine W_condt rfl rfl ?_
            refine W_regF [124, 125] fun k kp hk hp => ?_
            refine go ?_
            obtain ⟨y10, hc19, hm⟩ := bd hm
            refine RP (fun _ => ref_F_ok 18 (-1) _ hc19) ?_
            refine RunRest_ops ?_
            refine go ?_
            refine hk _ _ ?_
            clear hk hp k kp
            refine W_ret ?_
            refine KThen_r ?_
            refine KBody_ret [] ?_
            obtain rfl := Option.some.inj hm
            exact en
           ·rw [if_neg h18] at hm
            have h18b : (p1.cost != y9) = false := bne_eq_false_iff_eq.2 (Decidable.not_not.1 h18)
            by_cases h20 : y9 = 0
            ·rw [if_pos h20] at hm
             have h20b : (y9 == 0) = true := beq_iff_eq.2 h20
             refine RunRest_ops ?_
             refine gox (a2 h18b h20b) ?_
             refine hk _ _ ?_
             clear hk hp k kp
             by_cases h21 : (p1.code.length : Int) > 0
             ·rw [if_pos h21] at hm
              refine W_condt rfl (decide_eq_true h21) ?_
              refine W_regF [124, 125] fun k kp hk hp => ?_
              refine go ?_
              obtain ⟨y11, hc22, hm⟩ := bd hm
              refine RP (fun _ => ref_F_ok 18 (-1) _ hc22) ?_
              refine RunRest_ops ?_
              refine go ?_
              refine hk _ _ ?_
              clear hk hp k kp
              refine W_ret ?_
              refine KThen_r ?_
              refine KBody_ret [] ?_
              obtain rfl := Option.some.inj hm
              exact en
             ·rw [if_neg h21] at hm
              refine W_condf rfl (decide_eq_false h21) ?_
              refine W_skip ?_
              refine KThen_n (hk3 _ _ ?_)
              refine W_rg [124, 126] ?_
              refine W_ret ?_
              refine KBody_ret [] ?_
              obtain rfl := Option.some.inj hm
              exact en
            ·rw [if_neg h20] at hm
             have h20b : (y9 == 0) = false := beq_eq_false_iff_ne.2 h20
             refine RunRest_ops ?_
             refine gox (a2 h18b h20b) ?_
             refine hk _ _ ?_
             clear hk hp k kp
             refine W_condf rfl rfl ?_
             refine W_skip ?_
             refine KThen_n (hk3 _ _ ?_)
             refine W_rg [124, 126] ?_
             refine W_ret ?_
             refine KBody_ret [] ?_
             obtain rfl := Option.some.inj hm
             exact en
end Pam

/- the walk of ref_Emitted, printed by a program of ours -/
namespace Pam
open Go Go.Proofs
set_option maxRecDepth 100000 in
set_option maxHeartbeats 8000000 in
theorem ref_Emitted_ok (p1 : TLoops) (p2 : List Int) (r : (TImage × TFault)) (hm : ref_Emitted p1 p2 = some r) : SpecF Try.prog 19 [.a [.int .i64 p1.cells, .tree 1 (p1.put.map (eK .i64)), .tree 1 (p1.get.map (eK .i64)), .tree 6 (p1.steps.map TLoop.enc)], .c (.tree 1 (p2.map (eK .i64)))] (.t [.a [.int .i64 ((r.1).cells), .int .i64 ((r.1).regs), .int .i64 ((r.1).cost), .tree 1 (((r.1).put).map (eK .i64)), .tree 1 (((r.1).bools).map (eK .i64)), .tree 1 (((r.1).get).map (eK .i64)), .tree 6 (((r.1).code).map TIns.enc)], .a [.int .i64 ((r.2).code), .int .i64 ((r.2).at_)]]) := by
 refine Spec_ofD 112 [.cell 4 31, .cell 5 33] Try.func19 rfl rfl rfl (by kernel_rfl) (by simp) ?_
 refine W_eqf ?_
 unfold ref_Emitted at hm
 refine W_rg [0] ?_
 refine W_seq_k fun k1 hk1 => ?_
 refine W_regF [14, 15] fun k kp hk hp => ?_
 refine go ?_
 obtain ⟨y1, hc1, hm⟩ := bd hm
 refine RP (fun _ => ref_LoopsFault_ok p1 _ hc1) ?_
 refine RunRest_ops ?_
 refine go ?_
 refine hk _ _ ?_
 clear hk hp k kp
 refine W_rg [16, 17] ?_
 by_cases h2 : ¬ ((y1).code) = 0
 ·rw [if_pos h2] at hm
  refine W_condt rfl (bne_iff_ne.2 h2) ?_
  refine W_anyPF [1, 2, 6, 18, 19, 20] (by kernel_rfl) [1] [0, 0, 1, 7] [false, false, false, true] [false, false, true, false] [[], [6], [], []] (by kernel_rfl) fun k hk => ?_
  simp only [bAP, bT, tab, bX, reduceIte, ↓reduceIte, reduceCtorEq, Int.reduceToNat, Nat.reduceDiv, Nat.reduceMod, Nat.reduceLT, Nat.reduceLeDiff, Nat.reduceAdd, Nat.reduceSub, Nat.reduceMul, Nat.reduceEqDiff, Nat.reduceBEq, Nat.reduceBNe, Nat.reduceGT, List.replicate, List.foldr]
  repeat refine ⟨by first | omega | assumption | decide | exact all_len fun _ => rfl | (intro _; omega) | rfl | exact fun e => absurd (List.map_eq_nil_iff.1 e) (by assumption) | (and_intros <;> first | omega | assumption | decide | exact all_len fun _ => rfl) | (refine .inl ?_; simp only [extB]; and_intros <;> first | rfl | trivial) | (refine .inr (.inl ?_); simp only [extB]; and_intros <;> first | rfl | trivial) | (refine .inr ?_; simp only [nearB]; and_intros <;> first | exact .inl rfl | exact .inr rfl | trivial) | (refine .inr (.inr ⟨rfl, ?_⟩); simp only [nearB]; and_intros <;> first | exact .inl rfl | exact .inr rfl | trivial) | exact .inl rfl, ?_⟩
  refine hk _ _ ?_
  clear hk k
  refine W_ghost (Ghost_ntB 1 [.int .i64 0, .int .i64 0, .int .i64 0, .tree 1 ([].map (eK .i64)), .tree 1 ([].map (eK .i64)), .tree 1 ([].map (eK .i64)), .tree 6 ([].map TIns.enc)] rfl (by and_intros <;> trivial)) ?_
  refine W_eqE rfl (by simp only [bZ, bL, reduceIte, ↓reduceIte, reduceCtorEq, Int.reduceToNat, Nat.reduceDiv, Nat.reduceMod, Nat.reduceLT, Nat.reduceLeDiff, Nat.reduceAdd, Nat.reduceSub, Nat.reduceMul, Nat.reduceEqDiff, Nat.reduceBEq, Nat.reduceBNe, Nat.reduceGT]; rfl) ?_
  refine W_ret ?_
  refine KThen_r ?_
  refine KBody_ret [] ?_
  obtain rfl := Option.some.inj hm
  exact en
 ·rw [if_neg h2] at hm
  refine W_condf rfl (bne_eq_false_iff_eq.2 (Decidable.not_not.1 h2)) ?_
  refine W_skip ?_
  refine KThen_n (hk1 _ _ ?_)
  refine W_rg [6, 18, 21, 22] ?_
  refine W_rg [] ?_
  refine W_gh (Ghost_nilB 4 0 6 118 (by decide) rfl rfl) ?_
  refine W_joinM (S := ((List TIns) × Int)) (V := Nat) [8, 9, 10, 11, 23, 24, 25, 26, 27, 28, 29, 30, 31, 32, 33, 34, 35, 36, 37, 38, 39, 40, 41, 42, 43, 44, 45, 46, 47, 48, 49, 50, 51, 52, 53, 54, 55, 56, 57, 58, 59, 60, 61, 62, 63, 64, 65, 66, 67, 68, 69, 70, 71, 72, 73, 74, 75, 76, 77, 78, 79, 80, 81, 82, 83, 84] (fun (l4, x6) v5 => [(8, .c (.int .i64 x6))]) (fun (l4, x6) v5 => [.box [.int .i64 p1.cells, .tree 1 (p1.put.map (eK .i64)), .tree 1 (p1.get.map (eK .i64)), .tree 6 (p1.steps.map TLoop.enc)], .box [.int .i64 0, .int .i64 0, .int .i64 0, .nils, .nils, .nils, .nils], .box [.int .i64 0, .int .i64 0], .box [.int .i64 ((y1).code), .int .i64 ((y1).at_)], .box [.osl 5 v5 0 l4.length], .arr 6 v5 118 (l4.map TIns.enc)]) (fun (l4, x6) => ref_Emitted_j1 p1 p2 l4 x6 = some r) ?_ ?_
  ·skip
   refine W_rg [] ?_
   refine W_block ?_
   obtain ⟨o1, hl1, hm1⟩ := bd hm
   refine W_loopM (S := ((List TIns) × Int × Int)) (V := Nat) (O := ((List TIns) × Int) ⊕ (TImage × TFault)) [8, 9, 10, 11, 23, 24, 25, 26, 27, 28, 29, 30, 31, 32, 33, 34, 35, 36, 37, 38, 39, 40, 41, 42, 43, 44, 45, 46, 47, 48, 49, 50, 51, 52, 53, 54, 55, 56, 57, 58, 59, 60, 61, 62, 63, 64, 65, 66, 67, 68, 69, 70, 71, 72, 73, 74, 75, 76, 77, 78, 79, 80, 81, 82, 83, 84] (fun (l23, x25, x26) v24 => [(8, .c (.int .i64 x25)), (9, .c (.int .i64 x26))]) (fun (l23, x25, x26) v24 => [.box [.int .i64 p1.cells, .tree 1 (p1.put.map (eK .i64)), .tree 1 (p1.get.map (eK .i64)), .tree 6 (p1.steps.map TLoop.enc)], .box [.int .i64 0, .int .i64 0, .int .i64 0, .nils, .nils, .nils, .nils], .box [.int .i64 0, .int .i64 0], .box [.int .i64 ((y1).code), .int .i64 ((y1).at_)], .box [.osl 5 v24 0 l23.length], .arr 6 v24 118 (l23.map TIns.enc)]) _ _ 0 hl1 ?_ ?_
   ·exact ls
   ·rintro ⟨l23, x25, x26⟩ v24 r1 hm hr1
    replace hm : ref_Emitted_l1 p1 l23 x25 x26 = some r1 := hm
    refine W_eqm ?_
    unfold ref_Emitted_l1 at hm
    refine W_seq_k fun k3 hk3 => ?_
    refine W_rg [23, 24, 25, 26] ?_
    by_cases h6 : x26 < (p1.steps.length : Int)
    ·rw [if_pos h6] at hm
     refine W_condt rfl (decide_eq_true h6) ?_
     refine W_skip ?_
     refine KThen_n (hk3 _ _ ?_)
     refine W_joinM (S := ((List TIns) × Int)) (V := Nat) [8, 10, 11, 27, 30, 31, 32, 33, 34, 35, 36, 37, 38, 39, 40, 41, 42, 43, 44, 45, 46, 47, 48, 49, 50, 51, 52, 53, 54, 55, 56, 57, 58, 59, 60, 61, 62, 63, 64, 65, 66, 67, 68, 69, 70, 71, 72, 73, 74, 75, 76, 77, 78, 79, 80, 81, 82, 83, 84] (fun (l29, x31) v30 => [(8, .c (.int .i64 x31))]) (fun (l29, x31) v30 => [.box [.int .i64 p1.cells, .tree 1 (p1.put.map (eK .i64)), .tree 1 (p1.get.map (eK .i64)), .tree 6 (p1.steps.map TLoop.enc)], .box [.int .i64 0, .int .i64 0, .int .i64 0, .nils, .nils, .nils, .nils], .box [.int .i64 0, .int .i64 0], .box [.int .i64 ((y1).code), .int .i64 ((y1).at_)], .box [.osl 5 v30 0 l29.length], .arr 6 v30 118 (l29.map TIns.enc)]) (fun (l29, x31) => ref_Emitted_j2 x26 l29 x31 = some r1) ?_ ?_
     ·skip
      refine W_block ?_
      refine W_rg [27, 30, 31, 32, 33, 34] ?_
      obtain ⟨hg7a, hm⟩ := gd hm
      refine W_regF [35, 36, 37, 38, 39, 40, 41] fun k kp hk hp => ?_
      refine gox (em TLoop.enc p1.steps x26.toNat) ?_
      obtain ⟨y32, hc8, hm⟩ := bd hm
      refine RA (ref_emitting_step_ok (p1.steps.getD x26.toNat default) l23 v24 _ hc8) [4, 5] ?_
      rintro p σ' hq9 _
      obtain ⟨v33, rfl, rfl⟩ := hq9
      refine RunRest_ops ?_
      refine gox (em TLoop.enc p1.steps x26.toNat) ?_
      refine hk _ _ ?_
      clear hk hp k kp
      refine W_joinM (S := Int) (V := Nat) [8, 10, 11, 42, 43, 44, 45, 46, 47, 48, 49, 50, 51, 52, 53, 54, 55, 56, 57, 58, 59, 60, 61, 62, 63, 64, 65, 66, 67, 68, 69, 70, 71] (fun x36 v35 => [(8, .c (.int .i64 x36))]) (fun x36 v35 => [.box [.int .i64 p1.cells, .tree 1 (p1.put.map (eK .i64)), .tree 1 (p1.get.map (eK .i64)), .tree 6 (p1.steps.map TLoop.enc)], .box [.int .i64 0, .int .i64 0, .int .i64 0, .nils, .nils, .nils, .nils], .box [.int .i64 0, .int .i64 0], .box [.int .i64 ((y1).code), .int .i64 ((y1).at_)], .box [.osl 5 v35 0 y32.length], .arr 6 v35 118 (y32.map TIns.enc)]) (fun x36 => ref_Emitted_j3 x26 y32 x36 = some r1) ?_ ?_
      ·skip
       refine W_rg [10, 42] ?_
       refine W_block ?_
       obtain ⟨o2, hl2, hm2⟩ := bd hm
       refine W_loopM (S := (Int × Int)) (V := Nat) (O := Int) [8, 11, 43, 44, 45, 46, 47, 48, 49, 50, 51, 52, 53, 54, 55, 56, 57, 58, 59, 60, 61, 62, 63, 64, 65, 66, 67, 68, 69, 70, 71] (fun (x51, x52) v50 => [(8, .c (.int .i64 x51)), (11, .c (.int .i64 x52))]) (fun (x51, x52) v50 => [.box [.int .i64 p1.cells, .tree 1 (p1.put.map (eK .i64)), .tree 1 (p1.get.map (eK .i64)), .tree 6 (p1.steps.map TLoop.enc)], .box [.int .i64 0, .int .i64 0, .int .i64 0, .nils, .nils, .nils, .nils], .box [.int .i64 0, .int .i64 0], .box [.int .i64 ((y1).code), .int .i64 ((y1).at_)], .box [.osl 5 v50 0 y32.length], .arr 6 v50 118 (y32.map TIns.enc)]) _ _ v33 hl2 ?_ ?_
       ·exact ls
       ·rintro ⟨x51, x52⟩ v50 r2 hm hr2
        replace hm : ref_Emitted_l2 y32 x51 x52 = some r2 := hm
        refine W_eqm ?_
        unfold ref_Emitted_l2 at hm
        refine W_seq_k fun k4 hk4 => ?_
        refine W_rg [43, 44, 45, 46, 47, 48] ?_
        by_cases h16 : x52 < (y32.length : Int)
        ·rw [if_pos h16] at hm
         refine W_condt rfl (decide_eq_true h16) ?_
         refine W_skip ?_
         refine KThen_n (hk4 _ _ ?_)
         refine W_seq_k fun k5 hk5 => ?_
         refine W_block ?_
         obtain ⟨hg17a, hm⟩ := gd hm
         refine W_rgx (em TIns.enc y32 x52.toNat) [49, 52, 53, 54, 55, 56, 57, 58, 59, 60, 61] ?_
         by_cases h18 : (IntKind.wrap .i64 (((y32.getD x52.toNat default).r_) + 1)) > x51
         ·rw [if_pos h18] at hm
          refine W_condt rfl (decide_eq_true h18) ?_
          refine W_rnx (em TIns.enc y32 x52.toNat) ?_
          refine KBlock_n ?_
          refine KThen_n (hk5 _ _ ?_)
          refine W_rn ?_
          refine KLoopM_n ((IntKind.wrap .i64 (((y32.getD x52.toNat default).r_) + 1)), (IntKind.wrap .i64 (x52 + 1))) v50 hm ?_
          exact ls
         ·rw [if_neg h18] at hm
          refine W_condf rfl (decide_eq_false h18) ?_
          refine W_skip ?_
          refine KBlock_n ?_
          refine KThen_n (hk5 _ _ ?_)
          refine W_rn ?_
          refine KLoopM_n (x51, (IntKind.wrap .i64 (x52 + 1))) v50 hm ?_
          exact ls
        ·rw [if_neg h16] at hm
         refine W_condf rfl (decide_eq_false h16) ?_
         refine W_exit ?_
         have ho19 := out_eq hm hr2
         subst ho19
         replace hm : ref_Emitted_j3 x26 y32 x51 = some r1 := hm2
         refine KThen_x ?_
         refine KLoopM_x ?_
         refine KBlock_hit ?_
         refine KJoinM_n x51 v50 hm ?_
         exact ls
      ·rintro x36 v35 hm
       replace hm : ref_Emitted_j3 x26 y32 x36 = some r1 := hm
       refine W_eqm ?_
       unfold ref_Emitted_j3 at hm
       refine W_regG [72, 73, 74, 75, 76, 77, 78, 79, 80] fun k kp hk hp => ?_
       refine RunRest_cut 7 ?_
       refine go ?_
       by_cases h10 : (y32.length : Int) > 200000
       ·rw [if_pos h10] at hm
        have h10b : decide ((y32.length : Int) > 200000) = true := decide_eq_true h10
        refine RunRest_ops ?_
        refine gox h10b ?_
        refine hk _ _ ?_
        clear hk hp k kp
        refine W_condt rfl rfl ?_
        refine W_regF [1, 2, 7, 8, 9, 81, 82, 83, 84] fun k kp hk hp => ?_
        refine go ?_
        obtain ⟨y37, hc11, hm⟩ := bd hm
        refine RP (fun _ => ref_F_ok 7 x26 _ hc11) ?_
        refine RunRest_ops ?_
        refine go ?_
        refine hk _ _ ?_
        clear hk hp k kp
        refine W_ghost (Ghost_ntB 1 [.int .i64 0, .int .i64 0, .int .i64 0, .tree 1 ([].map (eK .i64)), .tree 1 ([].map (eK .i64)), .tree 1 ([].map (eK .i64)), .tree 6 ([].map TIns.enc)] rfl (by and_intros <;> trivial)) ?_
        refine W_eqE rfl (by simp only [bZ, bL, reduceIte, ↓reduceIte, reduceCtorEq, Int.reduceToNat, Nat.reduceDiv, Nat.reduceMod, Nat.reduceLT, Nat.reduceLeDiff, Nat.reduceAdd, Nat.reduceSub, Nat.reduceMul, Nat.reduceEqDiff, Nat.reduceBEq, Nat.reduceBNe, Nat.reduceGT]; rfl) ?_
        have ho12 := out_eq hm hr1
        subst ho12
        replace hm : some ((TImage.mk 0 0 0 [] [] [] []), (y37)) = some r := hm1
        refine W_ret ?_
        refine KBlock_r ?_
        refine KJoinM_r ?_
        refine KLoopM_r ?_
        refine KBlock_r ?_
        refine KJoinM_r ?_
        refine KBody_ret [] ?_
        obtain rfl := Option.some.inj hm
        exact en
       ·rw [if_neg h10] at hm
        have h10b : decide ((y32.length : Int) > 200000) = false := decide_eq_false h10
        refine RunRest_ops ?_
        refine gox h10b ?_
        refine hk _ _ ?_
        clear hk hp k kp
        by_cases h13 : x36 > 40
        ·rw [if_pos h13] at hm
         refine W_condt rfl (decide_eq_true h13) ?_
         refine W_regF [1, 2, 7, 8, 9, 81, 82, 83, 84] fun k kp hk hp => ?_
         refine go ?_
         obtain ⟨y38, hc14, hm⟩ := bd hm
         refine RP (fun _ => ref_F_ok 7 x26 _ hc14) ?_
         refine RunRest_ops ?_
         refine go ?_
         refine hk _ _ ?_
         clear hk hp k kp
         refine W_ghost (Ghost_ntB 1 [.int .i64 0, .int .i64 0, .int .i64 0, .tree 1 ([].map (eK .i64)), .tree 1 ([].map (eK .i64)), .tree 1 ([].map (eK .i64)), .tree 6 ([].map TIns.enc)] rfl (by and_intros <;> trivial)) ?_
         refine W_eqE rfl (by simp only [bZ, bL, reduceIte, ↓reduceIte, reduceCtorEq, Int.reduceToNat, Nat.reduceDiv, Nat.reduceMod, Nat.reduceLT, Nat.reduceLeDiff, Nat.reduceAdd, Nat.reduceSub, Nat.reduceMul, Nat.reduceEqDiff, Nat.reduceBEq, Nat.reduceBNe, Nat.reduceGT]; rfl) ?_
         have ho15 := out_eq hm hr1
         subst ho15
         replace hm : some ((TImage.mk 0 0 0 [] [] [] []), (y38)) = some r := hm1
         refine W_ret ?_
         refine KBlock_r ?_
         refine KJoinM_r ?_
         refine KLoopM_r ?_
         refine KBlock_r ?_
         refine KJoinM_r ?_
         refine KBody_ret [] ?_
         obtain rfl := Option.some.inj hm
         exact en
        ·rw [if_neg h13] at hm
         refine W_condf rfl (decide_eq_false h13) ?_
         refine W_skip ?_
         refine KBlock_n ?_
         refine KJoinM_n (y32, x36) v35 hm ?_
         exact ls
     ·rintro ⟨l29, x31⟩ v30 hm
      replace hm : ref_Emitted_j2 x26 l29 x31 = some r1 := hm
      refine W_eqm ?_
      unfold ref_Emitted_j2 at hm
      refine W_rn ?_
      refine KLoopM_n (l29, x31, (IntKind.wrap .i64 (x26 + 1))) v30 hm ?_
      exact ls
    ·rw [if_neg h6] at hm
     refine W_condf rfl (decide_eq_false h6) ?_
     refine W_exit ?_
     have ho20 := out_eq hm hr1
     subst ho20
     replace hm : ref_Emitted_j1 p1 p2 l23 x25 = some r := hm1
     refine KThen_x ?_
     refine KLoopM_x ?_
     refine KBlock_hit ?_
     refine KJoinM_n (l23, x25) v24 hm ?_
     exact ls
  ·rintro ⟨l4, x6⟩ v5 hm
   replace hm : ref_Emitted_j1 p1 p2 l4 x6 = some r := hm
   refine W_eqm ?_
   unfold ref_Emitted_j1 at hm
   refine W_lateT [1, 2, 7, 8, 85, 86, 87, 88, 89, 90, 91, 92, 93, 94, 95, 96, 97, 98, 99, 100, 101, 102] [12] [0, 1, 0, 0, 8, 24, 56, 120, 0, 256, 0, 0, 2048, 0, 8192, 24576, 57344, 131071, 0, 524287] [false, false, false, false, false, false, false, false, false, false, false, false, false, false, false, false, false, false, false, true] (by kernel_rfl) (by kernel_rfl) (by decide) fun k kp hk => ?_
   simp only [virt, late, vOne, hush]
   refine ga ?_
   obtain ⟨y7, hc3, hm⟩ := bd hm
   refine AnyCall_at (σ2 := [.box [.int .i64 p1.cells, .tree 1 (p1.put.map (eK .i64)), .tree 1 (p1.get.map (eK .i64)), .tree 6 (p1.steps.map TLoop.enc)], .box [.int .i64 0, .int .i64 0, .int .i64 0, .nils, .nils, .nils, .nils], .box [.int .i64 0, .int .i64 0], .box [.int .i64 ((y1).code), .int .i64 ((y1).at_)], .box [.osl 5 v5 0 l4.length], .arr 6 v5 118 (l4.map TIns.enc)]) (res := .c (.int .i64 y7)) ⟨_, _, _, _, [5], ref_CostOf_ok l4 v5 _ hc3, by simp, by simp, rfl, rfl, by first | trivial | (simp [bX, eK, eB, eS, eL, s_cap, psUnder, PV.under, CV.under, obsBelow, OB.under, cvsBelow]; done), by first | trivial | (simp [bX, eK, eB, eS, eL, s_cap, psUnder, PV.under, CV.under, obsBelow, OB.under, cvsBelow]; done), fun q τ hq _ => by obtain ⟨rfl, rfl⟩ := hq; exact ⟨rfl, rfl⟩, fun _ _ h => h.elim⟩ (by first | trivial | exact dst_ok rfl) (by first | trivial | (intro _; first | trivial | simp [need]) | simp [need]) (by first | exact .inl rfl | exact .inr (by simp only [extB]; and_intros <;> first | rfl | trivial)) ?_
   refine ga ?_
   refine go ?_
   refine hk _ _ ?_
   clear hk k kp
   refine W_seq_k fun k2 hk2 => ?_
   refine W_regF [103, 104] fun k kp hk hp => ?_
   refine go ?_
   refine RunCall_turn (Ghost_fr 5 rfl) ?_
   simp only [bR, bT, tab, bX, reduceIte, ↓reduceIte, reduceCtorEq, Int.reduceToNat, Nat.reduceDiv, Nat.reduceMod, Nat.reduceLT, Nat.reduceLeDiff, Nat.reduceAdd, Nat.reduceSub, Nat.reduceMul, Nat.reduceEqDiff, Nat.reduceBEq, Nat.reduceBNe, Nat.reduceGT, bZ]
   repeat refine ⟨by first | omega | assumption | decide | exact all_len fun _ => rfl | (intro _; omega) | rfl | exact fun e => absurd (List.map_eq_nil_iff.1 e) (by assumption) | (and_intros <;> first | omega | assumption | decide | exact all_len fun _ => rfl), ?_⟩
   obtain ⟨y8, hc4, hm⟩ := bd hm
   refine RP (fun _ => ref_ImageFault_ok (TImage.mk p1.cells x6 y7 p1.put p2 p1.get l4) _ hc4) ?_
   refine RunRest_ops ?_
   refine go ?_
   refine hk _ _ ?_
   clear hk hp k kp
   refine W_rg [105, 106] ?_
   by_cases h5 : ¬ ((y8).code) = 0
   ·rw [if_pos h5] at hm
    refine W_condt rfl (bne_iff_ne.2 h5) ?_
    refine W_anyPF [12, 13, 107, 108, 109] (by kernel_rfl) [1] [0, 0, 1, 7] [false, false, false, true] [false, false, true, false] [[], [13], [], []] (by kernel_rfl) fun k hk => ?_
    simp only [bAP, bT, tab, bX, reduceIte, ↓reduceIte, reduceCtorEq, Int.reduceToNat, Nat.reduceDiv, Nat.reduceMod, Nat.reduceLT, Nat.reduceLeDiff, Nat.reduceAdd, Nat.reduceSub, Nat.reduceMul, Nat.reduceEqDiff, Nat.reduceBEq, Nat.reduceBNe, Nat.reduceGT, List.replicate, List.foldr]
    repeat refine ⟨by first | omega | assumption | decide | exact all_len fun _ => rfl | (intro _; omega) | rfl | exact fun e => absurd (List.map_eq_nil_iff.1 e) (by assumption) | (and_intros <;> first | omega | assumption | decide | exact all_len fun _ => rfl) | (refine .inl ?_; simp only [extB]; and_intros <;> first | rfl | trivial) | (refine .inr (.inl ?_); simp only [extB]; and_intros <;> first | rfl | trivial) | (refine .inr ?_; simp only [nearB]; and_intros <;> first | exact .inl rfl | exact .inr rfl | trivial) | (refine .inr (.inr ⟨rfl, ?_⟩); simp only [nearB]; and_intros <;> first | exact .inl rfl | exact .inr rfl | trivial) | exact .inl rfl, ?_⟩
    refine hk _ _ ?_
    clear hk k
    refine W_ghost (Ghost_ntB 1 [.int .i64 0, .int .i64 0, .int .i64 0, .tree 1 ([].map (eK .i64)), .tree 1 ([].map (eK .i64)), .tree 1 ([].map (eK .i64)), .tree 6 ([].map TIns.enc)] rfl (by and_intros <;> trivial)) ?_
    refine W_eqE rfl (by simp only [bZ, bL, reduceIte, ↓reduceIte, reduceCtorEq, Int.reduceToNat, Nat.reduceDiv, Nat.reduceMod, Nat.reduceLT, Nat.reduceLeDiff, Nat.reduceAdd, Nat.reduceSub, Nat.reduceMul, Nat.reduceEqDiff, Nat.reduceBEq, Nat.reduceBNe, Nat.reduceGT]; rfl) ?_
    refine W_ret ?_
    refine KThen_r ?_
    refine KBody_ret [] ?_
    obtain rfl := Option.some.inj hm
    exact en
   ·rw [if_neg h5] at hm
    refine W_condf rfl (bne_eq_false_iff_eq.2 (Decidable.not_not.1 h5)) ?_
    refine W_skip ?_
    refine KThen_n (hk2 _ _ ?_)
    refine W_rg [12, 13, 107, 110, 111] ?_
    refine W_ret ?_
    refine KBody_ret [] ?_
    obtain rfl := Option.some.inj hm
    exact en
end Pam

/- the walk of ref_SameInts, printed by a program of ours -/
namespace Pam
open Go Go.Proofs
set_option maxRecDepth 100000 in
set_option maxHeartbeats 1000000 in
theorem ref_SameInts_ok (p1 : List Int) (p2 : List Int) (r : Bool) (hm : ref_SameInts p1 p2 = some r) : SpecF Try.prog 22 [.c (.tree 1 (p1.map (eK .i64))), .c (.tree 1 (p2.map (eK .i64)))] (.c (.bool r)) := by
 refine Spec_ofD 26 [.tmp 4] Try.func22 rfl rfl rfl (by kernel_rfl) (by simp) ?_
 refine W_eqf ?_
 unfold ref_SameInts at hm
 refine W_rg [4] ?_
 refine W_seq_k fun k1 hk1 => ?_
 refine W_rg [6, 7, 8, 9] ?_
 by_cases h1 : ¬ (p1.length : Int) = (p2.length : Int)
 ·rw [if_pos h1] at hm
  refine W_condt rfl (bne_iff_ne.2 h1) ?_
  refine W_rg [0, 1, 10] ?_
  refine W_ret ?_
  refine KThen_r ?_
  refine KBody_ret [] ?_
  obtain rfl := Option.some.inj hm
  exact en
 ·rw [if_neg h1] at hm
  refine W_condf rfl (bne_eq_false_iff_eq.2 (Decidable.not_not.1 h1)) ?_
  refine W_skip ?_
  refine KThen_n (hk1 _ _ ?_)
  refine W_joinM (S := Unit) (V := Unit) [0, 1, 4, 5, 10, 11, 12, 13, 14, 15, 16, 17, 18, 19, 20, 21, 22, 23, 24, 25] (fun _ _ => []) (fun _ _ => []) (fun _ => ref_SameInts_j1 = some r) ?_ ?_
  ·skip
   refine W_rg [10] ?_
   refine W_block ?_
   obtain ⟨o1, hl1, hm1⟩ := bd hm
   refine W_loopM (S := Int) (V := Unit) (O := Unit ⊕ Bool) [4, 5, 11, 12, 13, 14, 15, 16, 17, 18, 19, 20, 21, 22, 23, 24, 25] (fun x3 _ => [(5, .c (.int .i64 x3))]) (fun x3 _ => []) _ _ () hl1 ?_ ?_
   ·exact ls
   ·rintro x3 _ r1 hm hr1
    replace hm : ref_SameInts_l1 p1 p2 x3 = some r1 := hm
    refine W_eqm ?_
    unfold ref_SameInts_l1 at hm
    refine W_seq_k fun k2 hk2 => ?_
    refine W_rg [11, 12, 13] ?_
    by_cases h2 : x3 < (p1.length : Int)
    ·rw [if_pos h2] at hm
     refine W_condt rfl (decide_eq_true h2) ?_
     refine W_skip ?_
     refine KThen_n (hk2 _ _ ?_)
     refine W_seq_k fun k3 hk3 => ?_
     refine W_block ?_
     obtain ⟨⟨hg3a, hg3b⟩, hm⟩ := gd hm
     refine W_agx (a2 (em (eK .i64) p1 x3.toNat) (em (eK .i64) p2 x3.toNat)) [14, 17, 18, 19, 20, 21, 22, 23, 24] [0, 0, 3, 7, 0, 0, 48, 112, 255] [false, false, false, false, false, false, false, false, true] ?_
     by_cases h4 : ¬ (p1.getD x3.toNat default) = (p2.getD x3.toNat default)
     ·rw [if_pos h4] at hm
      refine W_condt rfl (bne_iff_ne.2 h4) ?_
      refine W_rg [0, 1, 5, 25] ?_
      have ho5 := out_eq hm hr1
      subst ho5
      replace hm : some false = some r := hm1
      refine W_ret ?_
      refine KBlock_r ?_
      refine KThen_r ?_
      refine KLoopM_r ?_
      refine KBlock_r ?_
      refine KJoinM_r ?_
      refine KBody_ret [] ?_
      obtain rfl := Option.some.inj hm
      exact en
     ·rw [if_neg h4] at hm
      refine W_condf rfl (bne_eq_false_iff_eq.2 (Decidable.not_not.1 h4)) ?_
      refine W_skip ?_
      refine KBlock_n ?_
      refine KThen_n (hk3 _ _ ?_)
      refine W_rn ?_
      refine KLoopM_n (IntKind.wrap .i64 (x3 + 1)) () hm ?_
      exact ls
    ·rw [if_neg h2] at hm
     refine W_condf rfl (decide_eq_false h2) ?_
     refine W_exit ?_
     have ho6 := out_eq hm hr1
     subst ho6
     replace hm : ref_SameInts_j1 = some r := hm1
     refine KThen_x ?_
     refine KLoopM_x ?_
     refine KBlock_hit ?_
     refine KJoinM_n () () hm ?_
     exact ls
  ·rintro _ _ hm
   replace hm : ref_SameInts_j1 = some r := hm
   refine W_eqm ?_
   unfold ref_SameInts_j1 at hm
   refine W_rg [] ?_
   refine W_ret ?_
   refine KBody_ret [] ?_
   obtain rfl := Option.some.inj hm
   exact en
end Pam

/- the walk of ref_SameImage, printed by a program of ours -/
namespace Pam
open Go Go.Proofs
set_option maxRecDepth 100000 in
set_option maxHeartbeats 8000000 in
theorem ref_SameImage_ok (p1 : TImage) (p2 : TImage) (r : Bool) (hm : ref_SameImage p1 p2 = some r) : SpecF Try.prog 20 [.a [.int .i64 p1.cells, .int .i64 p1.regs, .int .i64 p1.cost, .tree 1 (p1.put.map (eK .i64)), .tree 1 (p1.bools.map (eK .i64)), .tree 1 (p1.get.map (eK .i64)), .tree 6 (p1.code.map TIns.enc)], .a [.int .i64 p2.cells, .int .i64 p2.regs, .int .i64 p2.cost, .tree 1 (p2.put.map (eK .i64)), .tree 1 (p2.bools.map (eK .i64)), .tree 1 (p2.get.map (eK .i64)), .tree 6 (p2.code.map TIns.enc)]] (.c (.bool r)) := by
 refine Spec_ofD 76 [.tmp 4] Try.func20 rfl rfl rfl (by kernel_rfl) (by simp) ?_
 refine W_eqf ?_
 unfold ref_SameImage at hm
 refine W_rg [0, 1, 4] ?_
 refine W_seq_k fun k1 hk1 => ?_
 refine W_regG [6, 7, 8, 9, 10, 11, 12, 13, 14, 15, 16, 17, 18, 19, 20, 21, 22, 23, 24, 25, 26, 27, 28, 29, 30, 31, 32, 33, 34, 35, 36, 37, 38, 39, 40, 41, 42, 43, 44, 45, 46, 47, 48, 49, 50, 51, 52, 53, 54, 55, 56] fun k kp hk hp => ?_
 refine RunRest_cut 6 ?_
 refine go ?_
 by_cases h1 : ¬ p1.cells = p2.cells
 ·rw [if_pos h1] at hm
  have h1b : (p1.cells != p2.cells) = true := bne_iff_ne.2 h1
  refine RunRest_ops ?_
  refine gox h1b ?_
  refine hk _ _ ?_
  clear hk hp k kp
  refine W_condt rfl rfl ?_
  refine W_rg [2, 3, 57] ?_
  refine W_ret ?_
  refine KThen_r ?_
  refine KBody_ret [] ?_
  obtain rfl := Option.some.inj hm
  exact en
 ·rw [if_neg h1] at hm
  have h1b : (p1.cells != p2.cells) = false := bne_eq_false_iff_eq.2 (Decidable.not_not.1 h1)
  refine RunRest_cut 7 ?_
  refine gox h1b ?_
  by_cases h2 : ¬ p1.regs = p2.regs
  ·rw [if_pos h2] at hm
   have h2b : (p1.regs != p2.regs) = true := bne_iff_ne.2 h2
   refine RunRest_ops ?_
   refine gox (a2 h1b h2b) ?_
   refine hk _ _ ?_
   clear hk hp k kp
   refine W_condt rfl rfl ?_
   refine W_rg [2, 3, 57] ?_
   refine W_ret ?_
   refine KThen_r ?_
   refine KBody_ret [] ?_
   obtain rfl := Option.some.inj hm
   exact en
  ·rw [if_neg h2] at hm
   have h2b : (p1.regs != p2.regs) = false := bne_eq_false_iff_eq.2 (Decidable.not_not.1 h2)
   refine RunRest_cut 7 ?_
   refine gox (a2 h1b h2b) ?_
   by_cases h3 : ¬ p1.cost = p2.cost
   ·rw [if_pos h3] at hm
    have h3b : (p1.cost != p2.cost) = true := bne_iff_ne.2 h3
    refine RunRest_ops ?_
    refine gox (a2 h1b (a2 h2b h3b)) ?_
    refine hk _ _ ?_
    clear hk hp k kp
    refine W_condt rfl rfl ?_
    refine W_rg [2, 3, 57] ?_
    refine W_ret ?_
    refine KThen_r ?_
    refine KBody_ret [] ?_
    obtain rfl := Option.some.inj hm
    exact en
   ·rw [if_neg h3] at hm
    have h3b : (p1.cost != p2.cost) = false := bne_eq_false_iff_eq.2 (Decidable.not_not.1 h3)
    refine RunRest_ops ?_
    refine gox (a2 h1b (a2 h2b h3b)) ?_
    obtain ⟨y1, hc4, hm⟩ := bd hm
    refine RP (fun _ => ref_SameInts_ok p1.put p2.put _ hc4) ?_
    by_cases h5 : y1 = true
    ·rw [if_pos h5] at hm
     have h5b : y1 = true := h5
     have h5c : (!y1) = false := by rw [h5b]; rfl
     refine RunRest_ops ?_
     refine gox (a2 h1b (a2 h2b (a2 h3b (a2 h5b h5c)))) ?_
     obtain ⟨y2, hc6, hm⟩ := bd hm
     refine RP (fun _ => ref_SameInts_ok p1.bools p2.bools _ hc6) ?_
     by_cases h7 : y2 = true
     ·rw [if_pos h7] at hm
      have h7b : y2 = true := h7
      have h7c : (!y2) = false := by rw [h7b]; rfl
      refine RunRest_ops ?_
      refine gox (a2 h1b (a2 h2b (a2 h3b (a2 h5b (a2 h5c (a2 h7b h7c)))))) ?_
      obtain ⟨y3, hc8, hm⟩ := bd hm
      refine RP (fun _ => ref_SameInts_ok p1.get p2.get _ hc8) ?_
      by_cases h9 : y3 = true
      ·rw [if_pos h9] at hm
       have h9b : y3 = true := h9
       have h9c : (!y3) = false := by rw [h9b]; rfl
       refine RunRest_ops ?_
       refine gox (a2 h1b (a2 h2b (a2 h3b (a2 h5b (a2 h5c (a2 h7b (a2 h7c (a2 h9b h9c)))))))) ?_
       refine hk _ _ ?_
       clear hk hp k kp
       by_cases h10 : ¬ (p1.code.length : Int) = (p2.code.length : Int)
       ·rw [if_pos h10] at hm
        refine W_condt rfl (bne_iff_ne.2 h10) ?_
        refine W_rg [2, 3, 57] ?_
        refine W_ret ?_
        refine KThen_r ?_
        refine KBody_ret [] ?_
        obtain rfl := Option.some.inj hm
        exact en
       ·rw [if_neg h10] at hm
        refine W_condf rfl (bne_eq_false_iff_eq.2 (Decidable.not_not.1 h10)) ?_
        refine W_skip ?_
        refine KThen_n (hk1 _ _ ?_)
        refine W_joinM (S := Unit) (V := Unit) [2, 3, 4, 5, 57, 58, 59, 60, 61, 62, 63, 64, 65, 66, 67, 68, 69, 70, 71, 72, 73, 74, 75] (fun _ _ => []) (fun _ _ => [.box [.int .i64 p1.cells, .int .i64 p1.regs, .int .i64 p1.cost, .tree 1 (p1.put.map (eK .i64)), .tree 1 (p1.bools.map (eK .i64)), .tree 1 (p1.get.map (eK .i64)), .tree 6 (p1.code.map TIns.enc)], .box [.int .i64 p2.cells, .int .i64 p2.regs, .int .i64 p2.cost, .tree 1 (p2.put.map (eK .i64)), .tree 1 (p2.bools.map (eK .i64)), .tree 1 (p2.get.map (eK .i64)), .tree 6 (p2.code.map TIns.enc)]]) (fun _ => ref_SameImage_j1 = some r) ?_ ?_
        ·skip
         refine W_rg [57] ?_
         refine W_block ?_
         obtain ⟨o1, hl1, hm1⟩ := bd hm
         refine W_loopM (S := Int) (V := Unit) (O := Unit ⊕ Bool) [4, 5, 58, 59, 60, 61, 62, 63, 64, 65, 66, 67, 68, 69, 70, 71, 72, 73, 74, 75] (fun x6 _ => [(5, .c (.int .i64 x6))]) (fun x6 _ => [.box [.int .i64 p1.cells, .int .i64 p1.regs, .int .i64 p1.cost, .tree 1 (p1.put.map (eK .i64)), .tree 1 (p1.bools.map (eK .i64)), .tree 1 (p1.get.map (eK .i64)), .tree 6 (p1.code.map TIns.enc)], .box [.int .i64 p2.cells, .int .i64 p2.regs, .int .i64 p2.cost, .tree 1 (p2.put.map (eK .i64)), .tree 1 (p2.bools.map (eK .i64)), .tree 1 (p2.get.map (eK .i64)), .tree 6 (p2.code.map TIns.enc)]]) _ _ () hl1 ?_ ?_
         ·exact ls
         ·rintro x6 _ r1 hm hr1
          replace hm : ref_SameImage_l1 p1 p2 x6 = some r1 := hm
          refine W_eqm ?_
          unfold ref_SameImage_l1 at hm
          refine W_seq_k fun k2 hk2 => ?_
          refine W_rg [58, 59, 60, 61] ?_
          by_cases h11 : x6 < (p1.code.length : Int)
          ·rw [if_pos h11] at hm
           refine W_condt rfl (decide_eq_true h11) ?_
           refine W_skip ?_
           refine KThen_n (hk2 _ _ ?_)
           refine W_seq_k fun k3 hk3 => ?_
           refine W_block ?_
           obtain ⟨⟨hg12a, hg12b⟩, hm⟩ := gd hm
           refine W_agx (a2 (em TIns.enc p1.code x6.toNat) (em TIns.enc p2.code x6.toNat)) [62, 65, 66, 67, 68, 69, 70, 71, 72, 73, 74] [0, 1, 0, 7, 15, 0, 32, 0, 224, 480, 1023] [false, false, false, false, false, false, false, false, false, false, true] ?_
           by_cases h13 : ((p1.code.getD x6.toNat default).op) = ((p2.code.getD x6.toNat default).op) ∧ ((p1.code.getD x6.toNat default).k) = ((p2.code.getD x6.toNat default).k) ∧ ((p1.code.getD x6.toNat default).r_) = ((p2.code.getD x6.toNat default).r_) ∧ ((p1.code.getD x6.toNat default).a) = ((p2.code.getD x6.toNat default).a) ∧ ((p1.code.getD x6.toNat default).b) = ((p2.code.getD x6.toNat default).b) ∧ ((p1.code.getD x6.toNat default).n) = ((p2.code.getD x6.toNat default).n)
           ·rw [if_pos h13] at hm
            refine W_condf rfl (by rw [show ((((p1.code.getD x6.toNat default).op) == ((p2.code.getD x6.toNat default).op)) && ((((p1.code.getD x6.toNat default).k) == ((p2.code.getD x6.toNat default).k)) && ((((p1.code.getD x6.toNat default).r_) == ((p2.code.getD x6.toNat default).r_)) && ((((p1.code.getD x6.toNat default).a) == ((p2.code.getD x6.toNat default).a)) && ((((p1.code.getD x6.toNat default).b) == ((p2.code.getD x6.toNat default).b)) && (((p1.code.getD x6.toNat default).n) == ((p2.code.getD x6.toNat default).n))))))) = true from (by simpa [Bool.and_eq_true] using h13)]; rfl) ?_
            refine W_skip ?_
            refine KBlock_n ?_
            refine KThen_n (hk3 _ _ ?_)
            refine W_rn ?_
            refine KLoopM_n (IntKind.wrap .i64 (x6 + 1)) () hm ?_
            exact ls
           ·rw [if_neg h13] at hm
            refine W_condt rfl (by rw [show ((((p1.code.getD x6.toNat default).op) == ((p2.code.getD x6.toNat default).op)) && ((((p1.code.getD x6.toNat default).k) == ((p2.code.getD x6.toNat default).k)) && ((((p1.code.getD x6.toNat default).r_) == ((p2.code.getD x6.toNat default).r_)) && ((((p1.code.getD x6.toNat default).a) == ((p2.code.getD x6.toNat default).a)) && ((((p1.code.getD x6.toNat default).b) == ((p2.code.getD x6.toNat default).b)) && (((p1.code.getD x6.toNat default).n) == ((p2.code.getD x6.toNat default).n))))))) = false from (Bool.eq_false_iff.2 (fun hh => h13 (by simpa [Bool.and_eq_true] using hh)))]; rfl) ?_
            refine W_rg [2, 3, 5, 75] ?_
            have ho14 := out_eq hm hr1
            subst ho14
            replace hm : some false = some r := hm1
            refine W_ret ?_
            refine KBlock_r ?_
            refine KThen_r ?_
            refine KLoopM_r ?_
            refine KBlock_r ?_
            refine KJoinM_r ?_
            refine KBody_ret [] ?_
            obtain rfl := Option.some.inj hm
            exact en
          ·rw [if_neg h11] at hm
           refine W_condf rfl (decide_eq_false h11) ?_
           refine W_exit ?_
           have ho15 := out_eq hm hr1
           subst ho15
           replace hm : ref_SameImage_j1 = some r := hm1
           refine KThen_x ?_
           refine KLoopM_x ?_
           refine KBlock_hit ?_
           refine KJoinM_n () () hm ?_
           exact ls
        ·rintro _ _ hm
         replace hm : ref_SameImage_j1 = some r := hm
         refine W_eqm ?_
         unfold ref_SameImage_j1 at hm
         refine W_rg [] ?_
         refine W_ret ?_
         refine KBody_ret [] ?_
         obtain rfl := Option.some.inj hm
         exact en
      ·rw [if_neg h9] at hm
       have h9b : y3 = false := Bool.eq_false_iff.2 h9
       have h9c : (!y3) = true := by rw [h9b]; rfl
       refine RunRest_ops ?_
       refine gox (a2 h1b (a2 h2b (a2 h3b (a2 h5b (a2 h5c (a2 h7b (a2 h7c (a2 h9b h9c)))))))) ?_
       refine hk _ _ ?_
       clear hk hp k kp
       refine W_condt rfl rfl ?_
       refine W_rg [2, 3, 57] ?_
       refine W_ret ?_
       refine KThen_r ?_
       refine KBody_ret [] ?_
       obtain rfl := Option.some.inj hm
       exact en
     ·rw [if_neg h7] at hm
      have h7b : y2 = false := Bool.eq_false_iff.2 h7
      have h7c : (!y2) = true := by rw [h7b]; rfl
      refine RunRest_ops ?_
      refine gox (a2 h1b (a2 h2b (a2 h3b (a2 h5b (a2 h5c (a2 h7b h7c)))))) ?_
      refine hk _ _ ?_
      clear hk hp k kp
      refine W_condt rfl rfl ?_
      refine W_rg [2, 3, 57] ?_
      refine W_ret ?_
      refine KThen_r ?_
      refine KBody_ret [] ?_
      obtain rfl := Option.some.inj hm
      exact en
    ·rw [if_neg h5] at hm
     have h5b : y1 = false := Bool.eq_false_iff.2 h5
     have h5c : (!y1) = true := by rw [h5b]; rfl
     refine RunRest_ops ?_
     refine gox (a2 h1b (a2 h2b (a2 h3b (a2 h5b h5c)))) ?_
     refine hk _ _ ?_
     clear hk hp k kp
     refine W_condt rfl rfl ?_
     refine W_rg [2, 3, 57] ?_
     refine W_ret ?_
     refine KThen_r ?_
     refine KBody_ret [] ?_
     obtain rfl := Option.some.inj hm
     exact en
end Pam

/- the walk of ref_samePush, printed by a program of ours -/
namespace Pam
open Go Go.Proofs
set_option maxRecDepth 100000 in
set_option maxHeartbeats 1000000 in
theorem ref_samePush_ok (p1 : List TPush) (p2 : List TPush) (r : Bool) (hm : ref_samePush p1 p2 = some r) : SpecF Try.prog 75 [.c (.tree 4 (p1.map TPush.enc)), .c (.tree 4 (p2.map TPush.enc))] (.c (.bool r)) := by
 refine Spec_ofD 26 [.tmp 4] Try.func75 rfl rfl rfl (by kernel_rfl) (by simp) ?_
 refine W_eqf ?_
 unfold ref_samePush at hm
 refine W_rg [4] ?_
 refine W_seq_k fun k1 hk1 => ?_
 refine W_rg [6, 7, 8, 9] ?_
 by_cases h1 : ¬ (p1.length : Int) = (p2.length : Int)
 ·rw [if_pos h1] at hm
  refine W_condt rfl (bne_iff_ne.2 h1) ?_
  refine W_rg [0, 1, 10] ?_
  refine W_ret ?_
  refine KThen_r ?_
  refine KBody_ret [] ?_
  obtain rfl := Option.some.inj hm
  exact en
 ·rw [if_neg h1] at hm
  refine W_condf rfl (bne_eq_false_iff_eq.2 (Decidable.not_not.1 h1)) ?_
  refine W_skip ?_
  refine KThen_n (hk1 _ _ ?_)
  refine W_joinM (S := Unit) (V := Unit) [0, 1, 4, 5, 10, 11, 12, 13, 14, 15, 16, 17, 18, 19, 20, 21, 22, 23, 24, 25] (fun _ _ => []) (fun _ _ => []) (fun _ => ref_samePush_j1 = some r) ?_ ?_
  ·skip
   refine W_rg [10] ?_
   refine W_block ?_
   obtain ⟨o1, hl1, hm1⟩ := bd hm
   refine W_loopM (S := Int) (V := Unit) (O := Unit ⊕ Bool) [4, 5, 11, 12, 13, 14, 15, 16, 17, 18, 19, 20, 21, 22, 23, 24, 25] (fun x3 _ => [(5, .c (.int .i64 x3))]) (fun x3 _ => []) _ _ () hl1 ?_ ?_
   ·exact ls
   ·rintro x3 _ r1 hm hr1
    replace hm : ref_samePush_l1 p1 p2 x3 = some r1 := hm
    refine W_eqm ?_
    unfold ref_samePush_l1 at hm
    refine W_seq_k fun k2 hk2 => ?_
    refine W_rg [11, 12, 13] ?_
    by_cases h2 : x3 < (p1.length : Int)
    ·rw [if_pos h2] at hm
     refine W_condt rfl (decide_eq_true h2) ?_
     refine W_skip ?_
     refine KThen_n (hk2 _ _ ?_)
     refine W_seq_k fun k3 hk3 => ?_
     refine W_block ?_
     obtain ⟨⟨hg3a, hg3b⟩, hm⟩ := gd hm
     refine W_agx (a2 (em TPush.enc p1 x3.toNat) (em TPush.enc p2 x3.toNat)) [14, 17, 18, 19, 20, 21, 22, 23, 24] [0, 0, 3, 7, 0, 0, 48, 112, 255] [false, false, false, false, false, false, false, false, true] ?_
     by_cases h4 : ((p1.getD x3.toNat default).op) = ((p2.getD x3.toNat default).op) ∧ ((p1.getD x3.toNat default).k) = ((p2.getD x3.toNat default).k) ∧ ((p1.getD x3.toNat default).v) = ((p2.getD x3.toNat default).v) ∧ ((p1.getD x3.toNat default).n) = ((p2.getD x3.toNat default).n)
     ·rw [if_pos h4] at hm
      refine W_condf rfl (by rw [show ((((p1.getD x3.toNat default).op) == ((p2.getD x3.toNat default).op)) && ((((p1.getD x3.toNat default).k) == ((p2.getD x3.toNat default).k)) && ((((p1.getD x3.toNat default).v) == ((p2.getD x3.toNat default).v)) && (((p1.getD x3.toNat default).n) == ((p2.getD x3.toNat default).n))))) = true from (by simpa [Bool.and_eq_true] using h4)]; rfl) ?_
      refine W_skip ?_
      refine KBlock_n ?_
      refine KThen_n (hk3 _ _ ?_)
      refine W_rn ?_
      refine KLoopM_n (IntKind.wrap .i64 (x3 + 1)) () hm ?_
      exact ls
     ·rw [if_neg h4] at hm
      refine W_condt rfl (by rw [show ((((p1.getD x3.toNat default).op) == ((p2.getD x3.toNat default).op)) && ((((p1.getD x3.toNat default).k) == ((p2.getD x3.toNat default).k)) && ((((p1.getD x3.toNat default).v) == ((p2.getD x3.toNat default).v)) && (((p1.getD x3.toNat default).n) == ((p2.getD x3.toNat default).n))))) = false from (Bool.eq_false_iff.2 (fun hh => h4 (by simpa [Bool.and_eq_true] using hh)))]; rfl) ?_
      refine W_rg [0, 1, 5, 25] ?_
      have ho5 := out_eq hm hr1
      subst ho5
      replace hm : some false = some r := hm1
      refine W_ret ?_
      refine KBlock_r ?_
      refine KThen_r ?_
      refine KLoopM_r ?_
      refine KBlock_r ?_
      refine KJoinM_r ?_
      refine KBody_ret [] ?_
      obtain rfl := Option.some.inj hm
      exact en
    ·rw [if_neg h2] at hm
     refine W_condf rfl (decide_eq_false h2) ?_
     refine W_exit ?_
     have ho6 := out_eq hm hr1
     subst ho6
     replace hm : ref_samePush_j1 = some r := hm1
     refine KThen_x ?_
     refine KLoopM_x ?_
     refine KBlock_hit ?_
     refine KJoinM_n () () hm ?_
     exact ls
  ·rintro _ _ hm
   replace hm : ref_samePush_j1 = some r := hm
   refine W_eqm ?_
   unfold ref_samePush_j1 at hm
   refine W_rg [] ?_
   refine W_ret ?_
   refine KBody_ret [] ?_
   obtain rfl := Option.some.inj hm
   exact en
end Pam

/- the walk of ref_SameLoops, printed by a program of ours -/
namespace Pam
open Go Go.Proofs
set_option maxRecDepth 100000 in
set_option maxHeartbeats 8000000 in
theorem ref_SameLoops_ok (p1 : TLoops) (p2 : TLoops) (r : Bool) (hm : ref_SameLoops p1 p2 = some r) : SpecF Try.prog 21 [.a [.int .i64 p1.cells, .tree 1 (p1.put.map (eK .i64)), .tree 1 (p1.get.map (eK .i64)), .tree 6 (p1.steps.map TLoop.enc)], .a [.int .i64 p2.cells, .tree 1 (p2.put.map (eK .i64)), .tree 1 (p2.get.map (eK .i64)), .tree 6 (p2.steps.map TLoop.enc)]] (.c (.bool r)) := by
 refine Spec_ofD 97 [.tmp 4] Try.func21 rfl rfl rfl (by kernel_rfl) (by simp) ?_
 refine W_eqf ?_
 unfold ref_SameLoops at hm
 refine W_rg [0, 1, 4] ?_
 refine W_seq_k fun k1 hk1 => ?_
 refine W_regG [8, 9, 10, 11, 12, 13, 14, 15, 16, 17, 18, 19, 20, 21, 22, 23, 24, 25, 26, 27, 28, 29, 30, 31, 32, 33, 34, 35, 36] fun k kp hk hp => ?_
 refine RunRest_cut 6 ?_
 refine go ?_
 by_cases h1 : ¬ p1.cells = p2.cells
 ·rw [if_pos h1] at hm
  have h1b : (p1.cells != p2.cells) = true := bne_iff_ne.2 h1
  refine RunRest_ops ?_
  refine gox h1b ?_
  refine hk _ _ ?_
  clear hk hp k kp
  refine W_condt rfl rfl ?_
  refine W_rg [2, 3, 37] ?_
  refine W_ret ?_
  refine KThen_r ?_
  refine KBody_ret [] ?_
  obtain rfl := Option.some.inj hm
  exact en
 ·rw [if_neg h1] at hm
  have h1b : (p1.cells != p2.cells) = false := bne_eq_false_iff_eq.2 (Decidable.not_not.1 h1)
  refine RunRest_ops ?_
  refine gox h1b ?_
  obtain ⟨y1, hc2, hm⟩ := bd hm
  refine RP (fun _ => ref_SameInts_ok p1.put p2.put _ hc2) ?_
  by_cases h3 : y1 = true
  ·rw [if_pos h3] at hm
   have h3b : y1 = true := h3
   have h3c : (!y1) = false := by rw [h3b]; rfl
   refine RunRest_ops ?_
   refine gox (a2 h1b (a2 h3b h3c)) ?_
   obtain ⟨y2, hc4, hm⟩ := bd hm
   refine RP (fun _ => ref_SameInts_ok p1.get p2.get _ hc4) ?_
   by_cases h5 : y2 = true
   ·rw [if_pos h5] at hm
    have h5b : y2 = true := h5
    have h5c : (!y2) = false := by rw [h5b]; rfl
    refine RunRest_ops ?_
    refine gox (a2 h1b (a2 h3b (a2 h3c (a2 h5b h5c)))) ?_
    refine hk _ _ ?_
    clear hk hp k kp
    by_cases h6 : ¬ (p1.steps.length : Int) = (p2.steps.length : Int)
    ·rw [if_pos h6] at hm
     refine W_condt rfl (bne_iff_ne.2 h6) ?_
     refine W_rg [2, 3, 37] ?_
     refine W_ret ?_
     refine KThen_r ?_
     refine KBody_ret [] ?_
     obtain rfl := Option.some.inj hm
     exact en
    ·rw [if_neg h6] at hm
     refine W_condf rfl (bne_eq_false_iff_eq.2 (Decidable.not_not.1 h6)) ?_
     refine W_skip ?_
     refine KThen_n (hk1 _ _ ?_)
     refine W_joinM (S := Unit) (V := Unit) [2, 3, 4, 5, 6, 7, 37, 38, 39, 40, 41, 42, 43, 44, 45, 46, 47, 48, 49, 50, 51, 52, 53, 54, 55, 56, 57, 58, 59, 60, 61, 62, 63, 64, 65, 66, 67, 68, 69, 70, 71, 72, 73, 74, 75, 76, 77, 78, 79, 80, 81, 82, 83, 84, 85, 86, 87, 88, 89, 90, 91, 92, 93, 94, 95, 96] (fun _ _ => []) (fun _ _ => [.box [.int .i64 p1.cells, .tree 1 (p1.put.map (eK .i64)), .tree 1 (p1.get.map (eK .i64)), .tree 6 (p1.steps.map TLoop.enc)], .box [.int .i64 p2.cells, .tree 1 (p2.put.map (eK .i64)), .tree 1 (p2.get.map (eK .i64)), .tree 6 (p2.steps.map TLoop.enc)]]) (fun _ => ref_SameLoops_j1 = some r) ?_ ?_
     ·skip
      refine W_rg [37] ?_
      refine W_block ?_
      obtain ⟨o1, hl1, hm1⟩ := bd hm
      refine W_loopM (S := Int) (V := Unit) (O := Unit ⊕ Bool) [4, 5, 6, 7, 38, 39, 40, 41, 42, 43, 44, 45, 46, 47, 48, 49, 50, 51, 52, 53, 54, 55, 56, 57, 58, 59, 60, 61, 62, 63, 64, 65, 66, 67, 68, 69, 70, 71, 72, 73, 74, 75, 76, 77, 78, 79, 80, 81, 82, 83, 84, 85, 86, 87, 88, 89, 90, 91, 92, 93, 94, 95, 96] (fun x5 _ => [(5, .c (.int .i64 x5))]) (fun x5 _ => [.box [.int .i64 p1.cells, .tree 1 (p1.put.map (eK .i64)), .tree 1 (p1.get.map (eK .i64)), .tree 6 (p1.steps.map TLoop.enc)], .box [.int .i64 p2.cells, .tree 1 (p2.put.map (eK .i64)), .tree 1 (p2.get.map (eK .i64)), .tree 6 (p2.steps.map TLoop.enc)]]) _ _ () hl1 ?_ ?_
      ·exact ls
      ·rintro x5 _ r1 hm hr1
       replace hm : ref_SameLoops_l1 p1 p2 x5 = some r1 := hm
       refine W_eqm ?_
       unfold ref_SameLoops_l1 at hm
       refine W_seq_k fun k2 hk2 => ?_
       refine W_rg [38, 39, 40, 41] ?_
       by_cases h7 : x5 < (p1.steps.length : Int)
       ·rw [if_pos h7] at hm
        refine W_condt rfl (decide_eq_true h7) ?_
        refine W_skip ?_
        refine KThen_n (hk2 _ _ ?_)
        refine W_seq_k fun k3 hk3 => ?_
        refine W_block ?_
        obtain ⟨⟨hg8a, hg8b⟩, hm⟩ := gd hm
        refine W_lateS [42, 45, 46, 47, 48, 49, 50, 51, 52, 53, 54] [6, 7] [0, 1, 0, 7, 15, 0, 32, 0, 224, 480, 0, 0, 3103, 8191] [false, false, false, false, false, false, false, false, false, false, false, false, false, true] (by kernel_rfl) (by kernel_rfl) fun k kp hk => ?_
        simp only [wirt, tail2, fills, wOne, hush, hushS, inL, List.cons_append, List.nil_append, reduceIte, ↓reduceIte, Nat.reduceEqDiff, reduceCtorEq]
        refine gax (a2 (em TLoop.enc p1.steps x5.toNat) (em TLoop.enc p2.steps x5.toNat)) ?_
        refine go ?_
        refine hk _ _ ?_
        clear hk k kp
        refine W_regG [6, 7, 55, 56, 57, 58, 59, 60, 61, 62, 63, 64, 65, 66, 67, 68, 69, 70, 71, 72, 73, 74, 75, 76, 77, 78, 79, 80, 81, 82, 83, 84, 85, 86, 87, 88, 89, 90, 91, 92, 93, 94, 95] fun k kp hk hp => ?_
        refine RunRest_cut 6 ?_
        refine go ?_
        by_cases h9 : ¬ ((p1.steps.getD x5.toNat default).op) = ((p2.steps.getD x5.toNat default).op)
        ·rw [if_pos h9] at hm
         have h9b : (((p1.steps.getD x5.toNat default).op) != ((p2.steps.getD x5.toNat default).op)) = true := bne_iff_ne.2 h9
         refine RunRest_ops ?_
         refine gox h9b ?_
         refine hk _ _ ?_
         clear hk hp k kp
         refine W_condt rfl rfl ?_
         refine W_rg [2, 3, 5, 96] ?_
         have ho10 := out_eq hm hr1
         subst ho10
         replace hm : some false = some r := hm1
         refine W_ret ?_
         refine KBlock_r ?_
         refine KThen_r ?_
         refine KLoopM_r ?_
         refine KBlock_r ?_
         refine KJoinM_r ?_
         refine KBody_ret [] ?_
         obtain rfl := Option.some.inj hm
         exact en
        ·rw [if_neg h9] at hm
         have h9b : (((p1.steps.getD x5.toNat default).op) != ((p2.steps.getD x5.toNat default).op)) = false := bne_eq_false_iff_eq.2 (Decidable.not_not.1 h9)
         refine RunRest_cut 7 ?_
         refine gox h9b ?_
         by_cases h11 : ¬ ((p1.steps.getD x5.toNat default).k) = ((p2.steps.getD x5.toNat default).k)
         ·rw [if_pos h11] at hm
          have h11b : (((p1.steps.getD x5.toNat default).k) != ((p2.steps.getD x5.toNat default).k)) = true := bne_iff_ne.2 h11
          refine RunRest_ops ?_
          refine gox (a2 h9b h11b) ?_
          refine hk _ _ ?_
          clear hk hp k kp
          refine W_condt rfl rfl ?_
          refine W_rg [2, 3, 5, 96] ?_
          have ho12 := out_eq hm hr1
          subst ho12
          replace hm : some false = some r := hm1
          refine W_ret ?_
          refine KBlock_r ?_
          refine KThen_r ?_
          refine KLoopM_r ?_
          refine KBlock_r ?_
          refine KJoinM_r ?_
          refine KBody_ret [] ?_
          obtain rfl := Option.some.inj hm
          exact en
         ·rw [if_neg h11] at hm
          have h11b : (((p1.steps.getD x5.toNat default).k) != ((p2.steps.getD x5.toNat default).k)) = false := bne_eq_false_iff_eq.2 (Decidable.not_not.1 h11)
          refine RunRest_cut 7 ?_
          refine gox (a2 h9b h11b) ?_
          by_cases h13 : ¬ ((p1.steps.getD x5.toNat default).n) = ((p2.steps.getD x5.toNat default).n)
          ·rw [if_pos h13] at hm
           have h13b : (((p1.steps.getD x5.toNat default).n) != ((p2.steps.getD x5.toNat default).n)) = true := bne_iff_ne.2 h13
           refine RunRest_ops ?_
           refine gox (a2 h9b (a2 h11b h13b)) ?_
           refine hk _ _ ?_
           clear hk hp k kp
           refine W_condt rfl rfl ?_
           refine W_rg [2, 3, 5, 96] ?_
           have ho14 := out_eq hm hr1
           subst ho14
           replace hm : some false = some r := hm1
           refine W_ret ?_
           refine KBlock_r ?_
           refine KThen_r ?_
           refine KLoopM_r ?_
           refine KBlock_r ?_
           refine KJoinM_r ?_
           refine KBody_ret [] ?_
           obtain rfl := Option.some.inj hm
           exact en
          ·rw [if_neg h13] at hm
           have h13b : (((p1.steps.getD x5.toNat default).n) != ((p2.steps.getD x5.toNat default).n)) = false := bne_eq_false_iff_eq.2 (Decidable.not_not.1 h13)
           refine RunRest_cut 7 ?_
           refine gox (a2 h9b (a2 h11b h13b)) ?_
           by_cases h15 : ¬ ((p1.steps.getD x5.toNat default).to) = ((p2.steps.getD x5.toNat default).to)
           ·rw [if_pos h15] at hm
            have h15b : (((p1.steps.getD x5.toNat default).to) != ((p2.steps.getD x5.toNat default).to)) = true := bne_iff_ne.2 h15
            refine RunRest_ops ?_
            refine gox (a2 h9b (a2 h11b (a2 h13b h15b))) ?_
            refine hk _ _ ?_
            clear hk hp k kp
            refine W_condt rfl rfl ?_
            refine W_rg [2, 3, 5, 96] ?_
            have ho16 := out_eq hm hr1
            subst ho16
            replace hm : some false = some r := hm1
            refine W_ret ?_
            refine KBlock_r ?_
            refine KThen_r ?_
            refine KLoopM_r ?_
            refine KBlock_r ?_
            refine KJoinM_r ?_
            refine KBody_ret [] ?_
            obtain rfl := Option.some.inj hm
            exact en
           ·rw [if_neg h15] at hm
            have h15b : (((p1.steps.getD x5.toNat default).to) != ((p2.steps.getD x5.toNat default).to)) = false := bne_eq_false_iff_eq.2 (Decidable.not_not.1 h15)
            refine RunRest_ops ?_
            refine gox (a2 h9b (a2 h11b (a2 h13b h15b))) ?_
            obtain ⟨y6, hc17, hm⟩ := bd hm
            refine RP (fun _ => ref_samePush_ok ((p1.steps.getD x5.toNat default).e) ((p2.steps.getD x5.toNat default).e) _ hc17) ?_
            by_cases h18 : y6 = true
            ·rw [if_pos h18] at hm
             have h18b : y6 = true := h18
             have h18c : (!y6) = false := by rw [h18b]; rfl
             refine RunRest_ops ?_
             refine gox (a2 h9b (a2 h11b (a2 h13b (a2 h15b (a2 h18b h18c))))) ?_
             obtain ⟨y7, hc19, hm⟩ := bd hm
             refine RP (fun _ => ref_samePush_ok ((p1.steps.getD x5.toNat default).f) ((p2.steps.getD x5.toNat default).f) _ hc19) ?_
             refine RunRest_ops ?_
             refine gox (a2 h9b (a2 h11b (a2 h13b (a2 h15b (a2 h18b h18c))))) ?_
             refine hk _ _ ?_
             clear hk hp k kp
             by_cases h20 : y7 = true
             ·rw [if_pos h20] at hm
              refine W_condf rfl (by rw [show y7 = true from (h20)]; rfl) ?_
              refine W_skip ?_
              refine KBlock_n ?_
              refine KThen_n (hk3 _ _ ?_)
              refine W_rn ?_
              refine KLoopM_n (IntKind.wrap .i64 (x5 + 1)) () hm ?_
              first | (simp only [bS, bX, reduceIte, ↓reduceIte, reduceCtorEq, Int.reduceToNat, Nat.reduceDiv, Nat.reduceMod, Nat.reduceLT, Nat.reduceLeDiff, Nat.reduceAdd, Nat.reduceSub, Nat.reduceMul, Nat.reduceEqDiff, Nat.reduceBEq, Nat.reduceBNe, Nat.reduceGT] <;> first | done | (and_intros <;> first | rfl | (simp; done) | omega | (simp [lit, bX, eK, eB, eS, eL]; done) | (simp only [len_lit, List.length_cons, List.length_nil, List.length_append, List.length_set, List.length_replicate, List.length_map, List.length_take, List.length_drop]; omega))) | (simp only [bS, bX, reduceIte, ↓reduceIte, reduceCtorEq, Int.reduceToNat, Nat.reduceDiv, Nat.reduceMod, Nat.reduceLT, Nat.reduceLeDiff, Nat.reduceAdd, Nat.reduceSub, Nat.reduceMul, Nat.reduceEqDiff, Nat.reduceBEq, Nat.reduceBNe, Nat.reduceGT, *] <;> first | done | (and_intros <;> first | rfl | (simp; done) | omega | (simp [lit, bX, eK, eB, eS, eL]; done) | (simp only [len_lit, List.length_cons, List.length_nil, List.length_append, List.length_set, List.length_replicate, List.length_map, List.length_take, List.length_drop]; omega)))
             ·rw [if_neg h20] at hm
              refine W_condt rfl (by rw [show y7 = false from (Bool.eq_false_iff.2 h20)]; rfl) ?_
              refine W_rg [2, 3, 5, 96] ?_
              have ho21 := out_eq hm hr1
              subst ho21
              replace hm : some false = some r := hm1
              refine W_ret ?_
              refine KBlock_r ?_
              refine KThen_r ?_
              refine KLoopM_r ?_
              refine KBlock_r ?_
              refine KJoinM_r ?_
              refine KBody_ret [] ?_
              obtain rfl := Option.some.inj hm
              exact en
            ·rw [if_neg h18] at hm
             have h18b : y6 = false := Bool.eq_false_iff.2 h18
             have h18c : (!y6) = true := by rw [h18b]; rfl
             refine RunRest_ops ?_
             refine gox (a2 h9b (a2 h11b (a2 h13b (a2 h15b (a2 h18b h18c))))) ?_
             refine hk _ _ ?_
             clear hk hp k kp
             refine W_condt rfl rfl ?_
             refine W_rg [2, 3, 5, 96] ?_
             have ho22 := out_eq hm hr1
             subst ho22
             replace hm : some false = some r := hm1
             refine W_ret ?_
             refine KBlock_r ?_
             refine KThen_r ?_
             refine KLoopM_r ?_
             refine KBlock_r ?_
             refine KJoinM_r ?_
             refine KBody_ret [] ?_
             obtain rfl := Option.some.inj hm
             exact en
       ·rw [if_neg h7] at hm
        refine W_condf rfl (decide_eq_false h7) ?_
        refine W_exit ?_
        have ho23 := out_eq hm hr1
        subst ho23
        replace hm : ref_SameLoops_j1 = some r := hm1
        refine KThen_x ?_
        refine KLoopM_x ?_
        refine KBlock_hit ?_
        refine KJoinM_n () () hm ?_
        exact ls
     ·rintro _ _ hm
      replace hm : ref_SameLoops_j1 = some r := hm
      refine W_eqm ?_
      unfold ref_SameLoops_j1 at hm
      refine W_rg [] ?_
      refine W_ret ?_
      refine KBody_ret [] ?_
      obtain rfl := Option.some.inj hm
      exact en
   ·rw [if_neg h5] at hm
    have h5b : y2 = false := Bool.eq_false_iff.2 h5
    have h5c : (!y2) = true := by rw [h5b]; rfl
    refine RunRest_ops ?_
    refine gox (a2 h1b (a2 h3b (a2 h3c (a2 h5b h5c)))) ?_
    refine hk _ _ ?_
    clear hk hp k kp
    refine W_condt rfl rfl ?_
    refine W_rg [2, 3, 37] ?_
    refine W_ret ?_
    refine KThen_r ?_
    refine KBody_ret [] ?_
    obtain rfl := Option.some.inj hm
    exact en
  ·rw [if_neg h3] at hm
   have h3b : y1 = false := Bool.eq_false_iff.2 h3
   have h3c : (!y1) = true := by rw [h3b]; rfl
   refine RunRest_ops ?_
   refine gox (a2 h1b (a2 h3b h3c)) ?_
   refine hk _ _ ?_
   clear hk hp k kp
   refine W_condt rfl rfl ?_
   refine W_rg [2, 3, 37] ?_
   refine W_ret ?_
   refine KThen_r ?_
   refine KBody_ret [] ?_
   obtain rfl := Option.some.inj hm
   exact en
end Pam

/- the walk of law_EmitMakes, printed by a program of ours -/
namespace Pam
open Go Go.Proofs
set_option maxRecDepth 100000 in
set_option maxHeartbeats 1000000 in
theorem law_EmitMakes_ok (p1 : TLoops) (p2 : List Int) (r : Bool) (hm : law_EmitMakes p1 p2 = some r) : SpecF Try.prog 3 [.a [.int .i64 p1.cells, .tree 1 (p1.put.map (eK .i64)), .tree 1 (p1.get.map (eK .i64)), .tree 6 (p1.steps.map TLoop.enc)], .c (.tree 1 (p2.map (eK .i64)))] (.c (.bool r)) := by
 refine Spec_ofD 54 [.tmp 4] Try.func3 rfl rfl rfl (by kernel_rfl) (by simp) ?_
 refine W_eqf ?_
 unfold law_EmitMakes at hm
 refine W_rg [0, 4] ?_
 refine W_seq_k fun k1 hk1 => ?_
 refine W_regF [11] fun k kp hk hp => ?_
 refine go ?_
 obtain ⟨y1, hc1, hm⟩ := bd hm
 refine RP (fun _ => law_emitBegun_ok  _ hc1) ?_
 refine RunRest_ops ?_
 refine go ?_
 refine hk _ _ ?_
 clear hk hp k kp
 by_cases h2 : y1 = true
 ·rw [if_pos h2] at hm
  refine W_condf rfl (by rw [show y1 = true from (h2)]; rfl) ?_
  refine W_skip ?_
  refine KThen_n (hk1 _ _ ?_)
  refine W_seq_k fun k2 hk2 => ?_
  refine W_regF [12, 13, 14, 15, 16, 17, 18] fun k kp hk hp => ?_
  refine go ?_
  obtain ⟨y2, hc3, hm⟩ := bd hm
  refine RP (fun _ => ref_GreatLoops_ok p1 _ hc3) ?_
  by_cases h4 : y2 = true
  ·rw [if_pos h4] at hm
   have h4b : y2 = true := h4
   refine RunRest_ops ?_
   refine gox h4b ?_
   refine hk _ _ ?_
   clear hk hp k kp
   refine W_condt rfl rfl ?_
   refine W_rg [1, 2, 19] ?_
   refine W_ret ?_
   refine KThen_r ?_
   refine KBody_ret [] ?_
   obtain rfl := Option.some.inj hm
   exact en
  ·rw [if_neg h4] at hm
   have h4b : y2 = false := Bool.eq_false_iff.2 h4
   refine RunRest_ops ?_
   refine gox h4b ?_
   refine hk _ _ ?_
   clear hk hp k kp
   by_cases h5 : (p2.length : Int) > 7000
   ·rw [if_pos h5] at hm
    refine W_condt rfl (decide_eq_true h5) ?_
    refine W_rg [1, 2, 19] ?_
    refine W_ret ?_
    refine KThen_r ?_
    refine KBody_ret [] ?_
    obtain rfl := Option.some.inj hm
    exact en
   ·rw [if_neg h5] at hm
    refine W_condf rfl (decide_eq_false h5) ?_
    refine W_skip ?_
    refine KThen_n (hk2 _ _ ?_)
    refine W_regF [19, 20, 21] fun k kp hk hp => ?_
    refine go ?_
    obtain ⟨y3, hc6, hm⟩ := bd hm
    refine RP (fun _ => ref_CopyLoops_ok p1 _ hc6) ?_
    refine RunRest_ops ?_
    refine go ?_
    refine hk _ _ ?_
    clear hk hp k kp
    obtain ⟨⟨hg7ax, hg7ay⟩, hm⟩ := gd hm
    refine W_rg [22, 23] ?_
    refine W_eqa [.box [.int .i64 p1.cells, .tree 1 (p1.put.map (eK .i64)), .tree 1 (p1.get.map (eK .i64)), .tree 6 (p1.steps.map TLoop.enc)], .box [.int .i64 ((y3).cells), .tree 1 (((y3).put).map (eK .i64)), .tree 1 (((y3).get).map (eK .i64)), .tree 6 (((y3).steps).map TLoop.enc)], .arr 1 0 3 (p2.map (eK .i64))] ?_
    refine W_regF [24, 25, 26, 27, 28, 29] fun k kp hk hp => ?_
    refine go ?_
    refine RunCall_turn (Ghost_fr 2 rfl) ?_
    simp only [bR, bT, tab, bX, reduceIte, ↓reduceIte, reduceCtorEq, Int.reduceToNat, Nat.reduceDiv, Nat.reduceMod, Nat.reduceLT, Nat.reduceLeDiff, Nat.reduceAdd, Nat.reduceSub, Nat.reduceMul, Nat.reduceEqDiff, Nat.reduceBEq, Nat.reduceBNe, Nat.reduceGT, bZ]
    repeat refine ⟨by first | omega | assumption | decide | exact all_len fun _ => rfl | (intro _; omega) | rfl | exact fun e => absurd (List.map_eq_nil_iff.1 e) (by assumption) | (and_intros <;> first | omega | assumption | decide | exact all_len fun _ => rfl), ?_⟩
    obtain ⟨y4, hc8, hm⟩ := bd hm
    refine RP (fun _ => emit_Make_2_ok (y3) p2 _ hc8) ?_
    refine RunRest_ops ?_
    refine go ?_
    refine hk _ _ ?_
    clear hk hp k kp
    refine W_regF [30, 31, 32, 33, 34, 35] fun k kp hk hp => ?_
    refine go ?_
    obtain ⟨y5, hc9, hm⟩ := bd hm
    refine RP (fun _ => ref_Emitted_ok p1 p2 _ hc9) ?_
    refine RunRest_ops ?_
    refine go ?_
    refine hk _ _ ?_
    clear hk hp k kp
    refine W_regG [1, 2, 5, 6, 7, 8, 9, 10, 36, 37, 38, 39, 40, 41, 42, 43, 44, 45, 46, 47, 48, 49, 50, 51, 52, 53] fun k kp hk hp => ?_
    refine RunRest_cut 4 ?_
    refine go ?_
    by_cases h10 : ((y4.2).code) = ((y5.2).code) ∧ ((y4.2).at_) = ((y5.2).at_)
    ·rw [if_pos h10] at hm
     have h10b : ((((y4.2).code) == ((y5.2).code)) && (((y4.2).at_) == ((y5.2).at_))) = true := by simpa [Bool.and_eq_true] using h10
     refine RunRest_ops ?_
     refine gox h10b ?_
     obtain ⟨y6, hc11, hm⟩ := bd hm
     refine RP (fun _ => ref_SameImage_ok (y4.1) (y5.1) _ hc11) ?_
     by_cases h12 : y6 = true
     ·rw [if_pos h12] at hm
      have h12b : y6 = true := h12
      refine RunRest_ops ?_
      refine gox (a2 h10b h12b) ?_
      obtain ⟨y7, hc13, hm⟩ := bd hm
      refine RP (fun _ => ref_SameLoops_ok (y3) p1 _ hc13) ?_
      by_cases h14 : y7 = true
      ·rw [if_pos h14] at hm
       have h14b : y7 = true := h14
       refine RunRest_ops ?_
       refine gox (a2 h10b (a2 h12b h14b)) ?_
       obtain ⟨y8, hc15, hm⟩ := bd hm
       refine RP (fun _ => ref_SameInts_ok p2 p2 _ hc15) ?_
       refine RunRest_ops ?_
       refine gox (a2 h10b (a2 h12b h14b)) ?_
       refine hk _ _ ?_
       clear hk hp k kp
       refine W_ret ?_
       refine KBody_ret [] ?_
       obtain rfl := Option.some.inj hm
       exact en
      ·rw [if_neg h14] at hm
       have h14b : y7 = false := Bool.eq_false_iff.2 h14
       refine RunRest_ops ?_
       refine gox (a2 h10b (a2 h12b h14b)) ?_
       refine hk _ _ ?_
       clear hk hp k kp
       refine W_ret ?_
       refine KBody_ret [] ?_
       obtain rfl := Option.some.inj hm
       exact en
     ·rw [if_neg h12] at hm
      have h12b : y6 = false := Bool.eq_false_iff.2 h12
      refine RunRest_ops ?_
      refine gox (a2 h10b h12b) ?_
      refine hk _ _ ?_
      clear hk hp k kp
      refine W_ret ?_
      refine KBody_ret [] ?_
      obtain rfl := Option.some.inj hm
      exact en
    ·rw [if_neg h10] at hm
     have h10b : ((((y4.2).code) == ((y5.2).code)) && (((y4.2).at_) == ((y5.2).at_))) = false := Bool.eq_false_iff.2 (fun hh => h10 (by simpa [Bool.and_eq_true] using hh))
     refine RunRest_ops ?_
     refine gox h10b ?_
     refine hk _ _ ?_
     clear hk hp k kp
     refine W_ret ?_
     refine KBody_ret [] ?_
     obtain rfl := Option.some.inj hm
     exact en
 ·rw [if_neg h2] at hm
  refine W_condt rfl (by rw [show y1 = false from (Bool.eq_false_iff.2 h2)]; rfl) ?_
  refine W_rg [1, 2, 12] ?_
  refine W_ret ?_
  refine KThen_r ?_
  refine KBody_ret [] ?_
  obtain rfl := Option.some.inj hm
  exact en
end Pam
