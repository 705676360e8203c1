/- the walk of ref_CostOf, printed by a program of ours -/
import Derived.Test.YtkdminbbajdjpaaCodeChecksFun1
set_option linter.all false
namespace Pam
open Go Go.Proofs
set_option maxRecDepth 100000 in
set_option maxHeartbeats 1000000 in
theorem ref_CostOf_ok (p1 : List TIns) (r : Int) (hm : ref_CostOf p1 = some r) : SpecF Try.prog 21 [.c (.tree 6 (p1.map TIns.enc))] (.c (.int .i64 r)) := by
  refine Spec_ofD 81 [.tmp 2] Try.func21 rfl rfl rfl (by kernel_rfl) (by simp) ?_
  refine W_eqE (by simp only [argSlots, Env.ofList, List.length_nil, List.length_cons, bE, Nat.reduceDiv, Nat.reduceMod, Nat.reduceLT, Nat.reduceLeDiff, Nat.reduceAdd, Nat.reduceSub, Nat.reduceMul, Nat.reduceEqDiff, Nat.reduceBEq, Nat.reduceBNe, Nat.reduceGT, Int.reduceToNat]; rfl) rfl ?_
  unfold ref_CostOf at hm
  refine W_regF [2] fun k kp hk hp => ?_
  simp only [bR, bT, tab, bX, reduceIte, ↓reduceIte, reduceCtorEq, Int.reduceToNat, Nat.reduceDiv, Nat.reduceMod, Nat.reduceLT, Nat.reduceLeDiff, Nat.reduceAdd, Nat.reduceSub, Nat.reduceMul, Nat.reduceEqDiff, Nat.reduceBEq, Nat.reduceBNe, Nat.reduceGT]
  repeat refine ⟨by first | omega | assumption | decide | exact all_len fun _ => rfl | (intro _; omega) | rfl | (and_intros <;> first | omega | assumption | decide | exact all_len fun _ => rfl), ?_⟩
  refine hk _ _ ?_
  clear hk hp k kp
  refine W_regF [] fun k kp hk hp => ?_
  simp only [bR, bT, tab, bX, reduceIte, ↓reduceIte, reduceCtorEq, Int.reduceToNat, Nat.reduceDiv, Nat.reduceMod, Nat.reduceLT, Nat.reduceLeDiff, Nat.reduceAdd, Nat.reduceSub, Nat.reduceMul, Nat.reduceEqDiff, Nat.reduceBEq, Nat.reduceBNe, Nat.reduceGT]
  repeat refine ⟨by first | omega | assumption | decide | exact all_len fun _ => rfl | (intro _; omega) | rfl | (and_intros <;> first | omega | assumption | decide | exact all_len fun _ => rfl), ?_⟩
  refine hk _ _ ?_
  clear hk hp k kp
  refine W_joinM (S := Int) (V := Unit) [0, 2, 3, 4, 5, 6, 7, 8, 9, 10, 11, 12, 13, 14, 15, 16, 17, 18, 19, 20, 21, 22, 23, 24, 25, 26, 27, 28, 29, 30, 31, 32, 33, 34, 35, 36, 37, 38, 39, 40, 41, 42, 43, 44, 45, 46, 47, 48, 49, 50, 51, 52, 53, 54, 55, 56, 57, 58, 59, 60, 61, 62, 63, 64, 65, 66, 67, 68, 69, 70, 71, 72, 73, 74, 75, 76, 77, 78, 79] (fun x1 _ => [(3, .c (.int .i64 x1))]) (fun x1 _ => []) (fun x1 => ref_CostOf_j1 x1 = some r) ?_ ?_
  · skip
    refine W_regF [] fun k kp hk hp => ?_
    simp only [bR, bT, tab, bX, reduceIte, ↓reduceIte, reduceCtorEq, Int.reduceToNat, Nat.reduceDiv, Nat.reduceMod, Nat.reduceLT, Nat.reduceLeDiff, Nat.reduceAdd, Nat.reduceSub, Nat.reduceMul, Nat.reduceEqDiff, Nat.reduceBEq, Nat.reduceBNe, Nat.reduceGT]
    repeat refine ⟨by first | omega | assumption | decide | exact all_len fun _ => rfl | (intro _; omega) | rfl | (and_intros <;> first | omega | assumption | decide | exact all_len fun _ => rfl), ?_⟩
    refine hk _ _ ?_
    clear hk hp k kp
    refine W_block ?_
    obtain ⟨o1, hl1, hm1⟩ := bd hm
    refine W_loopM (S := (Int × Int)) (V := Unit) (O := Int ⊕ Int) [2, 3, 4, 5, 6, 7, 8, 9, 10, 11, 12, 13, 14, 15, 16, 17, 18, 19, 20, 21, 22, 23, 24, 25, 26, 27, 28, 29, 30, 31, 32, 33, 34, 35, 36, 37, 38, 39, 40, 41, 42, 43, 44, 45, 46, 47, 48, 49, 50, 51, 52, 53, 54, 55, 56, 57, 58, 59, 60, 61, 62, 63, 64, 65, 66, 67, 68, 69, 70, 71, 72, 73, 74, 75, 76, 77, 78, 79] (fun (x6, x7) _ => [(3, .c (.int .i64 x6)), (4, .c (.int .i64 x7))]) (fun (x6, x7) _ => []) _ _ () hl1 ?_ ?_
    · simp only [bS, bX, reduceIte, ↓reduceIte, reduceCtorEq, Int.reduceToNat, Nat.reduceDiv, Nat.reduceMod, Nat.reduceLT, Nat.reduceLeDiff, Nat.reduceAdd, Nat.reduceSub, Nat.reduceMul, Nat.reduceEqDiff, Nat.reduceBEq, Nat.reduceBNe, Nat.reduceGT] <;> first | done | (and_intros <;> first | rfl | (simp; done) | omega | done)
    · rintro ⟨x6, x7⟩ _ r1 hm hr1
      replace hm : ref_CostOf_l1 p1 x6 x7 = some r1 := hm
      refine W_eqE (by simp only [bE, Nat.reduceDiv, Nat.reduceMod, Nat.reduceLT, Nat.reduceLeDiff, Nat.reduceAdd, Nat.reduceSub, Nat.reduceMul, Nat.reduceEqDiff, Nat.reduceBEq, Nat.reduceBNe, Nat.reduceGT, Int.reduceToNat]; rfl) (by first | (dsimp only; rfl) | rfl) ?_
      unfold ref_CostOf_l1 at hm
      refine W_seq_k fun k1 hk1 => ?_
      refine W_regF [6, 7, 8] fun k kp hk hp => ?_
      simp only [bR, bT, tab, bX, reduceIte, ↓reduceIte, reduceCtorEq, Int.reduceToNat, Nat.reduceDiv, Nat.reduceMod, Nat.reduceLT, Nat.reduceLeDiff, Nat.reduceAdd, Nat.reduceSub, Nat.reduceMul, Nat.reduceEqDiff, Nat.reduceBEq, Nat.reduceBNe, Nat.reduceGT]
      repeat refine ⟨by first | omega | assumption | decide | exact all_len fun _ => rfl | (intro _; omega) | rfl | (and_intros <;> first | omega | assumption | decide | exact all_len fun _ => rfl), ?_⟩
      refine hk _ _ ?_
      clear hk hp k kp
      by_cases h1 : x7 < (p1.length : Int)
      · rw [if_pos h1] at hm
        refine W_condt rfl (decide_eq_true h1) ?_
        refine W_skip ?_
        refine KThen_n (hk1 _ _ ?_)
        refine W_joinM (S := (Int × Int)) (V := Unit) [2, 3, 4, 5, 9, 12, 13, 14, 15, 16, 17, 18, 19, 20, 21, 22, 23, 24, 25, 26, 27, 28, 29, 30, 31, 32, 33, 34, 35, 36, 37, 38, 39, 40, 41, 42, 43, 44, 45, 46, 47, 48, 49, 50, 51, 52, 53, 54, 55, 56, 57, 58, 59, 60, 61, 62, 63, 64, 65, 66, 67, 68, 69, 70, 71, 72, 73, 74, 75, 76, 77, 78, 79] (fun (x8, x9) _ => [(3, .c (.int .i64 x8)), (4, .c (.int .i64 x9))]) (fun (x8, x9) _ => []) (fun (x8, x9) => ref_CostOf_j2 x8 x9 = some r1) ?_ ?_
        · skip
          refine W_block ?_
          refine W_regF [9, 12, 13] fun k kp hk hp => ?_
          simp only [bR, bT, tab, bX, reduceIte, ↓reduceIte, reduceCtorEq, Int.reduceToNat, Nat.reduceDiv, Nat.reduceMod, Nat.reduceLT, Nat.reduceLeDiff, Nat.reduceAdd, Nat.reduceSub, Nat.reduceMul, Nat.reduceEqDiff, Nat.reduceBEq, Nat.reduceBNe, Nat.reduceGT]
          repeat refine ⟨by first | omega | assumption | decide | exact all_len fun _ => rfl | (intro _; omega) | rfl | (and_intros <;> first | omega | assumption | decide | exact all_len fun _ => rfl), ?_⟩
          refine hk _ _ ?_
          clear hk hp k kp
          refine W_seq_k fun k2 hk2 => ?_
          obtain ⟨hg2a, hm⟩ := gd hm
          refine W_regF [14, 15, 16, 17, 18] fun k kp hk hp => ?_
          simp only [bR, bT, tab, bX, reduceIte, ↓reduceIte, reduceCtorEq, Int.reduceToNat, Nat.reduceDiv, Nat.reduceMod, Nat.reduceLT, Nat.reduceLeDiff, Nat.reduceAdd, Nat.reduceSub, Nat.reduceMul, Nat.reduceEqDiff, Nat.reduceBEq, Nat.reduceBNe, Nat.reduceGT, elt_map TIns.enc p1 x7.toNat (by first | omega | (simp only [len_lit, List.length_cons, List.length_nil, List.length_append, List.length_set, List.length_replicate, List.length_map, List.length_take, List.length_drop]; omega))]
          repeat refine ⟨by first | omega | assumption | decide | exact all_len fun _ => rfl | (intro _; omega) | rfl | (and_intros <;> first | omega | assumption | decide | exact all_len fun _ => rfl), ?_⟩
          refine hk _ _ ?_
          clear hk hp k kp
          by_cases h3 : ((p1.getD x7.toNat default).op) = 11
          · rw [if_pos h3] at hm
            refine W_condt rfl (beq_iff_eq.2 h3) ?_
            refine W_regF [0, 3, 4, 19] fun k kp hk hp => ?_
            simp only [bR, bT, tab, bX, reduceIte, ↓reduceIte, reduceCtorEq, Int.reduceToNat, Nat.reduceDiv, Nat.reduceMod, Nat.reduceLT, Nat.reduceLeDiff, Nat.reduceAdd, Nat.reduceSub, Nat.reduceMul, Nat.reduceEqDiff, Nat.reduceBEq, Nat.reduceBNe, Nat.reduceGT]
            repeat refine ⟨by first | omega | assumption | decide | exact all_len fun _ => rfl | (intro _; omega) | rfl | (and_intros <;> first | omega | assumption | decide | exact all_len fun _ => rfl), ?_⟩
            refine hk _ _ ?_
            clear hk hp k kp
            have ho4 := out_eq hm hr1
            subst ho4
            replace hm : some 0 = some r := hm1
            refine W_ret ?_
            refine KThen_r ?_
            refine KBlock_r ?_
            refine KJoinM_r ?_
            refine KLoopM_r ?_
            refine KBlock_r ?_
            refine KJoinM_r ?_
            refine KBody_ret [] ?_
            obtain rfl := Option.some.inj hm
            simp only [bF, bT, tab, bX, reduceIte, ↓reduceIte, reduceCtorEq, Int.reduceToNat, Nat.reduceDiv, Nat.reduceMod, Nat.reduceLT, Nat.reduceLeDiff, Nat.reduceAdd, Nat.reduceSub, Nat.reduceMul, Nat.reduceEqDiff, Nat.reduceBEq, Nat.reduceBNe, Nat.reduceGT] <;> first | done | rfl | (and_intros <;> first | rfl | omega | (simp; done))
          · rw [if_neg h3] at hm
            refine W_condf rfl (beq_eq_false_iff_ne.2 h3) ?_
            refine W_skip ?_
            refine KThen_n (hk2 _ _ ?_)
            refine W_seq_k fun k3 hk3 => ?_
            refine W_regF [19, 20, 21, 22, 23, 24] fun k kp hk hp => ?_
            simp only [bR, bT, tab, bX, reduceIte, ↓reduceIte, reduceCtorEq, Int.reduceToNat, Nat.reduceDiv, Nat.reduceMod, Nat.reduceLT, Nat.reduceLeDiff, Nat.reduceAdd, Nat.reduceSub, Nat.reduceMul, Nat.reduceEqDiff, Nat.reduceBEq, Nat.reduceBNe, Nat.reduceGT, elt_map TIns.enc p1 x7.toNat (by first | omega | (simp only [len_lit, List.length_cons, List.length_nil, List.length_append, List.length_set, List.length_replicate, List.length_map, List.length_take, List.length_drop]; omega))]
            repeat refine ⟨by first | omega | assumption | decide | exact all_len fun _ => rfl | (intro _; omega) | rfl | (and_intros <;> first | omega | assumption | decide | exact all_len fun _ => rfl), ?_⟩
            refine hk _ _ ?_
            clear hk hp k kp
            by_cases h5 : ¬ ((p1.getD x7.toNat default).op) = 10
            · rw [if_pos h5] at hm
              refine W_condt rfl (bne_iff_ne.2 h5) ?_
              refine W_exit ?_
              refine KThen_x ?_
              refine KBlock_hit ?_
              refine KJoinM_n ((IntKind.wrap .i64 (x6 + 1)), x7) () hm ?_
              simp only [bS, bX, reduceIte, ↓reduceIte, reduceCtorEq, Int.reduceToNat, Nat.reduceDiv, Nat.reduceMod, Nat.reduceLT, Nat.reduceLeDiff, Nat.reduceAdd, Nat.reduceSub, Nat.reduceMul, Nat.reduceEqDiff, Nat.reduceBEq, Nat.reduceBNe, Nat.reduceGT] <;> first | done | (and_intros <;> first | rfl | (simp; done) | omega | done)
            · rw [if_neg h5] at hm
              refine W_condf rfl (bne_eq_false_iff_eq.2 (Decidable.not_not.1 h5)) ?_
              refine W_skip ?_
              refine KThen_n (hk3 _ _ ?_)
              refine W_regF [25, 26, 27] fun k kp hk hp => ?_
              simp only [bR, bT, tab, bX, reduceIte, ↓reduceIte, reduceCtorEq, Int.reduceToNat, Nat.reduceDiv, Nat.reduceMod, Nat.reduceLT, Nat.reduceLeDiff, Nat.reduceAdd, Nat.reduceSub, Nat.reduceMul, Nat.reduceEqDiff, Nat.reduceBEq, Nat.reduceBNe, Nat.reduceGT]
              repeat refine ⟨by first | omega | assumption | decide | exact all_len fun _ => rfl | (intro _; omega) | rfl | (and_intros <;> first | omega | assumption | decide | exact all_len fun _ => rfl), ?_⟩
              refine hk _ _ ?_
              clear hk hp k kp
              refine W_joinM (S := Int) (V := Unit) [2, 5, 28, 29, 30, 31, 32, 33, 34, 35, 36, 37, 38, 39, 40, 41, 42, 43, 44, 45, 46, 47] (fun x10 _ => [(5, .c (.int .i64 x10))]) (fun x10 _ => []) (fun x10 => ref_CostOf_j3 p1 x6 x7 x10 = some r1) ?_ ?_
              · skip
                refine W_block ?_
                obtain ⟨o2, hl2, hm2⟩ := bd hm
                refine W_loopM (S := Int) (V := Unit) (O := Int ⊕ Int) [2, 5, 28, 29, 30, 31, 32, 33, 34, 35, 36, 37, 38, 39, 40, 41, 42, 43, 44, 45, 46, 47] (fun x13 _ => [(5, .c (.int .i64 x13))]) (fun x13 _ => []) _ _ () hl2 ?_ ?_
                · simp only [bS, bX, reduceIte, ↓reduceIte, reduceCtorEq, Int.reduceToNat, Nat.reduceDiv, Nat.reduceMod, Nat.reduceLT, Nat.reduceLeDiff, Nat.reduceAdd, Nat.reduceSub, Nat.reduceMul, Nat.reduceEqDiff, Nat.reduceBEq, Nat.reduceBNe, Nat.reduceGT] <;> first | done | (and_intros <;> first | rfl | (simp; done) | omega | done)
                · rintro x13 _ r2 hm hr2
                  replace hm : ref_CostOf_l2 p1 x13 = some r2 := hm
                  refine W_eqE (by simp only [bE, Nat.reduceDiv, Nat.reduceMod, Nat.reduceLT, Nat.reduceLeDiff, Nat.reduceAdd, Nat.reduceSub, Nat.reduceMul, Nat.reduceEqDiff, Nat.reduceBEq, Nat.reduceBNe, Nat.reduceGT, Int.reduceToNat]; rfl) (by first | (dsimp only; rfl) | rfl) ?_
                  unfold ref_CostOf_l2 at hm
                  refine W_seq_k fun k5 hk5 => ?_
                  by_cases h12 : x13 < (p1.length : Int)
                  · rw [if_pos h12] at hm
                    have h12b : decide (x13 < (p1.length : Int)) = true := decide_eq_true h12
                    obtain ⟨hg13a, hm⟩ := gd hm
                    refine W_regF [28, 29, 30, 31, 32, 33, 34, 35, 36, 37, 38] fun k kp hk hp => ?_
                    simp only [bR, bT, tab, bX, reduceIte, ↓reduceIte, reduceCtorEq, Int.reduceToNat, Nat.reduceDiv, Nat.reduceMod, Nat.reduceLT, Nat.reduceLeDiff, Nat.reduceAdd, Nat.reduceSub, Nat.reduceMul, Nat.reduceEqDiff, Nat.reduceBEq, Nat.reduceBNe, Nat.reduceGT, elt_map TIns.enc p1 x13.toNat (by first | omega | (simp only [len_lit, List.length_cons, List.length_nil, List.length_append, List.length_set, List.length_replicate, List.length_map, List.length_take, List.length_drop]; omega)), h12b]
                    repeat refine ⟨by first | omega | assumption | decide | exact all_len fun _ => rfl | (intro _; omega) | rfl | (and_intros <;> first | omega | assumption | decide | exact all_len fun _ => rfl), ?_⟩
                    refine hk _ _ ?_
                    clear hk hp k kp
                    by_cases h14 : ¬ ((p1.getD x13.toNat default).op) = 11
                    · rw [if_pos h14] at hm
                      refine W_condt rfl (bne_iff_ne.2 h14) ?_
                      refine W_skip ?_
                      refine KThen_n (hk5 _ _ ?_)
                      refine W_block ?_
                      refine W_seq_k fun k6 hk6 => ?_
                      refine W_regF [39, 40, 41, 42, 43, 44] fun k kp hk hp => ?_
                      simp only [bR, bT, tab, bX, reduceIte, ↓reduceIte, reduceCtorEq, Int.reduceToNat, Nat.reduceDiv, Nat.reduceMod, Nat.reduceLT, Nat.reduceLeDiff, Nat.reduceAdd, Nat.reduceSub, Nat.reduceMul, Nat.reduceEqDiff, Nat.reduceBEq, Nat.reduceBNe, Nat.reduceGT, elt_map TIns.enc p1 x13.toNat (by first | omega | (simp only [len_lit, List.length_cons, List.length_nil, List.length_append, List.length_set, List.length_replicate, List.length_map, List.length_take, List.length_drop]; omega))]
                      repeat refine ⟨by first | omega | assumption | decide | exact all_len fun _ => rfl | (intro _; omega) | rfl | (and_intros <;> first | omega | assumption | decide | exact all_len fun _ => rfl), ?_⟩
                      refine hk _ _ ?_
                      clear hk hp k kp
                      by_cases h15 : ((p1.getD x13.toNat default).op) = 10
                      · rw [if_pos h15] at hm
                        refine W_condt rfl (beq_iff_eq.2 h15) ?_
                        refine W_regF [0, 3, 4, 5, 45] fun k kp hk hp => ?_
                        simp only [bR, bT, tab, bX, reduceIte, ↓reduceIte, reduceCtorEq, Int.reduceToNat, Nat.reduceDiv, Nat.reduceMod, Nat.reduceLT, Nat.reduceLeDiff, Nat.reduceAdd, Nat.reduceSub, Nat.reduceMul, Nat.reduceEqDiff, Nat.reduceBEq, Nat.reduceBNe, Nat.reduceGT]
                        repeat refine ⟨by first | omega | assumption | decide | exact all_len fun _ => rfl | (intro _; omega) | rfl | (and_intros <;> first | omega | assumption | decide | exact all_len fun _ => rfl), ?_⟩
                        refine hk _ _ ?_
                        clear hk hp k kp
                        have ho16 := out_eq hm hr2
                        subst ho16
                        replace hm : some (.inr (.inr 0)) = some r1 := hm2
                        have ho17 := out_eq hm hr1
                        subst ho17
                        replace hm : some 0 = some r := hm1
                        refine W_ret ?_
                        refine KThen_r ?_
                        refine KBlock_r ?_
                        refine KLoopM_r ?_
                        refine KBlock_r ?_
                        refine KJoinM_r ?_
                        refine KBlock_r ?_
                        refine KJoinM_r ?_
                        refine KLoopM_r ?_
                        refine KBlock_r ?_
                        refine KJoinM_r ?_
                        refine KBody_ret [] ?_
                        obtain rfl := Option.some.inj hm
                        simp only [bF, bT, tab, bX, reduceIte, ↓reduceIte, reduceCtorEq, Int.reduceToNat, Nat.reduceDiv, Nat.reduceMod, Nat.reduceLT, Nat.reduceLeDiff, Nat.reduceAdd, Nat.reduceSub, Nat.reduceMul, Nat.reduceEqDiff, Nat.reduceBEq, Nat.reduceBNe, Nat.reduceGT] <;> first | done | rfl | (and_intros <;> first | rfl | omega | (simp; done))
                      · rw [if_neg h15] at hm
                        refine W_condf rfl (beq_eq_false_iff_ne.2 h15) ?_
                        refine W_skip ?_
                        refine KThen_n (hk6 _ _ ?_)
                        refine W_region fun k kp hk hp => ?_
                        simp only [bR, bT, tab, bX, reduceIte, ↓reduceIte, reduceCtorEq, Int.reduceToNat, Nat.reduceDiv, Nat.reduceMod, Nat.reduceLT, Nat.reduceLeDiff, Nat.reduceAdd, Nat.reduceSub, Nat.reduceMul, Nat.reduceEqDiff, Nat.reduceBEq, Nat.reduceBNe, Nat.reduceGT]
                        repeat refine ⟨by first | omega | assumption | decide | exact all_len fun _ => rfl | (intro _; omega) | rfl | (and_intros <;> first | omega | assumption | decide | exact all_len fun _ => rfl), ?_⟩
                        refine hk _ _ ?_
                        clear hk hp k kp
                        refine KBlock_n ?_
                        refine KLoopM_n (IntKind.wrap .i64 (x13 + 1)) () hm ?_
                        simp only [bS, bX, reduceIte, ↓reduceIte, reduceCtorEq, Int.reduceToNat, Nat.reduceDiv, Nat.reduceMod, Nat.reduceLT, Nat.reduceLeDiff, Nat.reduceAdd, Nat.reduceSub, Nat.reduceMul, Nat.reduceEqDiff, Nat.reduceBEq, Nat.reduceBNe, Nat.reduceGT] <;> first | done | (and_intros <;> first | rfl | (simp; done) | omega | done)
                    · rw [if_neg h14] at hm
                      refine W_condf rfl (bne_eq_false_iff_eq.2 (Decidable.not_not.1 h14)) ?_
                      refine W_exit ?_
                      have ho18 := out_eq hm hr2
                      subst ho18
                      replace hm : ref_CostOf_j3 p1 x6 x7 x13 = some r1 := hm2
                      refine KThen_x ?_
                      refine KLoopM_x ?_
                      refine KBlock_hit ?_
                      refine KJoinM_n x13 () hm ?_
                      simp only [bS, bX, reduceIte, ↓reduceIte, reduceCtorEq, Int.reduceToNat, Nat.reduceDiv, Nat.reduceMod, Nat.reduceLT, Nat.reduceLeDiff, Nat.reduceAdd, Nat.reduceSub, Nat.reduceMul, Nat.reduceEqDiff, Nat.reduceBEq, Nat.reduceBNe, Nat.reduceGT] <;> first | done | (and_intros <;> first | rfl | (simp; done) | omega | done)
                  · rw [if_neg h12] at hm
                    have h12b : decide (x13 < (p1.length : Int)) = false := decide_eq_false h12
                    refine W_regF [28, 29, 30, 31, 32, 33, 34, 35, 36, 37, 38] fun k kp hk hp => ?_
                    simp only [bR, bT, tab, bX, reduceIte, ↓reduceIte, reduceCtorEq, Int.reduceToNat, Nat.reduceDiv, Nat.reduceMod, Nat.reduceLT, Nat.reduceLeDiff, Nat.reduceAdd, Nat.reduceSub, Nat.reduceMul, Nat.reduceEqDiff, Nat.reduceBEq, Nat.reduceBNe, Nat.reduceGT, h12b]
                    repeat refine ⟨by first | omega | assumption | decide | exact all_len fun _ => rfl | (intro _; omega) | rfl | (and_intros <;> first | omega | assumption | decide | exact all_len fun _ => rfl), ?_⟩
                    refine hk _ _ ?_
                    clear hk hp k kp
                    refine W_condf rfl rfl ?_
                    refine W_exit ?_
                    have ho19 := out_eq hm hr2
                    subst ho19
                    replace hm : ref_CostOf_j3 p1 x6 x7 x13 = some r1 := hm2
                    refine KThen_x ?_
                    refine KLoopM_x ?_
                    refine KBlock_hit ?_
                    refine KJoinM_n x13 () hm ?_
                    simp only [bS, bX, reduceIte, ↓reduceIte, reduceCtorEq, Int.reduceToNat, Nat.reduceDiv, Nat.reduceMod, Nat.reduceLT, Nat.reduceLeDiff, Nat.reduceAdd, Nat.reduceSub, Nat.reduceMul, Nat.reduceEqDiff, Nat.reduceBEq, Nat.reduceBNe, Nat.reduceGT] <;> first | done | (and_intros <;> first | rfl | (simp; done) | omega | done)
              · rintro x10 _ hm
                replace hm : ref_CostOf_j3 p1 x6 x7 x10 = some r1 := hm
                refine W_eqE (by simp only [bE, Nat.reduceDiv, Nat.reduceMod, Nat.reduceLT, Nat.reduceLeDiff, Nat.reduceAdd, Nat.reduceSub, Nat.reduceMul, Nat.reduceEqDiff, Nat.reduceBEq, Nat.reduceBNe, Nat.reduceGT, Int.reduceToNat]; rfl) (by first | (dsimp only; rfl) | rfl) ?_
                unfold ref_CostOf_j3 at hm
                refine W_seq_k fun k4 hk4 => ?_
                by_cases h6 : x10 = (p1.length : Int)
                · rw [if_pos h6] at hm
                  have h6b : (x10 == (p1.length : Int)) = true := beq_iff_eq.2 h6
                  refine W_regF [48, 49, 50, 51, 52, 53, 54, 55, 56, 57, 58, 59, 60, 61, 62, 63, 64, 65, 66] fun k kp hk hp => ?_
                  simp only [bR, bT, tab, bX, reduceIte, ↓reduceIte, reduceCtorEq, Int.reduceToNat, Nat.reduceDiv, Nat.reduceMod, Nat.reduceLT, Nat.reduceLeDiff, Nat.reduceAdd, Nat.reduceSub, Nat.reduceMul, Nat.reduceEqDiff, Nat.reduceBEq, Nat.reduceBNe, Nat.reduceGT, h6b]
                  repeat refine ⟨by first | omega | assumption | decide | exact all_len fun _ => rfl | (intro _; omega) | rfl | (and_intros <;> first | omega | assumption | decide | exact all_len fun _ => rfl), ?_⟩
                  refine hk _ _ ?_
                  clear hk hp k kp
                  refine W_condt rfl rfl ?_
                  refine W_regF [0, 3, 4, 5, 67] fun k kp hk hp => ?_
                  simp only [bR, bT, tab, bX, reduceIte, ↓reduceIte, reduceCtorEq, Int.reduceToNat, Nat.reduceDiv, Nat.reduceMod, Nat.reduceLT, Nat.reduceLeDiff, Nat.reduceAdd, Nat.reduceSub, Nat.reduceMul, Nat.reduceEqDiff, Nat.reduceBEq, Nat.reduceBNe, Nat.reduceGT]
                  repeat refine ⟨by first | omega | assumption | decide | exact all_len fun _ => rfl | (intro _; omega) | rfl | (and_intros <;> first | omega | assumption | decide | exact all_len fun _ => rfl), ?_⟩
                  refine hk _ _ ?_
                  clear hk hp k kp
                  have ho7 := out_eq hm hr1
                  subst ho7
                  replace hm : some 0 = some r := hm1
                  refine W_ret ?_
                  refine KThen_r ?_
                  refine KBlock_r ?_
                  refine KJoinM_r ?_
                  refine KLoopM_r ?_
                  refine KBlock_r ?_
                  refine KJoinM_r ?_
                  refine KBody_ret [] ?_
                  obtain rfl := Option.some.inj hm
                  simp only [bF, bT, tab, bX, reduceIte, ↓reduceIte, reduceCtorEq, Int.reduceToNat, Nat.reduceDiv, Nat.reduceMod, Nat.reduceLT, Nat.reduceLeDiff, Nat.reduceAdd, Nat.reduceSub, Nat.reduceMul, Nat.reduceEqDiff, Nat.reduceBEq, Nat.reduceBNe, Nat.reduceGT] <;> first | done | rfl | (and_intros <;> first | rfl | omega | (simp; done))
                · rw [if_neg h6] at hm
                  have h6b : (x10 == (p1.length : Int)) = false := beq_eq_false_iff_ne.2 h6
                  by_cases h8 : ((p1.getD x7.toNat default).n) < 1
                  · rw [if_pos h8] at hm
                    have h8b : decide (((p1.getD x7.toNat default).n) < 1) = true := decide_eq_true h8
                    refine W_regF [48, 49, 50, 51, 52, 53, 54, 55, 56, 57, 58, 59, 60, 61, 62, 63, 64, 65, 66] fun k kp hk hp => ?_
                    simp only [bR, bT, tab, bX, reduceIte, ↓reduceIte, reduceCtorEq, Int.reduceToNat, Nat.reduceDiv, Nat.reduceMod, Nat.reduceLT, Nat.reduceLeDiff, Nat.reduceAdd, Nat.reduceSub, Nat.reduceMul, Nat.reduceEqDiff, Nat.reduceBEq, Nat.reduceBNe, Nat.reduceGT, elt_map TIns.enc p1 x7.toNat (by first | omega | (simp only [len_lit, List.length_cons, List.length_nil, List.length_append, List.length_set, List.length_replicate, List.length_map, List.length_take, List.length_drop]; omega)), h6b, h8b]
                    repeat refine ⟨by first | omega | assumption | decide | exact all_len fun _ => rfl | (intro _; omega) | rfl | (and_intros <;> first | omega | assumption | decide | exact all_len fun _ => rfl), ?_⟩
                    refine hk _ _ ?_
                    clear hk hp k kp
                    refine W_condt rfl rfl ?_
                    refine W_regF [0, 3, 4, 5, 67] fun k kp hk hp => ?_
                    simp only [bR, bT, tab, bX, reduceIte, ↓reduceIte, reduceCtorEq, Int.reduceToNat, Nat.reduceDiv, Nat.reduceMod, Nat.reduceLT, Nat.reduceLeDiff, Nat.reduceAdd, Nat.reduceSub, Nat.reduceMul, Nat.reduceEqDiff, Nat.reduceBEq, Nat.reduceBNe, Nat.reduceGT]
                    repeat refine ⟨by first | omega | assumption | decide | exact all_len fun _ => rfl | (intro _; omega) | rfl | (and_intros <;> first | omega | assumption | decide | exact all_len fun _ => rfl), ?_⟩
                    refine hk _ _ ?_
                    clear hk hp k kp
                    have ho9 := out_eq hm hr1
                    subst ho9
                    replace hm : some 0 = some r := hm1
                    refine W_ret ?_
                    refine KThen_r ?_
                    refine KBlock_r ?_
                    refine KJoinM_r ?_
                    refine KLoopM_r ?_
                    refine KBlock_r ?_
                    refine KJoinM_r ?_
                    refine KBody_ret [] ?_
                    obtain rfl := Option.some.inj hm
                    simp only [bF, bT, tab, bX, reduceIte, ↓reduceIte, reduceCtorEq, Int.reduceToNat, Nat.reduceDiv, Nat.reduceMod, Nat.reduceLT, Nat.reduceLeDiff, Nat.reduceAdd, Nat.reduceSub, Nat.reduceMul, Nat.reduceEqDiff, Nat.reduceBEq, Nat.reduceBNe, Nat.reduceGT] <;> first | done | rfl | (and_intros <;> first | rfl | omega | (simp; done))
                  · rw [if_neg h8] at hm
                    have h8b : decide (((p1.getD x7.toNat default).n) < 1) = false := decide_eq_false h8
                    refine W_regF [48, 49, 50, 51, 52, 53, 54, 55, 56, 57, 58, 59, 60, 61, 62, 63, 64, 65, 66] fun k kp hk hp => ?_
                    simp only [bR, bT, tab, bX, reduceIte, ↓reduceIte, reduceCtorEq, Int.reduceToNat, Nat.reduceDiv, Nat.reduceMod, Nat.reduceLT, Nat.reduceLeDiff, Nat.reduceAdd, Nat.reduceSub, Nat.reduceMul, Nat.reduceEqDiff, Nat.reduceBEq, Nat.reduceBNe, Nat.reduceGT, elt_map TIns.enc p1 x7.toNat (by first | omega | (simp only [len_lit, List.length_cons, List.length_nil, List.length_append, List.length_set, List.length_replicate, List.length_map, List.length_take, List.length_drop]; omega)), h6b, h8b]
                    repeat refine ⟨by first | omega | assumption | decide | exact all_len fun _ => rfl | (intro _; omega) | rfl | (and_intros <;> first | omega | assumption | decide | exact all_len fun _ => rfl), ?_⟩
                    refine hk _ _ ?_
                    clear hk hp k kp
                    by_cases h10 : ((p1.getD x7.toNat default).n) > 300
                    · rw [if_pos h10] at hm
                      refine W_condt rfl (decide_eq_true h10) ?_
                      refine W_regF [0, 3, 4, 5, 67] fun k kp hk hp => ?_
                      simp only [bR, bT, tab, bX, reduceIte, ↓reduceIte, reduceCtorEq, Int.reduceToNat, Nat.reduceDiv, Nat.reduceMod, Nat.reduceLT, Nat.reduceLeDiff, Nat.reduceAdd, Nat.reduceSub, Nat.reduceMul, Nat.reduceEqDiff, Nat.reduceBEq, Nat.reduceBNe, Nat.reduceGT]
                      repeat refine ⟨by first | omega | assumption | decide | exact all_len fun _ => rfl | (intro _; omega) | rfl | (and_intros <;> first | omega | assumption | decide | exact all_len fun _ => rfl), ?_⟩
                      refine hk _ _ ?_
                      clear hk hp k kp
                      have ho11 := out_eq hm hr1
                      subst ho11
                      replace hm : some 0 = some r := hm1
                      refine W_ret ?_
                      refine KThen_r ?_
                      refine KBlock_r ?_
                      refine KJoinM_r ?_
                      refine KLoopM_r ?_
                      refine KBlock_r ?_
                      refine KJoinM_r ?_
                      refine KBody_ret [] ?_
                      obtain rfl := Option.some.inj hm
                      simp only [bF, bT, tab, bX, reduceIte, ↓reduceIte, reduceCtorEq, Int.reduceToNat, Nat.reduceDiv, Nat.reduceMod, Nat.reduceLT, Nat.reduceLeDiff, Nat.reduceAdd, Nat.reduceSub, Nat.reduceMul, Nat.reduceEqDiff, Nat.reduceBEq, Nat.reduceBNe, Nat.reduceGT] <;> first | done | rfl | (and_intros <;> first | rfl | omega | (simp; done))
                    · rw [if_neg h10] at hm
                      refine W_condf rfl (decide_eq_false h10) ?_
                      refine W_skip ?_
                      refine KThen_n (hk4 _ _ ?_)
                      refine W_regF [4, 67, 68, 69, 70, 71, 72, 73, 74, 75, 76, 77, 78] fun k kp hk hp => ?_
                      simp only [bR, bT, tab, bX, reduceIte, ↓reduceIte, reduceCtorEq, Int.reduceToNat, Nat.reduceDiv, Nat.reduceMod, Nat.reduceLT, Nat.reduceLeDiff, Nat.reduceAdd, Nat.reduceSub, Nat.reduceMul, Nat.reduceEqDiff, Nat.reduceBEq, Nat.reduceBNe, Nat.reduceGT, elt_map TIns.enc p1 x7.toNat (by first | omega | (simp only [len_lit, List.length_cons, List.length_nil, List.length_append, List.length_set, List.length_replicate, List.length_map, List.length_take, List.length_drop]; omega))]
                      repeat refine ⟨by first | omega | assumption | decide | exact all_len fun _ => rfl | (intro _; omega) | rfl | (and_intros <;> first | omega | assumption | decide | exact all_len fun _ => rfl), ?_⟩
                      refine hk _ _ ?_
                      clear hk hp k kp
                      refine W_region fun k kp hk hp => ?_
                      simp only [bR, bT, tab, bX, reduceIte, ↓reduceIte, reduceCtorEq, Int.reduceToNat, Nat.reduceDiv, Nat.reduceMod, Nat.reduceLT, Nat.reduceLeDiff, Nat.reduceAdd, Nat.reduceSub, Nat.reduceMul, Nat.reduceEqDiff, Nat.reduceBEq, Nat.reduceBNe, Nat.reduceGT]
                      repeat refine ⟨by first | omega | assumption | decide | exact all_len fun _ => rfl | (intro _; omega) | rfl | (and_intros <;> first | omega | assumption | decide | exact all_len fun _ => rfl), ?_⟩
                      refine hk _ _ ?_
                      clear hk hp k kp
                      refine KBlock_n ?_
                      refine KJoinM_n ((IntKind.wrap .i64 ((IntKind.wrap .i64 (x6 + 1)) + (IntKind.wrap .i64 (((p1.getD x7.toNat default).n) * (IntKind.wrap .i64 (x10 - x7)))))), x10) () hm ?_
                      simp only [bS, bX, reduceIte, ↓reduceIte, reduceCtorEq, Int.reduceToNat, Nat.reduceDiv, Nat.reduceMod, Nat.reduceLT, Nat.reduceLeDiff, Nat.reduceAdd, Nat.reduceSub, Nat.reduceMul, Nat.reduceEqDiff, Nat.reduceBEq, Nat.reduceBNe, Nat.reduceGT] <;> first | done | (and_intros <;> first | rfl | (simp; done) | omega | done)
        · rintro ⟨x8, x9⟩ _ hm
          replace hm : ref_CostOf_j2 x8 x9 = some r1 := hm
          refine W_eqE (by simp only [bE, Nat.reduceDiv, Nat.reduceMod, Nat.reduceLT, Nat.reduceLeDiff, Nat.reduceAdd, Nat.reduceSub, Nat.reduceMul, Nat.reduceEqDiff, Nat.reduceBEq, Nat.reduceBNe, Nat.reduceGT, Int.reduceToNat]; rfl) (by first | (dsimp only; rfl) | rfl) ?_
          unfold ref_CostOf_j2 at hm
          refine W_region fun k kp hk hp => ?_
          simp only [bR, bT, tab, bX, reduceIte, ↓reduceIte, reduceCtorEq, Int.reduceToNat, Nat.reduceDiv, Nat.reduceMod, Nat.reduceLT, Nat.reduceLeDiff, Nat.reduceAdd, Nat.reduceSub, Nat.reduceMul, Nat.reduceEqDiff, Nat.reduceBEq, Nat.reduceBNe, Nat.reduceGT]
          repeat refine ⟨by first | omega | assumption | decide | exact all_len fun _ => rfl | (intro _; omega) | rfl | (and_intros <;> first | omega | assumption | decide | exact all_len fun _ => rfl), ?_⟩
          refine hk _ _ ?_
          clear hk hp k kp
          refine KLoopM_n (x8, (IntKind.wrap .i64 (x9 + 1))) () hm ?_
          simp only [bS, bX, reduceIte, ↓reduceIte, reduceCtorEq, Int.reduceToNat, Nat.reduceDiv, Nat.reduceMod, Nat.reduceLT, Nat.reduceLeDiff, Nat.reduceAdd, Nat.reduceSub, Nat.reduceMul, Nat.reduceEqDiff, Nat.reduceBEq, Nat.reduceBNe, Nat.reduceGT] <;> first | done | (and_intros <;> first | rfl | (simp; done) | omega | done)
      · rw [if_neg h1] at hm
        refine W_condf rfl (decide_eq_false h1) ?_
        refine W_exit ?_
        have ho20 := out_eq hm hr1
        subst ho20
        replace hm : ref_CostOf_j1 x6 = some r := hm1
        refine KThen_x ?_
        refine KLoopM_x ?_
        refine KBlock_hit ?_
        refine KJoinM_n x6 () hm ?_
        simp only [bS, bX, reduceIte, ↓reduceIte, reduceCtorEq, Int.reduceToNat, Nat.reduceDiv, Nat.reduceMod, Nat.reduceLT, Nat.reduceLeDiff, Nat.reduceAdd, Nat.reduceSub, Nat.reduceMul, Nat.reduceEqDiff, Nat.reduceBEq, Nat.reduceBNe, Nat.reduceGT] <;> first | done | (and_intros <;> first | rfl | (simp; done) | omega | done)
  · rintro x1 _ hm
    replace hm : ref_CostOf_j1 x1 = some r := hm
    refine W_eqE (by simp only [bE, Nat.reduceDiv, Nat.reduceMod, Nat.reduceLT, Nat.reduceLeDiff, Nat.reduceAdd, Nat.reduceSub, Nat.reduceMul, Nat.reduceEqDiff, Nat.reduceBEq, Nat.reduceBNe, Nat.reduceGT, Int.reduceToNat]; rfl) (by first | (dsimp only; rfl) | rfl) ?_
    unfold ref_CostOf_j1 at hm
    refine W_regF [3, 80] fun k kp hk hp => ?_
    simp only [bR, bT, tab, bX, reduceIte, ↓reduceIte, reduceCtorEq, Int.reduceToNat, Nat.reduceDiv, Nat.reduceMod, Nat.reduceLT, Nat.reduceLeDiff, Nat.reduceAdd, Nat.reduceSub, Nat.reduceMul, Nat.reduceEqDiff, Nat.reduceBEq, Nat.reduceBNe, Nat.reduceGT]
    repeat refine ⟨by first | omega | assumption | decide | exact all_len fun _ => rfl | (intro _; omega) | rfl | (and_intros <;> first | omega | assumption | decide | exact all_len fun _ => rfl), ?_⟩
    refine hk _ _ ?_
    clear hk hp k kp
    refine W_ret ?_
    refine KBody_ret [] ?_
    obtain rfl := Option.some.inj hm
    simp only [bF, bT, tab, bX, reduceIte, ↓reduceIte, reduceCtorEq, Int.reduceToNat, Nat.reduceDiv, Nat.reduceMod, Nat.reduceLT, Nat.reduceLeDiff, Nat.reduceAdd, Nat.reduceSub, Nat.reduceMul, Nat.reduceEqDiff, Nat.reduceBEq, Nat.reduceBNe, Nat.reduceGT] <;> first | done | rfl | (and_intros <;> first | rfl | omega | (simp; done))
end Pam

/- the walk of ref_F, printed by a program of ours -/
namespace Pam
open Go Go.Proofs
set_option maxRecDepth 100000 in
set_option maxHeartbeats 1000000 in
theorem ref_F_ok (p1 : Int) (p2 : Int) (r : TFault) (hm : ref_F p1 p2 = some r) : SpecF Try.prog 65 [.c (.int .i64 p1), .c (.int .i64 p2)] (.a [.int .i64 ((r).code), .int .i64 ((r).at_)]) := by
  refine Spec_ofD 8 [.cell 4 30] Try.func65 rfl rfl rfl (by kernel_rfl) (by simp) ?_
  refine W_eqE (by simp only [argSlots, Env.ofList, List.length_nil, List.length_cons, bE, Nat.reduceDiv, Nat.reduceMod, Nat.reduceLT, Nat.reduceLeDiff, Nat.reduceAdd, Nat.reduceSub, Nat.reduceMul, Nat.reduceEqDiff, Nat.reduceBEq, Nat.reduceBNe, Nat.reduceGT, Int.reduceToNat]; rfl) rfl ?_
  unfold ref_F at hm
  refine W_regF [] fun k kp hk hp => ?_
  simp only [bR, bT, tab, bX, reduceIte, ↓reduceIte, reduceCtorEq, Int.reduceToNat, Nat.reduceDiv, Nat.reduceMod, Nat.reduceLT, Nat.reduceLeDiff, Nat.reduceAdd, Nat.reduceSub, Nat.reduceMul, Nat.reduceEqDiff, Nat.reduceBEq, Nat.reduceBNe, Nat.reduceGT]
  repeat refine ⟨by first | omega | assumption | decide | exact all_len fun _ => rfl | (intro _; omega) | rfl | (and_intros <;> first | omega | assumption | decide | exact all_len fun _ => rfl), ?_⟩
  refine hk _ _ ?_
  clear hk hp k kp
  refine W_regF [0, 1, 5, 6, 7] fun k kp hk hp => ?_
  simp only [bR, bT, tab, bX, reduceIte, ↓reduceIte, reduceCtorEq, Int.reduceToNat, Nat.reduceDiv, Nat.reduceMod, Nat.reduceLT, Nat.reduceLeDiff, Nat.reduceAdd, Nat.reduceSub, Nat.reduceMul, Nat.reduceEqDiff, Nat.reduceBEq, Nat.reduceBNe, Nat.reduceGT, List.replicate, List.foldr]
  repeat refine ⟨by first | omega | assumption | decide | exact all_len fun _ => rfl | (intro _; omega) | rfl | (and_intros <;> first | omega | assumption | decide | exact all_len fun _ => rfl), ?_⟩
  refine hk _ _ ?_
  clear hk hp k kp
  refine W_ret ?_
  refine KBody_ret [] ?_
  obtain rfl := Option.some.inj hm
  simp only [bF, bT, tab, bX, reduceIte, ↓reduceIte, reduceCtorEq, Int.reduceToNat, Nat.reduceDiv, Nat.reduceMod, Nat.reduceLT, Nat.reduceLeDiff, Nat.reduceAdd, Nat.reduceSub, Nat.reduceMul, Nat.reduceEqDiff, Nat.reduceBEq, Nat.reduceBNe, Nat.reduceGT] <;> first | done | rfl | (and_intros <;> first | rfl | omega | (simp; done))
end Pam

/- the walk of ref_OpOf, printed by a program of ours -/
namespace Pam
open Go Go.Proofs
set_option maxRecDepth 100000 in
set_option maxHeartbeats 1000000 in
theorem ref_OpOf_ok (p1 : Int) (r : (Int × Int × Int)) (hm : ref_OpOf p1 = some r) : SpecF Try.prog 108 [.c (.int .i64 p1)] (.t [.c (.int .u8 r.1), .c (.int .u8 r.2.1), .c (.int .i64 r.2.2)]) := by
  refine Spec_ofD 23 [.tmp 2, .tmp 3, .tmp 4] Try.func108 rfl rfl rfl (by kernel_rfl) (by simp) ?_
  refine W_eqE (by simp only [argSlots, Env.ofList, List.length_nil, List.length_cons, bE, Nat.reduceDiv, Nat.reduceMod, Nat.reduceLT, Nat.reduceLeDiff, Nat.reduceAdd, Nat.reduceSub, Nat.reduceMul, Nat.reduceEqDiff, Nat.reduceBEq, Nat.reduceBNe, Nat.reduceGT, Int.reduceToNat]; rfl) rfl ?_
  unfold ref_OpOf at hm
  refine W_regF [2, 3, 4] fun k kp hk hp => ?_
  simp only [bR, bT, tab, bX, reduceIte, ↓reduceIte, reduceCtorEq, Int.reduceToNat, Nat.reduceDiv, Nat.reduceMod, Nat.reduceLT, Nat.reduceLeDiff, Nat.reduceAdd, Nat.reduceSub, Nat.reduceMul, Nat.reduceEqDiff, Nat.reduceBEq, Nat.reduceBNe, Nat.reduceGT]
  repeat refine ⟨by first | omega | assumption | decide | exact all_len fun _ => rfl | (intro _; omega) | rfl | (and_intros <;> first | omega | assumption | decide | exact all_len fun _ => rfl), ?_⟩
  refine hk _ _ ?_
  clear hk hp k kp
  refine W_regF [] fun k kp hk hp => ?_
  simp only [bR, bT, tab, bX, reduceIte, ↓reduceIte, reduceCtorEq, Int.reduceToNat, Nat.reduceDiv, Nat.reduceMod, Nat.reduceLT, Nat.reduceLeDiff, Nat.reduceAdd, Nat.reduceSub, Nat.reduceMul, Nat.reduceEqDiff, Nat.reduceBEq, Nat.reduceBNe, Nat.reduceGT]
  repeat refine ⟨by first | omega | assumption | decide | exact all_len fun _ => rfl | (intro _; omega) | rfl | (and_intros <;> first | omega | assumption | decide | exact all_len fun _ => rfl), ?_⟩
  refine hk _ _ ?_
  clear hk hp k kp
  refine W_regF [] fun k kp hk hp => ?_
  simp only [bR, bT, tab, bX, reduceIte, ↓reduceIte, reduceCtorEq, Int.reduceToNat, Nat.reduceDiv, Nat.reduceMod, Nat.reduceLT, Nat.reduceLeDiff, Nat.reduceAdd, Nat.reduceSub, Nat.reduceMul, Nat.reduceEqDiff, Nat.reduceBEq, Nat.reduceBNe, Nat.reduceGT]
  repeat refine ⟨by first | omega | assumption | decide | exact all_len fun _ => rfl | (intro _; omega) | rfl | (and_intros <;> first | omega | assumption | decide | exact all_len fun _ => rfl), ?_⟩
  refine hk _ _ ?_
  clear hk hp k kp
  refine W_seq_k fun k1 hk1 => ?_
  by_cases h1 : p1 < 1
  · rw [if_pos h1] at hm
    have h1b : decide (p1 < 1) = true := decide_eq_true h1
    refine W_regF [8, 9, 10, 11, 12] fun k kp hk hp => ?_
    simp only [bR, bT, tab, bX, reduceIte, ↓reduceIte, reduceCtorEq, Int.reduceToNat, Nat.reduceDiv, Nat.reduceMod, Nat.reduceLT, Nat.reduceLeDiff, Nat.reduceAdd, Nat.reduceSub, Nat.reduceMul, Nat.reduceEqDiff, Nat.reduceBEq, Nat.reduceBNe, Nat.reduceGT, h1b]
    repeat refine ⟨by first | omega | assumption | decide | exact all_len fun _ => rfl | (intro _; omega) | rfl | (and_intros <;> first | omega | assumption | decide | exact all_len fun _ => rfl), ?_⟩
    refine hk _ _ ?_
    clear hk hp k kp
    refine W_condt rfl rfl ?_
    refine W_regF [0, 5, 6, 13] fun k kp hk hp => ?_
    simp only [bR, bT, tab, bX, reduceIte, ↓reduceIte, reduceCtorEq, Int.reduceToNat, Nat.reduceDiv, Nat.reduceMod, Nat.reduceLT, Nat.reduceLeDiff, Nat.reduceAdd, Nat.reduceSub, Nat.reduceMul, Nat.reduceEqDiff, Nat.reduceBEq, Nat.reduceBNe, Nat.reduceGT]
    repeat refine ⟨by first | omega | assumption | decide | exact all_len fun _ => rfl | (intro _; omega) | rfl | (and_intros <;> first | omega | assumption | decide | exact all_len fun _ => rfl), ?_⟩
    refine hk _ _ ?_
    clear hk hp k kp
    refine W_ret ?_
    refine KThen_r ?_
    refine KBody_ret [] ?_
    obtain rfl := Option.some.inj hm
    simp only [bF, bT, tab, bX, reduceIte, ↓reduceIte, reduceCtorEq, Int.reduceToNat, Nat.reduceDiv, Nat.reduceMod, Nat.reduceLT, Nat.reduceLeDiff, Nat.reduceAdd, Nat.reduceSub, Nat.reduceMul, Nat.reduceEqDiff, Nat.reduceBEq, Nat.reduceBNe, Nat.reduceGT] <;> first | done | rfl | (and_intros <;> first | rfl | omega | (simp; done))
  · rw [if_neg h1] at hm
    have h1b : decide (p1 < 1) = false := decide_eq_false h1
    refine W_regF [8, 9, 10, 11, 12] fun k kp hk hp => ?_
    simp only [bR, bT, tab, bX, reduceIte, ↓reduceIte, reduceCtorEq, Int.reduceToNat, Nat.reduceDiv, Nat.reduceMod, Nat.reduceLT, Nat.reduceLeDiff, Nat.reduceAdd, Nat.reduceSub, Nat.reduceMul, Nat.reduceEqDiff, Nat.reduceBEq, Nat.reduceBNe, Nat.reduceGT, h1b]
    repeat refine ⟨by first | omega | assumption | decide | exact all_len fun _ => rfl | (intro _; omega) | rfl | (and_intros <;> first | omega | assumption | decide | exact all_len fun _ => rfl), ?_⟩
    refine hk _ _ ?_
    clear hk hp k kp
    by_cases h2 : p1 > 14
    · rw [if_pos h2] at hm
      refine W_condt rfl (decide_eq_true h2) ?_
      refine W_regF [0, 5, 6, 13] fun k kp hk hp => ?_
      simp only [bR, bT, tab, bX, reduceIte, ↓reduceIte, reduceCtorEq, Int.reduceToNat, Nat.reduceDiv, Nat.reduceMod, Nat.reduceLT, Nat.reduceLeDiff, Nat.reduceAdd, Nat.reduceSub, Nat.reduceMul, Nat.reduceEqDiff, Nat.reduceBEq, Nat.reduceBNe, Nat.reduceGT]
      repeat refine ⟨by first | omega | assumption | decide | exact all_len fun _ => rfl | (intro _; omega) | rfl | (and_intros <;> first | omega | assumption | decide | exact all_len fun _ => rfl), ?_⟩
      refine hk _ _ ?_
      clear hk hp k kp
      refine W_ret ?_
      refine KThen_r ?_
      refine KBody_ret [] ?_
      obtain rfl := Option.some.inj hm
      simp only [bF, bT, tab, bX, reduceIte, ↓reduceIte, reduceCtorEq, Int.reduceToNat, Nat.reduceDiv, Nat.reduceMod, Nat.reduceLT, Nat.reduceLeDiff, Nat.reduceAdd, Nat.reduceSub, Nat.reduceMul, Nat.reduceEqDiff, Nat.reduceBEq, Nat.reduceBNe, Nat.reduceGT] <;> first | done | rfl | (and_intros <;> first | rfl | omega | (simp; done))
    · rw [if_neg h2] at hm
      refine W_condf rfl (decide_eq_false h2) ?_
      refine W_skip ?_
      refine KThen_n (hk1 _ _ ?_)
      refine W_regF [13] fun k kp hk hp => ?_
      simp only [bR, bT, tab, bX, reduceIte, ↓reduceIte, reduceCtorEq, Int.reduceToNat, Nat.reduceDiv, Nat.reduceMod, Nat.reduceLT, Nat.reduceLeDiff, Nat.reduceAdd, Nat.reduceSub, Nat.reduceMul, Nat.reduceEqDiff, Nat.reduceBEq, Nat.reduceBNe, Nat.reduceGT]
      repeat refine ⟨by first | omega | assumption | decide | exact all_len fun _ => rfl | (intro _; omega) | rfl | (and_intros <;> first | omega | assumption | decide | exact all_len fun _ => rfl), ?_⟩
      refine hk _ _ ?_
      clear hk hp k kp
      refine W_joinM (S := Int) (V := Unit) [7, 14, 15] (fun x1 _ => [(7, .c (.int .i64 x1))]) (fun x1 _ => []) (fun x1 => ref_OpOf_j1 p1 x1 = some r) ?_ ?_
      · skip
        refine W_regF [14] fun k kp hk hp => ?_
        simp only [bR, bT, tab, bX, reduceIte, ↓reduceIte, reduceCtorEq, Int.reduceToNat, Nat.reduceDiv, Nat.reduceMod, Nat.reduceLT, Nat.reduceLeDiff, Nat.reduceAdd, Nat.reduceSub, Nat.reduceMul, Nat.reduceEqDiff, Nat.reduceBEq, Nat.reduceBNe, Nat.reduceGT]
        repeat refine ⟨by first | omega | assumption | decide | exact all_len fun _ => rfl | (intro _; omega) | rfl | (and_intros <;> first | omega | assumption | decide | exact all_len fun _ => rfl), ?_⟩
        refine hk _ _ ?_
        clear hk hp k kp
        by_cases h4 : p1 ≥ 13
        · rw [if_pos h4] at hm
          refine W_condt rfl (decide_eq_true h4) ?_
          refine W_region fun k kp hk hp => ?_
          simp only [bR, bT, tab, bX, reduceIte, ↓reduceIte, reduceCtorEq, Int.reduceToNat, Nat.reduceDiv, Nat.reduceMod, Nat.reduceLT, Nat.reduceLeDiff, Nat.reduceAdd, Nat.reduceSub, Nat.reduceMul, Nat.reduceEqDiff, Nat.reduceBEq, Nat.reduceBNe, Nat.reduceGT]
          repeat refine ⟨by first | omega | assumption | decide | exact all_len fun _ => rfl | (intro _; omega) | rfl | (and_intros <;> first | omega | assumption | decide | exact all_len fun _ => rfl), ?_⟩
          refine hk _ _ ?_
          clear hk hp k kp
          refine KJoinM_n 1 () hm ?_
          simp only [bS, bX, reduceIte, ↓reduceIte, reduceCtorEq, Int.reduceToNat, Nat.reduceDiv, Nat.reduceMod, Nat.reduceLT, Nat.reduceLeDiff, Nat.reduceAdd, Nat.reduceSub, Nat.reduceMul, Nat.reduceEqDiff, Nat.reduceBEq, Nat.reduceBNe, Nat.reduceGT] <;> first | done | (and_intros <;> first | rfl | (simp; done) | omega | done)
        · rw [if_neg h4] at hm
          refine W_condf rfl (decide_eq_false h4) ?_
          refine W_skip ?_
          refine KJoinM_n 2 () hm ?_
          simp only [bS, bX, reduceIte, ↓reduceIte, reduceCtorEq, Int.reduceToNat, Nat.reduceDiv, Nat.reduceMod, Nat.reduceLT, Nat.reduceLeDiff, Nat.reduceAdd, Nat.reduceSub, Nat.reduceMul, Nat.reduceEqDiff, Nat.reduceBEq, Nat.reduceBNe, Nat.reduceGT] <;> first | done | (and_intros <;> first | rfl | (simp; done) | omega | done)
      · rintro x1 _ hm
        replace hm : ref_OpOf_j1 p1 x1 = some r := hm
        refine W_eqE (by simp only [bE, Nat.reduceDiv, Nat.reduceMod, Nat.reduceLT, Nat.reduceLeDiff, Nat.reduceAdd, Nat.reduceSub, Nat.reduceMul, Nat.reduceEqDiff, Nat.reduceBEq, Nat.reduceBNe, Nat.reduceGT, Int.reduceToNat]; rfl) (by first | (dsimp only; rfl) | rfl) ?_
        unfold ref_OpOf_j1 at hm
        obtain ⟨⟨hg3a, hg3b⟩, hm⟩ := gd hm
        refine W_anyF [0, 5, 6, 7, 16, 17, 18, 19, 20, 21, 22] (by kernel_rfl) [0, 0, 3, 0, 0, 24, 0, 7, 191, 511] [false, false, false, false, false, false, false, false, false, true] (by kernel_rfl) fun k hk => ?_
        simp only [bA, bT, tab, bX, reduceIte, ↓reduceIte, reduceCtorEq, Int.reduceToNat, Nat.reduceDiv, Nat.reduceMod, Nat.reduceLT, Nat.reduceLeDiff, Nat.reduceAdd, Nat.reduceSub, Nat.reduceMul, Nat.reduceEqDiff, Nat.reduceBEq, Nat.reduceBNe, Nat.reduceGT]
        repeat refine ⟨by first | omega | assumption | decide | exact all_len fun _ => rfl | (intro _; omega) | rfl | (and_intros <;> first | omega | assumption | decide | exact all_len fun _ => rfl), ?_⟩
        refine hk _ _ ?_
        clear hk k
        refine W_ret ?_
        refine KBody_ret [] ?_
        obtain rfl := Option.some.inj hm
        simp only [bF, bT, tab, bX, reduceIte, ↓reduceIte, reduceCtorEq, Int.reduceToNat, Nat.reduceDiv, Nat.reduceMod, Nat.reduceLT, Nat.reduceLeDiff, Nat.reduceAdd, Nat.reduceSub, Nat.reduceMul, Nat.reduceEqDiff, Nat.reduceBEq, Nat.reduceBNe, Nat.reduceGT] <;> first | done | rfl | (and_intros <;> first | rfl | omega | (simp; done))
end Pam

/- the walk of ref_regsOK, printed by a program of ours -/
namespace Pam
open Go Go.Proofs
set_option maxRecDepth 100000 in
set_option maxHeartbeats 1000000 in
theorem ref_regsOK_ok (p1 : TImage) (p2 : List Int) (r : Bool) (hm : ref_regsOK p1 p2 = some r) : SpecF Try.prog 109 [.a [.int .i64 p1.cells, .int .i64 p1.regs, .int .i64 p1.cost, .tree 1 (p1.put.map (eK .i64)), .tree 1 (p1.bools.map (eK .i64)), .tree 1 (p1.get.map (eK .i64)), .tree 6 (p1.code.map TIns.enc)], .c (.tree 1 (p2.map (eK .i64)))] (.c (.bool r)) := by
  refine Spec_ofD 26 [.tmp 4] Try.func109 rfl rfl rfl (by kernel_rfl) (by simp) ?_
  refine W_eqE (by simp only [argSlots, Env.ofList, List.length_nil, List.length_cons, bE, Nat.reduceDiv, Nat.reduceMod, Nat.reduceLT, Nat.reduceLeDiff, Nat.reduceAdd, Nat.reduceSub, Nat.reduceMul, Nat.reduceEqDiff, Nat.reduceBEq, Nat.reduceBNe, Nat.reduceGT, Int.reduceToNat]; rfl) rfl ?_
  unfold ref_regsOK at hm
  refine W_regF [0, 4] fun k kp hk hp => ?_
  simp only [bR, bT, tab, bX, reduceIte, ↓reduceIte, reduceCtorEq, Int.reduceToNat, Nat.reduceDiv, Nat.reduceMod, Nat.reduceLT, Nat.reduceLeDiff, Nat.reduceAdd, Nat.reduceSub, Nat.reduceMul, Nat.reduceEqDiff, Nat.reduceBEq, Nat.reduceBNe, Nat.reduceGT]
  repeat refine ⟨by first | omega | assumption | decide | exact all_len fun _ => rfl | (intro _; omega) | rfl | (and_intros <;> first | omega | assumption | decide | exact all_len fun _ => rfl), ?_⟩
  refine hk _ _ ?_
  clear hk hp k kp
  refine W_joinM (S := Unit) (V := Unit) [1, 2, 4, 5, 6, 7, 8, 9, 10, 11, 12, 13, 14, 15, 16, 17, 18, 19, 20, 21, 22, 23, 24, 25] (fun _ _ => []) (fun _ _ => [.box [.int .i64 p1.cells, .int .i64 p1.regs, .int .i64 p1.cost, .tree 1 (p1.put.map (eK .i64)), .tree 1 (p1.bools.map (eK .i64)), .tree 1 (p1.get.map (eK .i64)), .tree 6 (p1.code.map TIns.enc)]]) (fun _ => ref_regsOK_j1 = some r) ?_ ?_
  · skip
    refine W_regF [] fun k kp hk hp => ?_
    simp only [bR, bT, tab, bX, reduceIte, ↓reduceIte, reduceCtorEq, Int.reduceToNat, Nat.reduceDiv, Nat.reduceMod, Nat.reduceLT, Nat.reduceLeDiff, Nat.reduceAdd, Nat.reduceSub, Nat.reduceMul, Nat.reduceEqDiff, Nat.reduceBEq, Nat.reduceBNe, Nat.reduceGT]
    repeat refine ⟨by first | omega | assumption | decide | exact all_len fun _ => rfl | (intro _; omega) | rfl | (and_intros <;> first | omega | assumption | decide | exact all_len fun _ => rfl), ?_⟩
    refine hk _ _ ?_
    clear hk hp k kp
    refine W_block ?_
    obtain ⟨o1, hl1, hm1⟩ := bd hm
    refine W_loopM (S := Int) (V := Unit) (O := Unit ⊕ Bool) [4, 5, 6, 7, 8, 9, 10, 11, 12, 13, 14, 15, 16, 17, 18, 19, 20, 21, 22, 23, 24, 25] (fun x3 _ => [(5, .c (.int .i64 x3))]) (fun x3 _ => [.box [.int .i64 p1.cells, .int .i64 p1.regs, .int .i64 p1.cost, .tree 1 (p1.put.map (eK .i64)), .tree 1 (p1.bools.map (eK .i64)), .tree 1 (p1.get.map (eK .i64)), .tree 6 (p1.code.map TIns.enc)]]) _ _ () hl1 ?_ ?_
    · simp only [bS, bX, reduceIte, ↓reduceIte, reduceCtorEq, Int.reduceToNat, Nat.reduceDiv, Nat.reduceMod, Nat.reduceLT, Nat.reduceLeDiff, Nat.reduceAdd, Nat.reduceSub, Nat.reduceMul, Nat.reduceEqDiff, Nat.reduceBEq, Nat.reduceBNe, Nat.reduceGT] <;> first | done | (and_intros <;> first | rfl | (simp; done) | omega | done)
    · rintro x3 _ r1 hm hr1
      replace hm : ref_regsOK_l1 p1 p2 x3 = some r1 := hm
      refine W_eqE (by simp only [bE, Nat.reduceDiv, Nat.reduceMod, Nat.reduceLT, Nat.reduceLeDiff, Nat.reduceAdd, Nat.reduceSub, Nat.reduceMul, Nat.reduceEqDiff, Nat.reduceBEq, Nat.reduceBNe, Nat.reduceGT, Int.reduceToNat]; rfl) (by first | (dsimp only; rfl) | rfl) ?_
      unfold ref_regsOK_l1 at hm
      refine W_seq_k fun k1 hk1 => ?_
      refine W_regF [6, 7, 8] fun k kp hk hp => ?_
      simp only [bR, bT, tab, bX, reduceIte, ↓reduceIte, reduceCtorEq, Int.reduceToNat, Nat.reduceDiv, Nat.reduceMod, Nat.reduceLT, Nat.reduceLeDiff, Nat.reduceAdd, Nat.reduceSub, Nat.reduceMul, Nat.reduceEqDiff, Nat.reduceBEq, Nat.reduceBNe, Nat.reduceGT]
      repeat refine ⟨by first | omega | assumption | decide | exact all_len fun _ => rfl | (intro _; omega) | rfl | (and_intros <;> first | omega | assumption | decide | exact all_len fun _ => rfl), ?_⟩
      refine hk _ _ ?_
      clear hk hp k kp
      by_cases h1 : x3 < (p2.length : Int)
      · rw [if_pos h1] at hm
        refine W_condt rfl (decide_eq_true h1) ?_
        refine W_skip ?_
        refine KThen_n (hk1 _ _ ?_)
        refine W_seq_k fun k2 hk2 => ?_
        refine W_block ?_
        by_cases h2 : (p2.getD x3.toNat default) < 0
        · rw [if_pos h2] at hm
          have h2b : decide ((p2.getD x3.toNat default) < 0) = true := decide_eq_true h2
          obtain ⟨hg3a, hm⟩ := gd hm
          refine W_anyF [9, 12, 13, 14, 15, 16, 17, 18, 19, 20, 21, 22, 23, 24] (by kernel_rfl) [0, 0, 3, 7, 15, 31, 63, 63, 255, 511, 63, 1087, 4095, 8191] [false, false, true, true, true, true, false, false, false, false, false, false, true, true] (by kernel_rfl) fun k hk => ?_
          simp only [bA, bT, tab, bX, reduceIte, ↓reduceIte, reduceCtorEq, Int.reduceToNat, Nat.reduceDiv, Nat.reduceMod, Nat.reduceLT, Nat.reduceLeDiff, Nat.reduceAdd, Nat.reduceSub, Nat.reduceMul, Nat.reduceEqDiff, Nat.reduceBEq, Nat.reduceBNe, Nat.reduceGT, elt_map (eK .i64) p2 x3.toNat (by first | omega | (simp only [len_lit, List.length_cons, List.length_nil, List.length_append, List.length_set, List.length_replicate, List.length_map, List.length_take, List.length_drop]; omega)), h2b]
          repeat refine ⟨by first | omega | assumption | decide | exact all_len fun _ => rfl | (intro _; omega) | rfl | (and_intros <;> first | omega | assumption | decide | exact all_len fun _ => rfl), ?_⟩
          refine hk _ _ ?_
          clear hk k
          refine W_condt rfl rfl ?_
          refine W_regF [1, 2, 5, 25] fun k kp hk hp => ?_
          simp only [bR, bT, tab, bX, reduceIte, ↓reduceIte, reduceCtorEq, Int.reduceToNat, Nat.reduceDiv, Nat.reduceMod, Nat.reduceLT, Nat.reduceLeDiff, Nat.reduceAdd, Nat.reduceSub, Nat.reduceMul, Nat.reduceEqDiff, Nat.reduceBEq, Nat.reduceBNe, Nat.reduceGT]
          repeat refine ⟨by first | omega | assumption | decide | exact all_len fun _ => rfl | (intro _; omega) | rfl | (and_intros <;> first | omega | assumption | decide | exact all_len fun _ => rfl), ?_⟩
          refine hk _ _ ?_
          clear hk hp k kp
          have ho4 := out_eq hm hr1
          subst ho4
          replace hm : some false = some r := hm1
          refine W_ret ?_
          refine KBlock_r ?_
          refine KThen_r ?_
          refine KLoopM_r ?_
          refine KBlock_r ?_
          refine KJoinM_r ?_
          refine KBody_ret [] ?_
          obtain rfl := Option.some.inj hm
          simp only [bF, bT, tab, bX, reduceIte, ↓reduceIte, reduceCtorEq, Int.reduceToNat, Nat.reduceDiv, Nat.reduceMod, Nat.reduceLT, Nat.reduceLeDiff, Nat.reduceAdd, Nat.reduceSub, Nat.reduceMul, Nat.reduceEqDiff, Nat.reduceBEq, Nat.reduceBNe, Nat.reduceGT] <;> first | done | rfl | (and_intros <;> first | rfl | omega | (simp; done))
        · rw [if_neg h2] at hm
          have h2b : decide ((p2.getD x3.toNat default) < 0) = false := decide_eq_false h2
          obtain ⟨hg5a, hm⟩ := gd hm
          refine W_anyF [9, 12, 13, 14, 15, 16, 17, 18, 19, 20, 21, 22, 23, 24] (by kernel_rfl) [0, 0, 3, 7, 15, 31, 63, 63, 255, 511, 63, 1087, 4095, 8191] [false, false, true, true, true, true, false, false, false, false, false, false, true, true] (by kernel_rfl) fun k hk => ?_
          simp only [bA, bT, tab, bX, reduceIte, ↓reduceIte, reduceCtorEq, Int.reduceToNat, Nat.reduceDiv, Nat.reduceMod, Nat.reduceLT, Nat.reduceLeDiff, Nat.reduceAdd, Nat.reduceSub, Nat.reduceMul, Nat.reduceEqDiff, Nat.reduceBEq, Nat.reduceBNe, Nat.reduceGT, elt_map (eK .i64) p2 x3.toNat (by first | omega | (simp only [len_lit, List.length_cons, List.length_nil, List.length_append, List.length_set, List.length_replicate, List.length_map, List.length_take, List.length_drop]; omega)), h2b]
          repeat refine ⟨by first | omega | assumption | decide | exact all_len fun _ => rfl | (intro _; omega) | rfl | (and_intros <;> first | omega | assumption | decide | exact all_len fun _ => rfl), ?_⟩
          refine hk _ _ ?_
          clear hk k
          by_cases h6 : (p2.getD x3.toNat default) ≥ p1.regs
          · rw [if_pos h6] at hm
            refine W_condt rfl (decide_eq_true h6) ?_
            refine W_regF [1, 2, 5, 25] fun k kp hk hp => ?_
            simp only [bR, bT, tab, bX, reduceIte, ↓reduceIte, reduceCtorEq, Int.reduceToNat, Nat.reduceDiv, Nat.reduceMod, Nat.reduceLT, Nat.reduceLeDiff, Nat.reduceAdd, Nat.reduceSub, Nat.reduceMul, Nat.reduceEqDiff, Nat.reduceBEq, Nat.reduceBNe, Nat.reduceGT]
            repeat refine ⟨by first | omega | assumption | decide | exact all_len fun _ => rfl | (intro _; omega) | rfl | (and_intros <;> first | omega | assumption | decide | exact all_len fun _ => rfl), ?_⟩
            refine hk _ _ ?_
            clear hk hp k kp
            have ho7 := out_eq hm hr1
            subst ho7
            replace hm : some false = some r := hm1
            refine W_ret ?_
            refine KBlock_r ?_
            refine KThen_r ?_
            refine KLoopM_r ?_
            refine KBlock_r ?_
            refine KJoinM_r ?_
            refine KBody_ret [] ?_
            obtain rfl := Option.some.inj hm
            simp only [bF, bT, tab, bX, reduceIte, ↓reduceIte, reduceCtorEq, Int.reduceToNat, Nat.reduceDiv, Nat.reduceMod, Nat.reduceLT, Nat.reduceLeDiff, Nat.reduceAdd, Nat.reduceSub, Nat.reduceMul, Nat.reduceEqDiff, Nat.reduceBEq, Nat.reduceBNe, Nat.reduceGT] <;> first | done | rfl | (and_intros <;> first | rfl | omega | (simp; done))
          · rw [if_neg h6] at hm
            refine W_condf rfl (decide_eq_false h6) ?_
            refine W_skip ?_
            refine KBlock_n ?_
            refine KThen_n (hk2 _ _ ?_)
            refine W_region fun k kp hk hp => ?_
            simp only [bR, bT, tab, bX, reduceIte, ↓reduceIte, reduceCtorEq, Int.reduceToNat, Nat.reduceDiv, Nat.reduceMod, Nat.reduceLT, Nat.reduceLeDiff, Nat.reduceAdd, Nat.reduceSub, Nat.reduceMul, Nat.reduceEqDiff, Nat.reduceBEq, Nat.reduceBNe, Nat.reduceGT]
            repeat refine ⟨by first | omega | assumption | decide | exact all_len fun _ => rfl | (intro _; omega) | rfl | (and_intros <;> first | omega | assumption | decide | exact all_len fun _ => rfl), ?_⟩
            refine hk _ _ ?_
            clear hk hp k kp
            refine KLoopM_n (IntKind.wrap .i64 (x3 + 1)) () hm ?_
            simp only [bS, bX, reduceIte, ↓reduceIte, reduceCtorEq, Int.reduceToNat, Nat.reduceDiv, Nat.reduceMod, Nat.reduceLT, Nat.reduceLeDiff, Nat.reduceAdd, Nat.reduceSub, Nat.reduceMul, Nat.reduceEqDiff, Nat.reduceBEq, Nat.reduceBNe, Nat.reduceGT] <;> first | done | (and_intros <;> first | rfl | (simp; done) | omega | done)
      · rw [if_neg h1] at hm
        refine W_condf rfl (decide_eq_false h1) ?_
        refine W_exit ?_
        have ho8 := out_eq hm hr1
        subst ho8
        replace hm : ref_regsOK_j1 = some r := hm1
        refine KThen_x ?_
        refine KLoopM_x ?_
        refine KBlock_hit ?_
        refine KJoinM_n () () hm ?_
        simp only [bS, bX, reduceIte, ↓reduceIte, reduceCtorEq, Int.reduceToNat, Nat.reduceDiv, Nat.reduceMod, Nat.reduceLT, Nat.reduceLeDiff, Nat.reduceAdd, Nat.reduceSub, Nat.reduceMul, Nat.reduceEqDiff, Nat.reduceBEq, Nat.reduceBNe, Nat.reduceGT] <;> first | done | (and_intros <;> first | rfl | (simp; done) | omega | done)
  · rintro _ _ hm
    replace hm : ref_regsOK_j1 = some r := hm
    refine W_eqE (by simp only [bE, Nat.reduceDiv, Nat.reduceMod, Nat.reduceLT, Nat.reduceLeDiff, Nat.reduceAdd, Nat.reduceSub, Nat.reduceMul, Nat.reduceEqDiff, Nat.reduceBEq, Nat.reduceBNe, Nat.reduceGT, Int.reduceToNat]; rfl) (by first | (dsimp only; rfl) | rfl) ?_
    unfold ref_regsOK_j1 at hm
    refine W_regF [] fun k kp hk hp => ?_
    simp only [bR, bT, tab, bX, reduceIte, ↓reduceIte, reduceCtorEq, Int.reduceToNat, Nat.reduceDiv, Nat.reduceMod, Nat.reduceLT, Nat.reduceLeDiff, Nat.reduceAdd, Nat.reduceSub, Nat.reduceMul, Nat.reduceEqDiff, Nat.reduceBEq, Nat.reduceBNe, Nat.reduceGT]
    repeat refine ⟨by first | omega | assumption | decide | exact all_len fun _ => rfl | (intro _; omega) | rfl | (and_intros <;> first | omega | assumption | decide | exact all_len fun _ => rfl), ?_⟩
    refine hk _ _ ?_
    clear hk hp k kp
    refine W_ret ?_
    refine KBody_ret [] ?_
    obtain rfl := Option.some.inj hm
    simp only [bF, bT, tab, bX, reduceIte, ↓reduceIte, reduceCtorEq, Int.reduceToNat, Nat.reduceDiv, Nat.reduceMod, Nat.reduceLT, Nat.reduceLeDiff, Nat.reduceAdd, Nat.reduceSub, Nat.reduceMul, Nat.reduceEqDiff, Nat.reduceBEq, Nat.reduceBNe, Nat.reduceGT] <;> first | done | rfl | (and_intros <;> first | rfl | omega | (simp; done))
end Pam

/- the walk of ref_insOK, printed by a program of ours -/
namespace Pam
open Go Go.Proofs
set_option maxRecDepth 100000 in
set_option maxHeartbeats 1000000 in
theorem ref_insOK_ok (p1 : TImage) (p2 : TIns) (r : Bool) (hm : ref_insOK p1 p2 = some r) : SpecF Try.prog 66 [.a [.int .i64 p1.cells, .int .i64 p1.regs, .int .i64 p1.cost, .tree 1 (p1.put.map (eK .i64)), .tree 1 (p1.bools.map (eK .i64)), .tree 1 (p1.get.map (eK .i64)), .tree 6 (p1.code.map TIns.enc)], .a [.int .i64 p2.op, .int .i64 p2.k, .int .i64 p2.r_, .int .i64 p2.a, .int .i64 p2.b, .int .i64 p2.n]] (.c (.bool r)) := by
  refine Spec_ofD 149 [.tmp 4] Try.func66 rfl rfl rfl (by kernel_rfl) (by simp) ?_
  refine W_eqE (by simp only [argSlots, Env.ofList, List.length_nil, List.length_cons, bE, Nat.reduceDiv, Nat.reduceMod, Nat.reduceLT, Nat.reduceLeDiff, Nat.reduceAdd, Nat.reduceSub, Nat.reduceMul, Nat.reduceEqDiff, Nat.reduceBEq, Nat.reduceBNe, Nat.reduceGT, Int.reduceToNat]; rfl) rfl ?_
  unfold ref_insOK at hm
  refine W_regF [0, 1, 4] fun k kp hk hp => ?_
  simp only [bR, bT, tab, bX, reduceIte, ↓reduceIte, reduceCtorEq, Int.reduceToNat, Nat.reduceDiv, Nat.reduceMod, Nat.reduceLT, Nat.reduceLeDiff, Nat.reduceAdd, Nat.reduceSub, Nat.reduceMul, Nat.reduceEqDiff, Nat.reduceBEq, Nat.reduceBNe, Nat.reduceGT]
  repeat refine ⟨by first | omega | assumption | decide | exact all_len fun _ => rfl | (intro _; omega) | rfl | (and_intros <;> first | omega | assumption | decide | exact all_len fun _ => rfl), ?_⟩
  refine hk _ _ ?_
  clear hk hp k kp
  refine W_regF [5, 6, 8, 9, 10, 11, 12, 13, 14] fun k kp hk hp => ?_
  simp only [bR, bT, tab, bX, reduceIte, ↓reduceIte, reduceCtorEq, Int.reduceToNat, Nat.reduceDiv, Nat.reduceMod, Nat.reduceLT, Nat.reduceLeDiff, Nat.reduceAdd, Nat.reduceSub, Nat.reduceMul, Nat.reduceEqDiff, Nat.reduceBEq, Nat.reduceBNe, Nat.reduceGT]
  repeat refine ⟨by first | omega | assumption | decide | exact all_len fun _ => rfl | (intro _; omega) | rfl | (and_intros <;> first | omega | assumption | decide | exact all_len fun _ => rfl), ?_⟩
  obtain ⟨y1, hc1, hm⟩ := bd hm
  refine RunCall_pure (fun _ => ref_OpOf_ok p2.k _ hc1) (by first | trivial | exact dst_ok rfl) (by first | trivial | (intro _; first | trivial | simp [need]) | simp [need]) rfl rfl ?_
  simp only [bR, bT, tab, bX, reduceIte, ↓reduceIte, reduceCtorEq, Int.reduceToNat, Nat.reduceDiv, Nat.reduceMod, Nat.reduceLT, Nat.reduceLeDiff, Nat.reduceAdd, Nat.reduceSub, Nat.reduceMul, Nat.reduceEqDiff, Nat.reduceBEq, Nat.reduceBNe, Nat.reduceGT]
  repeat refine ⟨by first | omega | assumption | decide | exact all_len fun _ => rfl | (intro _; omega) | rfl | (and_intros <;> first | omega | assumption | decide | exact all_len fun _ => rfl), ?_⟩
  refine hk _ _ ?_
  clear hk hp k kp
  refine W_seq_k fun k1 hk1 => ?_
  refine W_regF [15] fun k kp hk hp => ?_
  simp only [bR, bT, tab, bX, reduceIte, ↓reduceIte, reduceCtorEq, Int.reduceToNat, Nat.reduceDiv, Nat.reduceMod, Nat.reduceLT, Nat.reduceLeDiff, Nat.reduceAdd, Nat.reduceSub, Nat.reduceMul, Nat.reduceEqDiff, Nat.reduceBEq, Nat.reduceBNe, Nat.reduceGT]
  repeat refine ⟨by first | omega | assumption | decide | exact all_len fun _ => rfl | (intro _; omega) | rfl | (and_intros <;> first | omega | assumption | decide | exact all_len fun _ => rfl), ?_⟩
  refine hk _ _ ?_
  clear hk hp k kp
  refine W_block ?_
  refine W_regF [18] fun k kp hk hp => ?_
  simp only [bR, bT, tab, bX, reduceIte, ↓reduceIte, reduceCtorEq, Int.reduceToNat, Nat.reduceDiv, Nat.reduceMod, Nat.reduceLT, Nat.reduceLeDiff, Nat.reduceAdd, Nat.reduceSub, Nat.reduceMul, Nat.reduceEqDiff, Nat.reduceBEq, Nat.reduceBNe, Nat.reduceGT]
  repeat refine ⟨by first | omega | assumption | decide | exact all_len fun _ => rfl | (intro _; omega) | rfl | (and_intros <;> first | omega | assumption | decide | exact all_len fun _ => rfl), ?_⟩
  refine hk _ _ ?_
  clear hk hp k kp
  by_cases h2 : p2.op = 1
  · rw [if_pos h2] at hm
    refine W_condt rfl (beq_iff_eq.2 h2) ?_
    refine W_regF [2, 3, 7, 16, 17, 19, 20, 21, 22, 23] fun k kp hk hp => ?_
    simp only [bR, bT, tab, bX, reduceIte, ↓reduceIte, reduceCtorEq, Int.reduceToNat, Nat.reduceDiv, Nat.reduceMod, Nat.reduceLT, Nat.reduceLeDiff, Nat.reduceAdd, Nat.reduceSub, Nat.reduceMul, Nat.reduceEqDiff, Nat.reduceBEq, Nat.reduceBNe, Nat.reduceGT, List.replicate, List.foldr]
    repeat refine ⟨by first | omega | assumption | decide | exact all_len fun _ => rfl | (intro _; omega) | rfl | (and_intros <;> first | omega | assumption | decide | exact all_len fun _ => rfl), ?_⟩
    refine RunCall_turn (Ghost_fr 2 rfl) ?_
    simp only [bR, bT, tab, bX, reduceIte, ↓reduceIte, reduceCtorEq, Int.reduceToNat, Nat.reduceDiv, Nat.reduceMod, Nat.reduceLT, Nat.reduceLeDiff, Nat.reduceAdd, Nat.reduceSub, Nat.reduceMul, Nat.reduceEqDiff, Nat.reduceBEq, Nat.reduceBNe, Nat.reduceGT, bZ, List.replicate, List.foldr]
    repeat refine ⟨by first | omega | assumption | decide | exact all_len fun _ => rfl | (intro _; omega) | rfl | (and_intros <;> first | omega | assumption | decide | exact all_len fun _ => rfl), ?_⟩
    obtain ⟨y2, hc3, hm⟩ := bd hm
    refine RunCall_pure (fun _ => ref_regsOK_ok p1 (lit ([p2.r_] : List Int)) _ hc3) (by first | trivial | exact dst_ok rfl) (by first | trivial | (intro _; first | trivial | simp [need]) | simp [need]) rfl rfl ?_
    simp only [bR, bT, tab, bX, reduceIte, ↓reduceIte, reduceCtorEq, Int.reduceToNat, Nat.reduceDiv, Nat.reduceMod, Nat.reduceLT, Nat.reduceLeDiff, Nat.reduceAdd, Nat.reduceSub, Nat.reduceMul, Nat.reduceEqDiff, Nat.reduceBEq, Nat.reduceBNe, Nat.reduceGT]
    repeat refine ⟨by first | omega | assumption | decide | exact all_len fun _ => rfl | (intro _; omega) | rfl | (and_intros <;> first | omega | assumption | decide | exact all_len fun _ => rfl), ?_⟩
    refine hk _ _ ?_
    clear hk hp k kp
    refine W_ret ?_
    refine KBlock_r ?_
    refine KThen_r ?_
    refine KBody_ret [] ?_
    obtain rfl := Option.some.inj hm
    simp only [bF, bT, tab, bX, reduceIte, ↓reduceIte, reduceCtorEq, Int.reduceToNat, Nat.reduceDiv, Nat.reduceMod, Nat.reduceLT, Nat.reduceLeDiff, Nat.reduceAdd, Nat.reduceSub, Nat.reduceMul, Nat.reduceEqDiff, Nat.reduceBEq, Nat.reduceBNe, Nat.reduceGT] <;> first | done | rfl | (and_intros <;> first | rfl | omega | (simp; done))
  · rw [if_neg h2] at hm
    refine W_condf rfl (beq_eq_false_iff_ne.2 h2) ?_
    refine W_joinM (S := Bool) (V := Unit) [17, 24, 25, 26] (fun b3 _ => [(24, .c (.bool b3))]) (fun b3 _ => [.box [.int .i64 p1.cells, .int .i64 p1.regs, .int .i64 p1.cost, .tree 1 (p1.put.map (eK .i64)), .tree 1 (p1.bools.map (eK .i64)), .tree 1 (p1.get.map (eK .i64)), .tree 6 (p1.code.map TIns.enc)], .box [.int .i64 p2.op, .int .i64 p2.k, .int .i64 p2.r_, .int .i64 p2.a, .int .i64 p2.b, .int .i64 p2.n]]) (fun b3 => ref_insOK_j1 p1 p2 y1 b3 = some r) ?_ ?_
    · skip
      refine W_regF [17, 25] fun k kp hk hp => ?_
      simp only [bR, bT, tab, bX, reduceIte, ↓reduceIte, reduceCtorEq, Int.reduceToNat, Nat.reduceDiv, Nat.reduceMod, Nat.reduceLT, Nat.reduceLeDiff, Nat.reduceAdd, Nat.reduceSub, Nat.reduceMul, Nat.reduceEqDiff, Nat.reduceBEq, Nat.reduceBNe, Nat.reduceGT]
      repeat refine ⟨by first | omega | assumption | decide | exact all_len fun _ => rfl | (intro _; omega) | rfl | (and_intros <;> first | omega | assumption | decide | exact all_len fun _ => rfl), ?_⟩
      refine hk _ _ ?_
      clear hk hp k kp
      by_cases h29 : p2.op = 2
      · rw [if_pos h29] at hm
        refine W_condt rfl (beq_iff_eq.2 h29) ?_
        refine W_skip ?_
        refine KJoinM_n (p2.op == 2) () hm ?_
        simp only [bS, bX, reduceIte, ↓reduceIte, reduceCtorEq, Int.reduceToNat, Nat.reduceDiv, Nat.reduceMod, Nat.reduceLT, Nat.reduceLeDiff, Nat.reduceAdd, Nat.reduceSub, Nat.reduceMul, Nat.reduceEqDiff, Nat.reduceBEq, Nat.reduceBNe, Nat.reduceGT] <;> first | done | (and_intros <;> first | rfl | (simp; done) | omega | done)
      · rw [if_neg h29] at hm
        refine W_condf rfl (beq_eq_false_iff_ne.2 h29) ?_
        refine W_region fun k kp hk hp => ?_
        simp only [bR, bT, tab, bX, reduceIte, ↓reduceIte, reduceCtorEq, Int.reduceToNat, Nat.reduceDiv, Nat.reduceMod, Nat.reduceLT, Nat.reduceLeDiff, Nat.reduceAdd, Nat.reduceSub, Nat.reduceMul, Nat.reduceEqDiff, Nat.reduceBEq, Nat.reduceBNe, Nat.reduceGT]
        repeat refine ⟨by first | omega | assumption | decide | exact all_len fun _ => rfl | (intro _; omega) | rfl | (and_intros <;> first | omega | assumption | decide | exact all_len fun _ => rfl), ?_⟩
        refine hk _ _ ?_
        clear hk hp k kp
        refine KJoinM_n (p2.op == 4) () hm ?_
        simp only [bS, bX, reduceIte, ↓reduceIte, reduceCtorEq, Int.reduceToNat, Nat.reduceDiv, Nat.reduceMod, Nat.reduceLT, Nat.reduceLeDiff, Nat.reduceAdd, Nat.reduceSub, Nat.reduceMul, Nat.reduceEqDiff, Nat.reduceBEq, Nat.reduceBNe, Nat.reduceGT] <;> first | done | (and_intros <;> first | rfl | (simp; done) | omega | done)
    · rintro b3 _ hm
      replace hm : ref_insOK_j1 p1 p2 y1 b3 = some r := hm
      refine W_eqE (by simp only [bE, Nat.reduceDiv, Nat.reduceMod, Nat.reduceLT, Nat.reduceLeDiff, Nat.reduceAdd, Nat.reduceSub, Nat.reduceMul, Nat.reduceEqDiff, Nat.reduceBEq, Nat.reduceBNe, Nat.reduceGT, Int.reduceToNat]; rfl) (by first | (dsimp only; rfl) | rfl) ?_
      unfold ref_insOK_j1 at hm
      by_cases h4 : b3 = true
      · rw [if_pos h4] at hm
        refine W_condt rfl (h4) ?_
        refine W_regF [2, 3, 7, 16, 24, 27, 28, 29, 30, 31, 32, 33, 34, 35, 36, 37, 38, 39, 40, 41, 42, 43] fun k kp hk hp => ?_
        simp only [bR, bT, tab, bX, reduceIte, ↓reduceIte, reduceCtorEq, Int.reduceToNat, Nat.reduceDiv, Nat.reduceMod, Nat.reduceLT, Nat.reduceLeDiff, Nat.reduceAdd, Nat.reduceSub, Nat.reduceMul, Nat.reduceEqDiff, Nat.reduceBEq, Nat.reduceBNe, Nat.reduceGT, List.replicate, List.foldr]
        repeat refine ⟨by first | omega | assumption | decide | exact all_len fun _ => rfl | (intro _; omega) | rfl | (and_intros <;> first | omega | assumption | decide | exact all_len fun _ => rfl), ?_⟩
        refine RunCall_turn (Ghost_fr 2 rfl) ?_
        simp only [bR, bT, tab, bX, reduceIte, ↓reduceIte, reduceCtorEq, Int.reduceToNat, Nat.reduceDiv, Nat.reduceMod, Nat.reduceLT, Nat.reduceLeDiff, Nat.reduceAdd, Nat.reduceSub, Nat.reduceMul, Nat.reduceEqDiff, Nat.reduceBEq, Nat.reduceBNe, Nat.reduceGT, bZ, List.replicate, List.foldr]
        repeat refine ⟨by first | omega | assumption | decide | exact all_len fun _ => rfl | (intro _; omega) | rfl | (and_intros <;> first | omega | assumption | decide | exact all_len fun _ => rfl), ?_⟩
        obtain ⟨y4, hc5, hm⟩ := bd hm
        refine RunCall_pure (fun _ => ref_regsOK_ok p1 (lit ([p2.r_] : List Int)) _ hc5) (by first | trivial | exact dst_ok rfl) (by first | trivial | (intro _; first | trivial | simp [need]) | simp [need]) rfl rfl ?_
        by_cases h6 : y4 = true
        · rw [if_pos h6] at hm
          have h6b : y4 = true := h6
          by_cases h7 : p2.n ≥ 0
          · rw [if_pos h7] at hm
            have h7b : decide (p2.n ≥ 0) = true := decide_eq_true h7
            simp only [bR, bT, tab, bX, reduceIte, ↓reduceIte, reduceCtorEq, Int.reduceToNat, Nat.reduceDiv, Nat.reduceMod, Nat.reduceLT, Nat.reduceLeDiff, Nat.reduceAdd, Nat.reduceSub, Nat.reduceMul, Nat.reduceEqDiff, Nat.reduceBEq, Nat.reduceBNe, Nat.reduceGT, h6b, h7b]
            repeat refine ⟨by first | omega | assumption | decide | exact all_len fun _ => rfl | (intro _; omega) | rfl | (and_intros <;> first | omega | assumption | decide | exact all_len fun _ => rfl), ?_⟩
            refine hk _ _ ?_
            clear hk hp k kp
            refine W_ret ?_
            refine KBlock_r ?_
            refine KThen_r ?_
            refine KBody_ret [] ?_
            obtain rfl := Option.some.inj hm
            simp only [bF, bT, tab, bX, reduceIte, ↓reduceIte, reduceCtorEq, Int.reduceToNat, Nat.reduceDiv, Nat.reduceMod, Nat.reduceLT, Nat.reduceLeDiff, Nat.reduceAdd, Nat.reduceSub, Nat.reduceMul, Nat.reduceEqDiff, Nat.reduceBEq, Nat.reduceBNe, Nat.reduceGT] <;> first | done | rfl | (and_intros <;> first | rfl | omega | (simp; done))
          · rw [if_neg h7] at hm
            have h7b : decide (p2.n ≥ 0) = false := decide_eq_false h7
            simp only [bR, bT, tab, bX, reduceIte, ↓reduceIte, reduceCtorEq, Int.reduceToNat, Nat.reduceDiv, Nat.reduceMod, Nat.reduceLT, Nat.reduceLeDiff, Nat.reduceAdd, Nat.reduceSub, Nat.reduceMul, Nat.reduceEqDiff, Nat.reduceBEq, Nat.reduceBNe, Nat.reduceGT, h6b, h7b]
            repeat refine ⟨by first | omega | assumption | decide | exact all_len fun _ => rfl | (intro _; omega) | rfl | (and_intros <;> first | omega | assumption | decide | exact all_len fun _ => rfl), ?_⟩
            refine hk _ _ ?_
            clear hk hp k kp
            refine W_ret ?_
            refine KBlock_r ?_
            refine KThen_r ?_
            refine KBody_ret [] ?_
            obtain rfl := Option.some.inj hm
            simp only [bF, bT, tab, bX, reduceIte, ↓reduceIte, reduceCtorEq, Int.reduceToNat, Nat.reduceDiv, Nat.reduceMod, Nat.reduceLT, Nat.reduceLeDiff, Nat.reduceAdd, Nat.reduceSub, Nat.reduceMul, Nat.reduceEqDiff, Nat.reduceBEq, Nat.reduceBNe, Nat.reduceGT] <;> first | done | rfl | (and_intros <;> first | rfl | omega | (simp; done))
        · rw [if_neg h6] at hm
          have h6b : y4 = false := Bool.eq_false_iff.2 h6
          simp only [bR, bT, tab, bX, reduceIte, ↓reduceIte, reduceCtorEq, Int.reduceToNat, Nat.reduceDiv, Nat.reduceMod, Nat.reduceLT, Nat.reduceLeDiff, Nat.reduceAdd, Nat.reduceSub, Nat.reduceMul, Nat.reduceEqDiff, Nat.reduceBEq, Nat.reduceBNe, Nat.reduceGT, h6b]
          repeat refine ⟨by first | omega | assumption | decide | exact all_len fun _ => rfl | (intro _; omega) | rfl | (and_intros <;> first | omega | assumption | decide | exact all_len fun _ => rfl), ?_⟩
          refine hk _ _ ?_
          clear hk hp k kp
          refine W_ret ?_
          refine KBlock_r ?_
          refine KThen_r ?_
          refine KBody_ret [] ?_
          obtain rfl := Option.some.inj hm
          simp only [bF, bT, tab, bX, reduceIte, ↓reduceIte, reduceCtorEq, Int.reduceToNat, Nat.reduceDiv, Nat.reduceMod, Nat.reduceLT, Nat.reduceLeDiff, Nat.reduceAdd, Nat.reduceSub, Nat.reduceMul, Nat.reduceEqDiff, Nat.reduceBEq, Nat.reduceBNe, Nat.reduceGT] <;> first | done | rfl | (and_intros <;> first | rfl | omega | (simp; done))
      · rw [if_neg h4] at hm
        refine W_condf rfl (Bool.eq_false_iff.2 h4) ?_
        refine W_joinM (S := Bool) (V := Unit) [24, 44, 45, 46] (fun b5 _ => [(44, .c (.bool b5))]) (fun b5 _ => [.box [.int .i64 p1.cells, .int .i64 p1.regs, .int .i64 p1.cost, .tree 1 (p1.put.map (eK .i64)), .tree 1 (p1.bools.map (eK .i64)), .tree 1 (p1.get.map (eK .i64)), .tree 6 (p1.code.map TIns.enc)], .box [.int .i64 p2.op, .int .i64 p2.k, .int .i64 p2.r_, .int .i64 p2.a, .int .i64 p2.b, .int .i64 p2.n]]) (fun b5 => ref_insOK_j2 p1 p2 y1 b5 = some r) ?_ ?_
        · skip
          refine W_regF [24, 45] fun k kp hk hp => ?_
          simp only [bR, bT, tab, bX, reduceIte, ↓reduceIte, reduceCtorEq, Int.reduceToNat, Nat.reduceDiv, Nat.reduceMod, Nat.reduceLT, Nat.reduceLeDiff, Nat.reduceAdd, Nat.reduceSub, Nat.reduceMul, Nat.reduceEqDiff, Nat.reduceBEq, Nat.reduceBNe, Nat.reduceGT]
          repeat refine ⟨by first | omega | assumption | decide | exact all_len fun _ => rfl | (intro _; omega) | rfl | (and_intros <;> first | omega | assumption | decide | exact all_len fun _ => rfl), ?_⟩
          refine hk _ _ ?_
          clear hk hp k kp
          by_cases h28 : p2.op = 3
          · rw [if_pos h28] at hm
            refine W_condt rfl (beq_iff_eq.2 h28) ?_
            refine W_skip ?_
            refine KJoinM_n (p2.op == 3) () hm ?_
            simp only [bS, bX, reduceIte, ↓reduceIte, reduceCtorEq, Int.reduceToNat, Nat.reduceDiv, Nat.reduceMod, Nat.reduceLT, Nat.reduceLeDiff, Nat.reduceAdd, Nat.reduceSub, Nat.reduceMul, Nat.reduceEqDiff, Nat.reduceBEq, Nat.reduceBNe, Nat.reduceGT] <;> first | done | (and_intros <;> first | rfl | (simp; done) | omega | done)
          · rw [if_neg h28] at hm
            refine W_condf rfl (beq_eq_false_iff_ne.2 h28) ?_
            refine W_region fun k kp hk hp => ?_
            simp only [bR, bT, tab, bX, reduceIte, ↓reduceIte, reduceCtorEq, Int.reduceToNat, Nat.reduceDiv, Nat.reduceMod, Nat.reduceLT, Nat.reduceLeDiff, Nat.reduceAdd, Nat.reduceSub, Nat.reduceMul, Nat.reduceEqDiff, Nat.reduceBEq, Nat.reduceBNe, Nat.reduceGT]
            repeat refine ⟨by first | omega | assumption | decide | exact all_len fun _ => rfl | (intro _; omega) | rfl | (and_intros <;> first | omega | assumption | decide | exact all_len fun _ => rfl), ?_⟩
            refine hk _ _ ?_
            clear hk hp k kp
            refine KJoinM_n (p2.op == 5) () hm ?_
            simp only [bS, bX, reduceIte, ↓reduceIte, reduceCtorEq, Int.reduceToNat, Nat.reduceDiv, Nat.reduceMod, Nat.reduceLT, Nat.reduceLeDiff, Nat.reduceAdd, Nat.reduceSub, Nat.reduceMul, Nat.reduceEqDiff, Nat.reduceBEq, Nat.reduceBNe, Nat.reduceGT] <;> first | done | (and_intros <;> first | rfl | (simp; done) | omega | done)
        · rintro b5 _ hm
          replace hm : ref_insOK_j2 p1 p2 y1 b5 = some r := hm
          refine W_eqE (by simp only [bE, Nat.reduceDiv, Nat.reduceMod, Nat.reduceLT, Nat.reduceLeDiff, Nat.reduceAdd, Nat.reduceSub, Nat.reduceMul, Nat.reduceEqDiff, Nat.reduceBEq, Nat.reduceBNe, Nat.reduceGT, Int.reduceToNat]; rfl) (by first | (dsimp only; rfl) | rfl) ?_
          unfold ref_insOK_j2 at hm
          by_cases h8 : b5 = true
          · rw [if_pos h8] at hm
            refine W_condt rfl (h8) ?_
            refine W_regF [2, 3, 7, 16, 44, 47, 48, 49, 50, 51, 52, 53, 54, 55, 56, 57, 58, 59, 60, 61, 62, 63, 64, 65, 66, 67, 68, 69, 70, 71, 72, 73, 74, 75, 76, 77, 78, 79, 80] fun k kp hk hp => ?_
            simp only [bR, bT, tab, bX, reduceIte, ↓reduceIte, reduceCtorEq, Int.reduceToNat, Nat.reduceDiv, Nat.reduceMod, Nat.reduceLT, Nat.reduceLeDiff, Nat.reduceAdd, Nat.reduceSub, Nat.reduceMul, Nat.reduceEqDiff, Nat.reduceBEq, Nat.reduceBNe, Nat.reduceGT, List.replicate, List.foldr]
            repeat refine ⟨by first | omega | assumption | decide | exact all_len fun _ => rfl | (intro _; omega) | rfl | (and_intros <;> first | omega | assumption | decide | exact all_len fun _ => rfl), ?_⟩
            refine RunCall_turn (Ghost_fr 2 rfl) ?_
            simp only [bR, bT, tab, bX, reduceIte, ↓reduceIte, reduceCtorEq, Int.reduceToNat, Nat.reduceDiv, Nat.reduceMod, Nat.reduceLT, Nat.reduceLeDiff, Nat.reduceAdd, Nat.reduceSub, Nat.reduceMul, Nat.reduceEqDiff, Nat.reduceBEq, Nat.reduceBNe, Nat.reduceGT, bZ, List.replicate, List.foldr]
            repeat refine ⟨by first | omega | assumption | decide | exact all_len fun _ => rfl | (intro _; omega) | rfl | (and_intros <;> first | omega | assumption | decide | exact all_len fun _ => rfl), ?_⟩
            obtain ⟨y6, hc9, hm⟩ := bd hm
            refine RunCall_pure (fun _ => ref_regsOK_ok p1 (lit ([p2.r_, p2.a] : List Int)) _ hc9) (by first | trivial | exact dst_ok rfl) (by first | trivial | (intro _; first | trivial | simp [need]) | simp [need]) rfl rfl ?_
            by_cases h10 : y6 = true
            · rw [if_pos h10] at hm
              have h10b : y6 = true := h10
              by_cases h11 : p2.n ≥ 0
              · rw [if_pos h11] at hm
                have h11b : decide (p2.n ≥ 0) = true := decide_eq_true h11
                by_cases h12 : p2.n < p1.cells
                · rw [if_pos h12] at hm
                  have h12b : decide (p2.n < p1.cells) = true := decide_eq_true h12
                  by_cases h13 : p2.b ≥ 1
                  · rw [if_pos h13] at hm
                    have h13b : decide (p2.b ≥ 1) = true := decide_eq_true h13
                    simp only [bR, bT, tab, bX, reduceIte, ↓reduceIte, reduceCtorEq, Int.reduceToNat, Nat.reduceDiv, Nat.reduceMod, Nat.reduceLT, Nat.reduceLeDiff, Nat.reduceAdd, Nat.reduceSub, Nat.reduceMul, Nat.reduceEqDiff, Nat.reduceBEq, Nat.reduceBNe, Nat.reduceGT, h10b, h11b, h12b, h13b]
                    repeat refine ⟨by first | omega | assumption | decide | exact all_len fun _ => rfl | (intro _; omega) | rfl | (and_intros <;> first | omega | assumption | decide | exact all_len fun _ => rfl), ?_⟩
                    refine hk _ _ ?_
                    clear hk hp k kp
                    refine W_ret ?_
                    refine KBlock_r ?_
                    refine KThen_r ?_
                    refine KBody_ret [] ?_
                    obtain rfl := Option.some.inj hm
                    simp only [bF, bT, tab, bX, reduceIte, ↓reduceIte, reduceCtorEq, Int.reduceToNat, Nat.reduceDiv, Nat.reduceMod, Nat.reduceLT, Nat.reduceLeDiff, Nat.reduceAdd, Nat.reduceSub, Nat.reduceMul, Nat.reduceEqDiff, Nat.reduceBEq, Nat.reduceBNe, Nat.reduceGT] <;> first | done | rfl | (and_intros <;> first | rfl | omega | (simp; done))
                  · rw [if_neg h13] at hm
                    have h13b : decide (p2.b ≥ 1) = false := decide_eq_false h13
                    simp only [bR, bT, tab, bX, reduceIte, ↓reduceIte, reduceCtorEq, Int.reduceToNat, Nat.reduceDiv, Nat.reduceMod, Nat.reduceLT, Nat.reduceLeDiff, Nat.reduceAdd, Nat.reduceSub, Nat.reduceMul, Nat.reduceEqDiff, Nat.reduceBEq, Nat.reduceBNe, Nat.reduceGT, h10b, h11b, h12b, h13b]
                    repeat refine ⟨by first | omega | assumption | decide | exact all_len fun _ => rfl | (intro _; omega) | rfl | (and_intros <;> first | omega | assumption | decide | exact all_len fun _ => rfl), ?_⟩
                    refine hk _ _ ?_
                    clear hk hp k kp
                    refine W_ret ?_
                    refine KBlock_r ?_
                    refine KThen_r ?_
                    refine KBody_ret [] ?_
                    obtain rfl := Option.some.inj hm
                    simp only [bF, bT, tab, bX, reduceIte, ↓reduceIte, reduceCtorEq, Int.reduceToNat, Nat.reduceDiv, Nat.reduceMod, Nat.reduceLT, Nat.reduceLeDiff, Nat.reduceAdd, Nat.reduceSub, Nat.reduceMul, Nat.reduceEqDiff, Nat.reduceBEq, Nat.reduceBNe, Nat.reduceGT] <;> first | done | rfl | (and_intros <;> first | rfl | omega | (simp; done))
                · rw [if_neg h12] at hm
                  have h12b : decide (p2.n < p1.cells) = false := decide_eq_false h12
                  simp only [bR, bT, tab, bX, reduceIte, ↓reduceIte, reduceCtorEq, Int.reduceToNat, Nat.reduceDiv, Nat.reduceMod, Nat.reduceLT, Nat.reduceLeDiff, Nat.reduceAdd, Nat.reduceSub, Nat.reduceMul, Nat.reduceEqDiff, Nat.reduceBEq, Nat.reduceBNe, Nat.reduceGT, h10b, h11b, h12b]
                  repeat refine ⟨by first | omega | assumption | decide | exact all_len fun _ => rfl | (intro _; omega) | rfl | (and_intros <;> first | omega | assumption | decide | exact all_len fun _ => rfl), ?_⟩
                  refine hk _ _ ?_
                  clear hk hp k kp
                  refine W_ret ?_
                  refine KBlock_r ?_
                  refine KThen_r ?_
                  refine KBody_ret [] ?_
                  obtain rfl := Option.some.inj hm
                  simp only [bF, bT, tab, bX, reduceIte, ↓reduceIte, reduceCtorEq, Int.reduceToNat, Nat.reduceDiv, Nat.reduceMod, Nat.reduceLT, Nat.reduceLeDiff, Nat.reduceAdd, Nat.reduceSub, Nat.reduceMul, Nat.reduceEqDiff, Nat.reduceBEq, Nat.reduceBNe, Nat.reduceGT] <;> first | done | rfl | (and_intros <;> first | rfl | omega | (simp; done))
              · rw [if_neg h11] at hm
                have h11b : decide (p2.n ≥ 0) = false := decide_eq_false h11
                simp only [bR, bT, tab, bX, reduceIte, ↓reduceIte, reduceCtorEq, Int.reduceToNat, Nat.reduceDiv, Nat.reduceMod, Nat.reduceLT, Nat.reduceLeDiff, Nat.reduceAdd, Nat.reduceSub, Nat.reduceMul, Nat.reduceEqDiff, Nat.reduceBEq, Nat.reduceBNe, Nat.reduceGT, h10b, h11b]
                repeat refine ⟨by first | omega | assumption | decide | exact all_len fun _ => rfl | (intro _; omega) | rfl | (and_intros <;> first | omega | assumption | decide | exact all_len fun _ => rfl), ?_⟩
                refine hk _ _ ?_
                clear hk hp k kp
                refine W_ret ?_
                refine KBlock_r ?_
                refine KThen_r ?_
                refine KBody_ret [] ?_
                obtain rfl := Option.some.inj hm
                simp only [bF, bT, tab, bX, reduceIte, ↓reduceIte, reduceCtorEq, Int.reduceToNat, Nat.reduceDiv, Nat.reduceMod, Nat.reduceLT, Nat.reduceLeDiff, Nat.reduceAdd, Nat.reduceSub, Nat.reduceMul, Nat.reduceEqDiff, Nat.reduceBEq, Nat.reduceBNe, Nat.reduceGT] <;> first | done | rfl | (and_intros <;> first | rfl | omega | (simp; done))
            · rw [if_neg h10] at hm
              have h10b : y6 = false := Bool.eq_false_iff.2 h10
              simp only [bR, bT, tab, bX, reduceIte, ↓reduceIte, reduceCtorEq, Int.reduceToNat, Nat.reduceDiv, Nat.reduceMod, Nat.reduceLT, Nat.reduceLeDiff, Nat.reduceAdd, Nat.reduceSub, Nat.reduceMul, Nat.reduceEqDiff, Nat.reduceBEq, Nat.reduceBNe, Nat.reduceGT, h10b]
              repeat refine ⟨by first | omega | assumption | decide | exact all_len fun _ => rfl | (intro _; omega) | rfl | (and_intros <;> first | omega | assumption | decide | exact all_len fun _ => rfl), ?_⟩
              refine hk _ _ ?_
              clear hk hp k kp
              refine W_ret ?_
              refine KBlock_r ?_
              refine KThen_r ?_
              refine KBody_ret [] ?_
              obtain rfl := Option.some.inj hm
              simp only [bF, bT, tab, bX, reduceIte, ↓reduceIte, reduceCtorEq, Int.reduceToNat, Nat.reduceDiv, Nat.reduceMod, Nat.reduceLT, Nat.reduceLeDiff, Nat.reduceAdd, Nat.reduceSub, Nat.reduceMul, Nat.reduceEqDiff, Nat.reduceBEq, Nat.reduceBNe, Nat.reduceGT] <;> first | done | rfl | (and_intros <;> first | rfl | omega | (simp; done))
          · rw [if_neg h8] at hm
            refine W_condf rfl (Bool.eq_false_iff.2 h8) ?_
            refine W_regF [44, 82] fun k kp hk hp => ?_
            simp only [bR, bT, tab, bX, reduceIte, ↓reduceIte, reduceCtorEq, Int.reduceToNat, Nat.reduceDiv, Nat.reduceMod, Nat.reduceLT, Nat.reduceLeDiff, Nat.reduceAdd, Nat.reduceSub, Nat.reduceMul, Nat.reduceEqDiff, Nat.reduceBEq, Nat.reduceBNe, Nat.reduceGT]
            repeat refine ⟨by first | omega | assumption | decide | exact all_len fun _ => rfl | (intro _; omega) | rfl | (and_intros <;> first | omega | assumption | decide | exact all_len fun _ => rfl), ?_⟩
            refine hk _ _ ?_
            clear hk hp k kp
            by_cases h14 : p2.op = 6
            · rw [if_pos h14] at hm
              refine W_condt rfl (beq_iff_eq.2 h14) ?_
              refine W_regF [2, 3, 7, 16, 81, 83, 84, 85, 86, 87, 88, 89, 90, 91, 92, 93] fun k kp hk hp => ?_
              simp only [bR, bT, tab, bX, reduceIte, ↓reduceIte, reduceCtorEq, Int.reduceToNat, Nat.reduceDiv, Nat.reduceMod, Nat.reduceLT, Nat.reduceLeDiff, Nat.reduceAdd, Nat.reduceSub, Nat.reduceMul, Nat.reduceEqDiff, Nat.reduceBEq, Nat.reduceBNe, Nat.reduceGT, List.replicate, List.foldr]
              repeat refine ⟨by first | omega | assumption | decide | exact all_len fun _ => rfl | (intro _; omega) | rfl | (and_intros <;> first | omega | assumption | decide | exact all_len fun _ => rfl), ?_⟩
              refine RunCall_turn (Ghost_fr 2 rfl) ?_
              simp only [bR, bT, tab, bX, reduceIte, ↓reduceIte, reduceCtorEq, Int.reduceToNat, Nat.reduceDiv, Nat.reduceMod, Nat.reduceLT, Nat.reduceLeDiff, Nat.reduceAdd, Nat.reduceSub, Nat.reduceMul, Nat.reduceEqDiff, Nat.reduceBEq, Nat.reduceBNe, Nat.reduceGT, bZ, List.replicate, List.foldr]
              repeat refine ⟨by first | omega | assumption | decide | exact all_len fun _ => rfl | (intro _; omega) | rfl | (and_intros <;> first | omega | assumption | decide | exact all_len fun _ => rfl), ?_⟩
              obtain ⟨y7, hc15, hm⟩ := bd hm
              refine RunCall_pure (fun _ => ref_regsOK_ok p1 (lit ([p2.r_, p2.a] : List Int)) _ hc15) (by first | trivial | exact dst_ok rfl) (by first | trivial | (intro _; first | trivial | simp [need]) | simp [need]) rfl rfl ?_
              by_cases h16 : y7 = true
              · rw [if_pos h16] at hm
                have h16b : y7 = true := h16
                simp only [bR, bT, tab, bX, reduceIte, ↓reduceIte, reduceCtorEq, Int.reduceToNat, Nat.reduceDiv, Nat.reduceMod, Nat.reduceLT, Nat.reduceLeDiff, Nat.reduceAdd, Nat.reduceSub, Nat.reduceMul, Nat.reduceEqDiff, Nat.reduceBEq, Nat.reduceBNe, Nat.reduceGT, h16b]
                repeat refine ⟨by first | omega | assumption | decide | exact all_len fun _ => rfl | (intro _; omega) | rfl | (and_intros <;> first | omega | assumption | decide | exact all_len fun _ => rfl), ?_⟩
                refine hk _ _ ?_
                clear hk hp k kp
                refine W_ret ?_
                refine KBlock_r ?_
                refine KThen_r ?_
                refine KBody_ret [] ?_
                obtain rfl := Option.some.inj hm
                simp only [bF, bT, tab, bX, reduceIte, ↓reduceIte, reduceCtorEq, Int.reduceToNat, Nat.reduceDiv, Nat.reduceMod, Nat.reduceLT, Nat.reduceLeDiff, Nat.reduceAdd, Nat.reduceSub, Nat.reduceMul, Nat.reduceEqDiff, Nat.reduceBEq, Nat.reduceBNe, Nat.reduceGT] <;> first | done | rfl | (and_intros <;> first | rfl | omega | (simp; done))
              · rw [if_neg h16] at hm
                have h16b : y7 = false := Bool.eq_false_iff.2 h16
                simp only [bR, bT, tab, bX, reduceIte, ↓reduceIte, reduceCtorEq, Int.reduceToNat, Nat.reduceDiv, Nat.reduceMod, Nat.reduceLT, Nat.reduceLeDiff, Nat.reduceAdd, Nat.reduceSub, Nat.reduceMul, Nat.reduceEqDiff, Nat.reduceBEq, Nat.reduceBNe, Nat.reduceGT, h16b]
                repeat refine ⟨by first | omega | assumption | decide | exact all_len fun _ => rfl | (intro _; omega) | rfl | (and_intros <;> first | omega | assumption | decide | exact all_len fun _ => rfl), ?_⟩
                refine hk _ _ ?_
                clear hk hp k kp
                refine W_ret ?_
                refine KBlock_r ?_
                refine KThen_r ?_
                refine KBody_ret [] ?_
                obtain rfl := Option.some.inj hm
                simp only [bF, bT, tab, bX, reduceIte, ↓reduceIte, reduceCtorEq, Int.reduceToNat, Nat.reduceDiv, Nat.reduceMod, Nat.reduceLT, Nat.reduceLeDiff, Nat.reduceAdd, Nat.reduceSub, Nat.reduceMul, Nat.reduceEqDiff, Nat.reduceBEq, Nat.reduceBNe, Nat.reduceGT] <;> first | done | rfl | (and_intros <;> first | rfl | omega | (simp; done))
            · rw [if_neg h14] at hm
              refine W_condf rfl (beq_eq_false_iff_ne.2 h14) ?_
              refine W_regF [81, 95] fun k kp hk hp => ?_
              simp only [bR, bT, tab, bX, reduceIte, ↓reduceIte, reduceCtorEq, Int.reduceToNat, Nat.reduceDiv, Nat.reduceMod, Nat.reduceLT, Nat.reduceLeDiff, Nat.reduceAdd, Nat.reduceSub, Nat.reduceMul, Nat.reduceEqDiff, Nat.reduceBEq, Nat.reduceBNe, Nat.reduceGT]
              repeat refine ⟨by first | omega | assumption | decide | exact all_len fun _ => rfl | (intro _; omega) | rfl | (and_intros <;> first | omega | assumption | decide | exact all_len fun _ => rfl), ?_⟩
              refine hk _ _ ?_
              clear hk hp k kp
              by_cases h17 : p2.op = 7
              · rw [if_pos h17] at hm
                refine W_condt rfl (beq_iff_eq.2 h17) ?_
                refine W_regF [2, 3, 7, 16, 94, 96, 97, 98, 99, 100, 101, 102, 103, 104, 105, 106, 107, 108] fun k kp hk hp => ?_
                simp only [bR, bT, tab, bX, reduceIte, ↓reduceIte, reduceCtorEq, Int.reduceToNat, Nat.reduceDiv, Nat.reduceMod, Nat.reduceLT, Nat.reduceLeDiff, Nat.reduceAdd, Nat.reduceSub, Nat.reduceMul, Nat.reduceEqDiff, Nat.reduceBEq, Nat.reduceBNe, Nat.reduceGT, List.replicate, List.foldr]
                repeat refine ⟨by first | omega | assumption | decide | exact all_len fun _ => rfl | (intro _; omega) | rfl | (and_intros <;> first | omega | assumption | decide | exact all_len fun _ => rfl), ?_⟩
                refine RunCall_turn (Ghost_fr 2 rfl) ?_
                simp only [bR, bT, tab, bX, reduceIte, ↓reduceIte, reduceCtorEq, Int.reduceToNat, Nat.reduceDiv, Nat.reduceMod, Nat.reduceLT, Nat.reduceLeDiff, Nat.reduceAdd, Nat.reduceSub, Nat.reduceMul, Nat.reduceEqDiff, Nat.reduceBEq, Nat.reduceBNe, Nat.reduceGT, bZ, List.replicate, List.foldr]
                repeat refine ⟨by first | omega | assumption | decide | exact all_len fun _ => rfl | (intro _; omega) | rfl | (and_intros <;> first | omega | assumption | decide | exact all_len fun _ => rfl), ?_⟩
                obtain ⟨y8, hc18, hm⟩ := bd hm
                refine RunCall_pure (fun _ => ref_regsOK_ok p1 (lit ([p2.r_, p2.a, p2.b] : List Int)) _ hc18) (by first | trivial | exact dst_ok rfl) (by first | trivial | (intro _; first | trivial | simp [need]) | simp [need]) rfl rfl ?_
                by_cases h19 : y8 = true
                · rw [if_pos h19] at hm
                  have h19b : y8 = true := h19
                  simp only [bR, bT, tab, bX, reduceIte, ↓reduceIte, reduceCtorEq, Int.reduceToNat, Nat.reduceDiv, Nat.reduceMod, Nat.reduceLT, Nat.reduceLeDiff, Nat.reduceAdd, Nat.reduceSub, Nat.reduceMul, Nat.reduceEqDiff, Nat.reduceBEq, Nat.reduceBNe, Nat.reduceGT, h19b]
                  repeat refine ⟨by first | omega | assumption | decide | exact all_len fun _ => rfl | (intro _; omega) | rfl | (and_intros <;> first | omega | assumption | decide | exact all_len fun _ => rfl), ?_⟩
                  refine hk _ _ ?_
                  clear hk hp k kp
                  refine W_ret ?_
                  refine KBlock_r ?_
                  refine KThen_r ?_
                  refine KBody_ret [] ?_
                  obtain rfl := Option.some.inj hm
                  simp only [bF, bT, tab, bX, reduceIte, ↓reduceIte, reduceCtorEq, Int.reduceToNat, Nat.reduceDiv, Nat.reduceMod, Nat.reduceLT, Nat.reduceLeDiff, Nat.reduceAdd, Nat.reduceSub, Nat.reduceMul, Nat.reduceEqDiff, Nat.reduceBEq, Nat.reduceBNe, Nat.reduceGT] <;> first | done | rfl | (and_intros <;> first | rfl | omega | (simp; done))
                · rw [if_neg h19] at hm
                  have h19b : y8 = false := Bool.eq_false_iff.2 h19
                  simp only [bR, bT, tab, bX, reduceIte, ↓reduceIte, reduceCtorEq, Int.reduceToNat, Nat.reduceDiv, Nat.reduceMod, Nat.reduceLT, Nat.reduceLeDiff, Nat.reduceAdd, Nat.reduceSub, Nat.reduceMul, Nat.reduceEqDiff, Nat.reduceBEq, Nat.reduceBNe, Nat.reduceGT, h19b]
                  repeat refine ⟨by first | omega | assumption | decide | exact all_len fun _ => rfl | (intro _; omega) | rfl | (and_intros <;> first | omega | assumption | decide | exact all_len fun _ => rfl), ?_⟩
                  refine hk _ _ ?_
                  clear hk hp k kp
                  refine W_ret ?_
                  refine KBlock_r ?_
                  refine KThen_r ?_
                  refine KBody_ret [] ?_
                  obtain rfl := Option.some.inj hm
                  simp only [bF, bT, tab, bX, reduceIte, ↓reduceIte, reduceCtorEq, Int.reduceToNat, Nat.reduceDiv, Nat.reduceMod, Nat.reduceLT, Nat.reduceLeDiff, Nat.reduceAdd, Nat.reduceSub, Nat.reduceMul, Nat.reduceEqDiff, Nat.reduceBEq, Nat.reduceBNe, Nat.reduceGT] <;> first | done | rfl | (and_intros <;> first | rfl | omega | (simp; done))
              · rw [if_neg h17] at hm
                refine W_condf rfl (beq_eq_false_iff_ne.2 h17) ?_
                refine W_regF [7, 94, 110] fun k kp hk hp => ?_
                simp only [bR, bT, tab, bX, reduceIte, ↓reduceIte, reduceCtorEq, Int.reduceToNat, Nat.reduceDiv, Nat.reduceMod, Nat.reduceLT, Nat.reduceLeDiff, Nat.reduceAdd, Nat.reduceSub, Nat.reduceMul, Nat.reduceEqDiff, Nat.reduceBEq, Nat.reduceBNe, Nat.reduceGT]
                repeat refine ⟨by first | omega | assumption | decide | exact all_len fun _ => rfl | (intro _; omega) | rfl | (and_intros <;> first | omega | assumption | decide | exact all_len fun _ => rfl), ?_⟩
                refine hk _ _ ?_
                clear hk hp k kp
                by_cases h20 : p2.op = 8
                · rw [if_pos h20] at hm
                  refine W_condt rfl (beq_iff_eq.2 h20) ?_
                  refine W_regF [2, 3, 16, 109, 111, 112, 113, 114, 115, 116, 117, 118, 119] fun k kp hk hp => ?_
                  simp only [bR, bT, tab, bX, reduceIte, ↓reduceIte, reduceCtorEq, Int.reduceToNat, Nat.reduceDiv, Nat.reduceMod, Nat.reduceLT, Nat.reduceLeDiff, Nat.reduceAdd, Nat.reduceSub, Nat.reduceMul, Nat.reduceEqDiff, Nat.reduceBEq, Nat.reduceBNe, Nat.reduceGT, List.replicate, List.foldr]
                  repeat refine ⟨by first | omega | assumption | decide | exact all_len fun _ => rfl | (intro _; omega) | rfl | (and_intros <;> first | omega | assumption | decide | exact all_len fun _ => rfl), ?_⟩
                  refine RunCall_turn (Ghost_fr 2 rfl) ?_
                  simp only [bR, bT, tab, bX, reduceIte, ↓reduceIte, reduceCtorEq, Int.reduceToNat, Nat.reduceDiv, Nat.reduceMod, Nat.reduceLT, Nat.reduceLeDiff, Nat.reduceAdd, Nat.reduceSub, Nat.reduceMul, Nat.reduceEqDiff, Nat.reduceBEq, Nat.reduceBNe, Nat.reduceGT, bZ, List.replicate, List.foldr]
                  repeat refine ⟨by first | omega | assumption | decide | exact all_len fun _ => rfl | (intro _; omega) | rfl | (and_intros <;> first | omega | assumption | decide | exact all_len fun _ => rfl), ?_⟩
                  obtain ⟨y9, hc21, hm⟩ := bd hm
                  refine RunCall_pure (fun _ => ref_regsOK_ok p1 (lit ([p2.r_, p2.a, p2.b] : List Int)) _ hc21) (by first | trivial | exact dst_ok rfl) (by first | trivial | (intro _; first | trivial | simp [need]) | simp [need]) rfl rfl ?_
                  simp only [bR, bT, tab, bX, reduceIte, ↓reduceIte, reduceCtorEq, Int.reduceToNat, Nat.reduceDiv, Nat.reduceMod, Nat.reduceLT, Nat.reduceLeDiff, Nat.reduceAdd, Nat.reduceSub, Nat.reduceMul, Nat.reduceEqDiff, Nat.reduceBEq, Nat.reduceBNe, Nat.reduceGT]
                  repeat refine ⟨by first | omega | assumption | decide | exact all_len fun _ => rfl | (intro _; omega) | rfl | (and_intros <;> first | omega | assumption | decide | exact all_len fun _ => rfl), ?_⟩
                  refine hk _ _ ?_
                  clear hk hp k kp
                  refine W_ret ?_
                  refine KBlock_r ?_
                  refine KThen_r ?_
                  refine KBody_ret [] ?_
                  obtain rfl := Option.some.inj hm
                  simp only [bF, bT, tab, bX, reduceIte, ↓reduceIte, reduceCtorEq, Int.reduceToNat, Nat.reduceDiv, Nat.reduceMod, Nat.reduceLT, Nat.reduceLeDiff, Nat.reduceAdd, Nat.reduceSub, Nat.reduceMul, Nat.reduceEqDiff, Nat.reduceBEq, Nat.reduceBNe, Nat.reduceGT] <;> first | done | rfl | (and_intros <;> first | rfl | omega | (simp; done))
                · rw [if_neg h20] at hm
                  refine W_condf rfl (beq_eq_false_iff_ne.2 h20) ?_
                  refine W_regF [109, 121] fun k kp hk hp => ?_
                  simp only [bR, bT, tab, bX, reduceIte, ↓reduceIte, reduceCtorEq, Int.reduceToNat, Nat.reduceDiv, Nat.reduceMod, Nat.reduceLT, Nat.reduceLeDiff, Nat.reduceAdd, Nat.reduceSub, Nat.reduceMul, Nat.reduceEqDiff, Nat.reduceBEq, Nat.reduceBNe, Nat.reduceGT]
                  repeat refine ⟨by first | omega | assumption | decide | exact all_len fun _ => rfl | (intro _; omega) | rfl | (and_intros <;> first | omega | assumption | decide | exact all_len fun _ => rfl), ?_⟩
                  refine hk _ _ ?_
                  clear hk hp k kp
                  by_cases h22 : p2.op = 9
                  · rw [if_pos h22] at hm
                    refine W_condt rfl (beq_iff_eq.2 h22) ?_
                    refine W_regF [2, 3, 16, 120, 122, 123, 124, 125, 126, 127, 128] fun k kp hk hp => ?_
                    simp only [bR, bT, tab, bX, reduceIte, ↓reduceIte, reduceCtorEq, Int.reduceToNat, Nat.reduceDiv, Nat.reduceMod, Nat.reduceLT, Nat.reduceLeDiff, Nat.reduceAdd, Nat.reduceSub, Nat.reduceMul, Nat.reduceEqDiff, Nat.reduceBEq, Nat.reduceBNe, Nat.reduceGT, List.replicate, List.foldr]
                    repeat refine ⟨by first | omega | assumption | decide | exact all_len fun _ => rfl | (intro _; omega) | rfl | (and_intros <;> first | omega | assumption | decide | exact all_len fun _ => rfl), ?_⟩
                    refine RunCall_turn (Ghost_fr 2 rfl) ?_
                    simp only [bR, bT, tab, bX, reduceIte, ↓reduceIte, reduceCtorEq, Int.reduceToNat, Nat.reduceDiv, Nat.reduceMod, Nat.reduceLT, Nat.reduceLeDiff, Nat.reduceAdd, Nat.reduceSub, Nat.reduceMul, Nat.reduceEqDiff, Nat.reduceBEq, Nat.reduceBNe, Nat.reduceGT, bZ, List.replicate, List.foldr]
                    repeat refine ⟨by first | omega | assumption | decide | exact all_len fun _ => rfl | (intro _; omega) | rfl | (and_intros <;> first | omega | assumption | decide | exact all_len fun _ => rfl), ?_⟩
                    obtain ⟨y10, hc23, hm⟩ := bd hm
                    refine RunCall_pure (fun _ => ref_regsOK_ok p1 (lit ([p2.r_, p2.a] : List Int)) _ hc23) (by first | trivial | exact dst_ok rfl) (by first | trivial | (intro _; first | trivial | simp [need]) | simp [need]) rfl rfl ?_
                    simp only [bR, bT, tab, bX, reduceIte, ↓reduceIte, reduceCtorEq, Int.reduceToNat, Nat.reduceDiv, Nat.reduceMod, Nat.reduceLT, Nat.reduceLeDiff, Nat.reduceAdd, Nat.reduceSub, Nat.reduceMul, Nat.reduceEqDiff, Nat.reduceBEq, Nat.reduceBNe, Nat.reduceGT]
                    repeat refine ⟨by first | omega | assumption | decide | exact all_len fun _ => rfl | (intro _; omega) | rfl | (and_intros <;> first | omega | assumption | decide | exact all_len fun _ => rfl), ?_⟩
                    refine hk _ _ ?_
                    clear hk hp k kp
                    refine W_ret ?_
                    refine KBlock_r ?_
                    refine KThen_r ?_
                    refine KBody_ret [] ?_
                    obtain rfl := Option.some.inj hm
                    simp only [bF, bT, tab, bX, reduceIte, ↓reduceIte, reduceCtorEq, Int.reduceToNat, Nat.reduceDiv, Nat.reduceMod, Nat.reduceLT, Nat.reduceLeDiff, Nat.reduceAdd, Nat.reduceSub, Nat.reduceMul, Nat.reduceEqDiff, Nat.reduceBEq, Nat.reduceBNe, Nat.reduceGT] <;> first | done | rfl | (and_intros <;> first | rfl | omega | (simp; done))
                  · rw [if_neg h22] at hm
                    refine W_condf rfl (beq_eq_false_iff_ne.2 h22) ?_
                    refine W_regF [16, 120, 130] fun k kp hk hp => ?_
                    simp only [bR, bT, tab, bX, reduceIte, ↓reduceIte, reduceCtorEq, Int.reduceToNat, Nat.reduceDiv, Nat.reduceMod, Nat.reduceLT, Nat.reduceLeDiff, Nat.reduceAdd, Nat.reduceSub, Nat.reduceMul, Nat.reduceEqDiff, Nat.reduceBEq, Nat.reduceBNe, Nat.reduceGT]
                    repeat refine ⟨by first | omega | assumption | decide | exact all_len fun _ => rfl | (intro _; omega) | rfl | (and_intros <;> first | omega | assumption | decide | exact all_len fun _ => rfl), ?_⟩
                    refine hk _ _ ?_
                    clear hk hp k kp
                    by_cases h24 : p2.op = 10
                    · rw [if_pos h24] at hm
                      refine W_condt rfl (beq_iff_eq.2 h24) ?_
                      refine W_regF [2, 3, 129, 131, 132, 133, 134, 135, 136, 137, 138, 139, 140, 141, 142, 143, 144, 145] fun k kp hk hp => ?_
                      simp only [bR, bT, tab, bX, reduceIte, ↓reduceIte, reduceCtorEq, Int.reduceToNat, Nat.reduceDiv, Nat.reduceMod, Nat.reduceLT, Nat.reduceLeDiff, Nat.reduceAdd, Nat.reduceSub, Nat.reduceMul, Nat.reduceEqDiff, Nat.reduceBEq, Nat.reduceBNe, Nat.reduceGT, List.replicate, List.foldr]
                      repeat refine ⟨by first | omega | assumption | decide | exact all_len fun _ => rfl | (intro _; omega) | rfl | (and_intros <;> first | omega | assumption | decide | exact all_len fun _ => rfl), ?_⟩
                      refine RunCall_turn (Ghost_fr 2 rfl) ?_
                      simp only [bR, bT, tab, bX, reduceIte, ↓reduceIte, reduceCtorEq, Int.reduceToNat, Nat.reduceDiv, Nat.reduceMod, Nat.reduceLT, Nat.reduceLeDiff, Nat.reduceAdd, Nat.reduceSub, Nat.reduceMul, Nat.reduceEqDiff, Nat.reduceBEq, Nat.reduceBNe, Nat.reduceGT, bZ, List.replicate, List.foldr]
                      repeat refine ⟨by first | omega | assumption | decide | exact all_len fun _ => rfl | (intro _; omega) | rfl | (and_intros <;> first | omega | assumption | decide | exact all_len fun _ => rfl), ?_⟩
                      obtain ⟨y11, hc25, hm⟩ := bd hm
                      refine RunCall_pure (fun _ => ref_regsOK_ok p1 (lit ([p2.r_] : List Int)) _ hc25) (by first | trivial | exact dst_ok rfl) (by first | trivial | (intro _; first | trivial | simp [need]) | simp [need]) rfl rfl ?_
                      by_cases h26 : y11 = true
                      · rw [if_pos h26] at hm
                        have h26b : y11 = true := h26
                        by_cases h27 : p2.n ≥ 1
                        · rw [if_pos h27] at hm
                          have h27b : decide (p2.n ≥ 1) = true := decide_eq_true h27
                          simp only [bR, bT, tab, bX, reduceIte, ↓reduceIte, reduceCtorEq, Int.reduceToNat, Nat.reduceDiv, Nat.reduceMod, Nat.reduceLT, Nat.reduceLeDiff, Nat.reduceAdd, Nat.reduceSub, Nat.reduceMul, Nat.reduceEqDiff, Nat.reduceBEq, Nat.reduceBNe, Nat.reduceGT, h26b, h27b]
                          repeat refine ⟨by first | omega | assumption | decide | exact all_len fun _ => rfl | (intro _; omega) | rfl | (and_intros <;> first | omega | assumption | decide | exact all_len fun _ => rfl), ?_⟩
                          refine hk _ _ ?_
                          clear hk hp k kp
                          refine W_ret ?_
                          refine KBlock_r ?_
                          refine KThen_r ?_
                          refine KBody_ret [] ?_
                          obtain rfl := Option.some.inj hm
                          simp only [bF, bT, tab, bX, reduceIte, ↓reduceIte, reduceCtorEq, Int.reduceToNat, Nat.reduceDiv, Nat.reduceMod, Nat.reduceLT, Nat.reduceLeDiff, Nat.reduceAdd, Nat.reduceSub, Nat.reduceMul, Nat.reduceEqDiff, Nat.reduceBEq, Nat.reduceBNe, Nat.reduceGT] <;> first | done | rfl | (and_intros <;> first | rfl | omega | (simp; done))
                        · rw [if_neg h27] at hm
                          have h27b : decide (p2.n ≥ 1) = false := decide_eq_false h27
                          simp only [bR, bT, tab, bX, reduceIte, ↓reduceIte, reduceCtorEq, Int.reduceToNat, Nat.reduceDiv, Nat.reduceMod, Nat.reduceLT, Nat.reduceLeDiff, Nat.reduceAdd, Nat.reduceSub, Nat.reduceMul, Nat.reduceEqDiff, Nat.reduceBEq, Nat.reduceBNe, Nat.reduceGT, h26b, h27b]
                          repeat refine ⟨by first | omega | assumption | decide | exact all_len fun _ => rfl | (intro _; omega) | rfl | (and_intros <;> first | omega | assumption | decide | exact all_len fun _ => rfl), ?_⟩
                          refine hk _ _ ?_
                          clear hk hp k kp
                          refine W_ret ?_
                          refine KBlock_r ?_
                          refine KThen_r ?_
                          refine KBody_ret [] ?_
                          obtain rfl := Option.some.inj hm
                          simp only [bF, bT, tab, bX, reduceIte, ↓reduceIte, reduceCtorEq, Int.reduceToNat, Nat.reduceDiv, Nat.reduceMod, Nat.reduceLT, Nat.reduceLeDiff, Nat.reduceAdd, Nat.reduceSub, Nat.reduceMul, Nat.reduceEqDiff, Nat.reduceBEq, Nat.reduceBNe, Nat.reduceGT] <;> first | done | rfl | (and_intros <;> first | rfl | omega | (simp; done))
                      · rw [if_neg h26] at hm
                        have h26b : y11 = false := Bool.eq_false_iff.2 h26
                        simp only [bR, bT, tab, bX, reduceIte, ↓reduceIte, reduceCtorEq, Int.reduceToNat, Nat.reduceDiv, Nat.reduceMod, Nat.reduceLT, Nat.reduceLeDiff, Nat.reduceAdd, Nat.reduceSub, Nat.reduceMul, Nat.reduceEqDiff, Nat.reduceBEq, Nat.reduceBNe, Nat.reduceGT, h26b]
                        repeat refine ⟨by first | omega | assumption | decide | exact all_len fun _ => rfl | (intro _; omega) | rfl | (and_intros <;> first | omega | assumption | decide | exact all_len fun _ => rfl), ?_⟩
                        refine hk _ _ ?_
                        clear hk hp k kp
                        refine W_ret ?_
                        refine KBlock_r ?_
                        refine KThen_r ?_
                        refine KBody_ret [] ?_
                        obtain rfl := Option.some.inj hm
                        simp only [bF, bT, tab, bX, reduceIte, ↓reduceIte, reduceCtorEq, Int.reduceToNat, Nat.reduceDiv, Nat.reduceMod, Nat.reduceLT, Nat.reduceLeDiff, Nat.reduceAdd, Nat.reduceSub, Nat.reduceMul, Nat.reduceEqDiff, Nat.reduceBEq, Nat.reduceBNe, Nat.reduceGT] <;> first | done | rfl | (and_intros <;> first | rfl | omega | (simp; done))
                    · rw [if_neg h24] at hm
                      refine W_condf rfl (beq_eq_false_iff_ne.2 h24) ?_
                      refine W_skip ?_
                      refine KBlock_n ?_
                      refine KThen_n (hk1 _ _ ?_)
                      refine W_regF [2, 3, 129, 146, 147, 148] fun k kp hk hp => ?_
                      simp only [bR, bT, tab, bX, reduceIte, ↓reduceIte, reduceCtorEq, Int.reduceToNat, Nat.reduceDiv, Nat.reduceMod, Nat.reduceLT, Nat.reduceLeDiff, Nat.reduceAdd, Nat.reduceSub, Nat.reduceMul, Nat.reduceEqDiff, Nat.reduceBEq, Nat.reduceBNe, Nat.reduceGT]
                      repeat refine ⟨by first | omega | assumption | decide | exact all_len fun _ => rfl | (intro _; omega) | rfl | (and_intros <;> first | omega | assumption | decide | exact all_len fun _ => rfl), ?_⟩
                      refine hk _ _ ?_
                      clear hk hp k kp
                      refine W_ret ?_
                      refine KBody_ret [] ?_
                      obtain rfl := Option.some.inj hm
                      simp only [bF, bT, tab, bX, reduceIte, ↓reduceIte, reduceCtorEq, Int.reduceToNat, Nat.reduceDiv, Nat.reduceMod, Nat.reduceLT, Nat.reduceLeDiff, Nat.reduceAdd, Nat.reduceSub, Nat.reduceMul, Nat.reduceEqDiff, Nat.reduceBEq, Nat.reduceBNe, Nat.reduceGT] <;> first | done | rfl | (and_intros <;> first | rfl | omega | (simp; done))
end Pam

/- the walk of ref_ImageFault, printed by a program of ours -/
namespace Pam
open Go Go.Proofs
set_option maxRecDepth 100000 in
set_option maxHeartbeats 1000000 in
theorem ref_ImageFault_ok (p1 : TImage) (r : TFault) (hm : ref_ImageFault p1 = some r) : SpecF Try.prog 19 [.a [.int .i64 p1.cells, .int .i64 p1.regs, .int .i64 p1.cost, .tree 1 (p1.put.map (eK .i64)), .tree 1 (p1.bools.map (eK .i64)), .tree 1 (p1.get.map (eK .i64)), .tree 6 (p1.code.map TIns.enc)]] (.a [.int .i64 ((r).code), .int .i64 ((r).at_)]) := by
  refine Spec_ofD 127 [.cell 2 30] Try.func19 rfl rfl rfl (by kernel_rfl) (by simp) ?_
  refine W_eqE (by simp only [argSlots, Env.ofList, List.length_nil, List.length_cons, bE, Nat.reduceDiv, Nat.reduceMod, Nat.reduceLT, Nat.reduceLeDiff, Nat.reduceAdd, Nat.reduceSub, Nat.reduceMul, Nat.reduceEqDiff, Nat.reduceBEq, Nat.reduceBNe, Nat.reduceGT, Int.reduceToNat]; rfl) rfl ?_
  unfold ref_ImageFault at hm
  refine W_regF [0] fun k kp hk hp => ?_
  simp only [bR, bT, tab, bX, reduceIte, ↓reduceIte, reduceCtorEq, Int.reduceToNat, Nat.reduceDiv, Nat.reduceMod, Nat.reduceLT, Nat.reduceLeDiff, Nat.reduceAdd, Nat.reduceSub, Nat.reduceMul, Nat.reduceEqDiff, Nat.reduceBEq, Nat.reduceBNe, Nat.reduceGT]
  repeat refine ⟨by first | omega | assumption | decide | exact all_len fun _ => rfl | (intro _; omega) | rfl | (and_intros <;> first | omega | assumption | decide | exact all_len fun _ => rfl), ?_⟩
  refine hk _ _ ?_
  clear hk hp k kp
  refine W_seq_k fun k1 hk1 => ?_
  by_cases h1 : p1.cells < 1
  · rw [if_pos h1] at hm
    have h1b : decide (p1.cells < 1) = true := decide_eq_true h1
    refine W_regF [8, 9, 10, 11, 12, 13, 14, 15, 16, 17, 18, 19, 20, 21, 22, 23, 24] fun k kp hk hp => ?_
    simp only [bR, bT, tab, bX, reduceIte, ↓reduceIte, reduceCtorEq, Int.reduceToNat, Nat.reduceDiv, Nat.reduceMod, Nat.reduceLT, Nat.reduceLeDiff, Nat.reduceAdd, Nat.reduceSub, Nat.reduceMul, Nat.reduceEqDiff, Nat.reduceBEq, Nat.reduceBNe, Nat.reduceGT, h1b]
    repeat refine ⟨by first | omega | assumption | decide | exact all_len fun _ => rfl | (intro _; omega) | rfl | (and_intros <;> first | omega | assumption | decide | exact all_len fun _ => rfl), ?_⟩
    refine hk _ _ ?_
    clear hk hp k kp
    refine W_condt rfl rfl ?_
    refine W_regF [1, 25, 26] fun k kp hk hp => ?_
    simp only [bR, bT, tab, bX, reduceIte, ↓reduceIte, reduceCtorEq, Int.reduceToNat, Nat.reduceDiv, Nat.reduceMod, Nat.reduceLT, Nat.reduceLeDiff, Nat.reduceAdd, Nat.reduceSub, Nat.reduceMul, Nat.reduceEqDiff, Nat.reduceBEq, Nat.reduceBNe, Nat.reduceGT]
    repeat refine ⟨by first | omega | assumption | decide | exact all_len fun _ => rfl | (intro _; omega) | rfl | (and_intros <;> first | omega | assumption | decide | exact all_len fun _ => rfl), ?_⟩
    obtain ⟨y1, hc2, hm⟩ := bd hm
    refine RunCall_pure (fun _ => ref_F_ok 13 (-1) _ hc2) (by first | trivial | exact dst_ok rfl) (by first | trivial | (intro _; first | trivial | simp [need]) | simp [need]) rfl rfl ?_
    simp only [bR, bT, tab, bX, reduceIte, ↓reduceIte, reduceCtorEq, Int.reduceToNat, Nat.reduceDiv, Nat.reduceMod, Nat.reduceLT, Nat.reduceLeDiff, Nat.reduceAdd, Nat.reduceSub, Nat.reduceMul, Nat.reduceEqDiff, Nat.reduceBEq, Nat.reduceBNe, Nat.reduceGT]
    repeat refine ⟨by first | omega | assumption | decide | exact all_len fun _ => rfl | (intro _; omega) | rfl | (and_intros <;> first | omega | assumption | decide | exact all_len fun _ => rfl), ?_⟩
    refine hk _ _ ?_
    clear hk hp k kp
    refine W_ret ?_
    refine KThen_r ?_
    refine KBody_ret [] ?_
    obtain rfl := Option.some.inj hm
    simp only [bF, bT, tab, bX, reduceIte, ↓reduceIte, reduceCtorEq, Int.reduceToNat, Nat.reduceDiv, Nat.reduceMod, Nat.reduceLT, Nat.reduceLeDiff, Nat.reduceAdd, Nat.reduceSub, Nat.reduceMul, Nat.reduceEqDiff, Nat.reduceBEq, Nat.reduceBNe, Nat.reduceGT] <;> first | done | rfl | (and_intros <;> first | rfl | omega | (simp; done))
  · rw [if_neg h1] at hm
    have h1b : decide (p1.cells < 1) = false := decide_eq_false h1
    by_cases h3 : p1.cells > 6000
    · rw [if_pos h3] at hm
      have h3b : decide (p1.cells > 6000) = true := decide_eq_true h3
      refine W_regF [8, 9, 10, 11, 12, 13, 14, 15, 16, 17, 18, 19, 20, 21, 22, 23, 24] fun k kp hk hp => ?_
      simp only [bR, bT, tab, bX, reduceIte, ↓reduceIte, reduceCtorEq, Int.reduceToNat, Nat.reduceDiv, Nat.reduceMod, Nat.reduceLT, Nat.reduceLeDiff, Nat.reduceAdd, Nat.reduceSub, Nat.reduceMul, Nat.reduceEqDiff, Nat.reduceBEq, Nat.reduceBNe, Nat.reduceGT, h1b, h3b]
      repeat refine ⟨by first | omega | assumption | decide | exact all_len fun _ => rfl | (intro _; omega) | rfl | (and_intros <;> first | omega | assumption | decide | exact all_len fun _ => rfl), ?_⟩
      refine hk _ _ ?_
      clear hk hp k kp
      refine W_condt rfl rfl ?_
      refine W_regF [1, 25, 26] fun k kp hk hp => ?_
      simp only [bR, bT, tab, bX, reduceIte, ↓reduceIte, reduceCtorEq, Int.reduceToNat, Nat.reduceDiv, Nat.reduceMod, Nat.reduceLT, Nat.reduceLeDiff, Nat.reduceAdd, Nat.reduceSub, Nat.reduceMul, Nat.reduceEqDiff, Nat.reduceBEq, Nat.reduceBNe, Nat.reduceGT]
      repeat refine ⟨by first | omega | assumption | decide | exact all_len fun _ => rfl | (intro _; omega) | rfl | (and_intros <;> first | omega | assumption | decide | exact all_len fun _ => rfl), ?_⟩
      obtain ⟨y2, hc4, hm⟩ := bd hm
      refine RunCall_pure (fun _ => ref_F_ok 13 (-1) _ hc4) (by first | trivial | exact dst_ok rfl) (by first | trivial | (intro _; first | trivial | simp [need]) | simp [need]) rfl rfl ?_
      simp only [bR, bT, tab, bX, reduceIte, ↓reduceIte, reduceCtorEq, Int.reduceToNat, Nat.reduceDiv, Nat.reduceMod, Nat.reduceLT, Nat.reduceLeDiff, Nat.reduceAdd, Nat.reduceSub, Nat.reduceMul, Nat.reduceEqDiff, Nat.reduceBEq, Nat.reduceBNe, Nat.reduceGT]
      repeat refine ⟨by first | omega | assumption | decide | exact all_len fun _ => rfl | (intro _; omega) | rfl | (and_intros <;> first | omega | assumption | decide | exact all_len fun _ => rfl), ?_⟩
      refine hk _ _ ?_
      clear hk hp k kp
      refine W_ret ?_
      refine KThen_r ?_
      refine KBody_ret [] ?_
      obtain rfl := Option.some.inj hm
      simp only [bF, bT, tab, bX, reduceIte, ↓reduceIte, reduceCtorEq, Int.reduceToNat, Nat.reduceDiv, Nat.reduceMod, Nat.reduceLT, Nat.reduceLeDiff, Nat.reduceAdd, Nat.reduceSub, Nat.reduceMul, Nat.reduceEqDiff, Nat.reduceBEq, Nat.reduceBNe, Nat.reduceGT] <;> first | done | rfl | (and_intros <;> first | rfl | omega | (simp; done))
    · rw [if_neg h3] at hm
      have h3b : decide (p1.cells > 6000) = false := decide_eq_false h3
      by_cases h5 : p1.regs < 1
      · rw [if_pos h5] at hm
        have h5b : decide (p1.regs < 1) = true := decide_eq_true h5
        refine W_regF [8, 9, 10, 11, 12, 13, 14, 15, 16, 17, 18, 19, 20, 21, 22, 23, 24] fun k kp hk hp => ?_
        simp only [bR, bT, tab, bX, reduceIte, ↓reduceIte, reduceCtorEq, Int.reduceToNat, Nat.reduceDiv, Nat.reduceMod, Nat.reduceLT, Nat.reduceLeDiff, Nat.reduceAdd, Nat.reduceSub, Nat.reduceMul, Nat.reduceEqDiff, Nat.reduceBEq, Nat.reduceBNe, Nat.reduceGT, h1b, h3b, h5b]
        repeat refine ⟨by first | omega | assumption | decide | exact all_len fun _ => rfl | (intro _; omega) | rfl | (and_intros <;> first | omega | assumption | decide | exact all_len fun _ => rfl), ?_⟩
        refine hk _ _ ?_
        clear hk hp k kp
        refine W_condt rfl rfl ?_
        refine W_regF [1, 25, 26] fun k kp hk hp => ?_
        simp only [bR, bT, tab, bX, reduceIte, ↓reduceIte, reduceCtorEq, Int.reduceToNat, Nat.reduceDiv, Nat.reduceMod, Nat.reduceLT, Nat.reduceLeDiff, Nat.reduceAdd, Nat.reduceSub, Nat.reduceMul, Nat.reduceEqDiff, Nat.reduceBEq, Nat.reduceBNe, Nat.reduceGT]
        repeat refine ⟨by first | omega | assumption | decide | exact all_len fun _ => rfl | (intro _; omega) | rfl | (and_intros <;> first | omega | assumption | decide | exact all_len fun _ => rfl), ?_⟩
        obtain ⟨y3, hc6, hm⟩ := bd hm
        refine RunCall_pure (fun _ => ref_F_ok 13 (-1) _ hc6) (by first | trivial | exact dst_ok rfl) (by first | trivial | (intro _; first | trivial | simp [need]) | simp [need]) rfl rfl ?_
        simp only [bR, bT, tab, bX, reduceIte, ↓reduceIte, reduceCtorEq, Int.reduceToNat, Nat.reduceDiv, Nat.reduceMod, Nat.reduceLT, Nat.reduceLeDiff, Nat.reduceAdd, Nat.reduceSub, Nat.reduceMul, Nat.reduceEqDiff, Nat.reduceBEq, Nat.reduceBNe, Nat.reduceGT]
        repeat refine ⟨by first | omega | assumption | decide | exact all_len fun _ => rfl | (intro _; omega) | rfl | (and_intros <;> first | omega | assumption | decide | exact all_len fun _ => rfl), ?_⟩
        refine hk _ _ ?_
        clear hk hp k kp
        refine W_ret ?_
        refine KThen_r ?_
        refine KBody_ret [] ?_
        obtain rfl := Option.some.inj hm
        simp only [bF, bT, tab, bX, reduceIte, ↓reduceIte, reduceCtorEq, Int.reduceToNat, Nat.reduceDiv, Nat.reduceMod, Nat.reduceLT, Nat.reduceLeDiff, Nat.reduceAdd, Nat.reduceSub, Nat.reduceMul, Nat.reduceEqDiff, Nat.reduceBEq, Nat.reduceBNe, Nat.reduceGT] <;> first | done | rfl | (and_intros <;> first | rfl | omega | (simp; done))
      · rw [if_neg h5] at hm
        have h5b : decide (p1.regs < 1) = false := decide_eq_false h5
        refine W_regF [8, 9, 10, 11, 12, 13, 14, 15, 16, 17, 18, 19, 20, 21, 22, 23, 24] fun k kp hk hp => ?_
        simp only [bR, bT, tab, bX, reduceIte, ↓reduceIte, reduceCtorEq, Int.reduceToNat, Nat.reduceDiv, Nat.reduceMod, Nat.reduceLT, Nat.reduceLeDiff, Nat.reduceAdd, Nat.reduceSub, Nat.reduceMul, Nat.reduceEqDiff, Nat.reduceBEq, Nat.reduceBNe, Nat.reduceGT, h1b, h3b, h5b]
        repeat refine ⟨by first | omega | assumption | decide | exact all_len fun _ => rfl | (intro _; omega) | rfl | (and_intros <;> first | omega | assumption | decide | exact all_len fun _ => rfl), ?_⟩
        refine hk _ _ ?_
        clear hk hp k kp
        by_cases h7 : p1.regs > 40
        · rw [if_pos h7] at hm
          refine W_condt rfl (decide_eq_true h7) ?_
          refine W_regF [1, 25, 26] fun k kp hk hp => ?_
          simp only [bR, bT, tab, bX, reduceIte, ↓reduceIte, reduceCtorEq, Int.reduceToNat, Nat.reduceDiv, Nat.reduceMod, Nat.reduceLT, Nat.reduceLeDiff, Nat.reduceAdd, Nat.reduceSub, Nat.reduceMul, Nat.reduceEqDiff, Nat.reduceBEq, Nat.reduceBNe, Nat.reduceGT]
          repeat refine ⟨by first | omega | assumption | decide | exact all_len fun _ => rfl | (intro _; omega) | rfl | (and_intros <;> first | omega | assumption | decide | exact all_len fun _ => rfl), ?_⟩
          obtain ⟨y4, hc8, hm⟩ := bd hm
          refine RunCall_pure (fun _ => ref_F_ok 13 (-1) _ hc8) (by first | trivial | exact dst_ok rfl) (by first | trivial | (intro _; first | trivial | simp [need]) | simp [need]) rfl rfl ?_
          simp only [bR, bT, tab, bX, reduceIte, ↓reduceIte, reduceCtorEq, Int.reduceToNat, Nat.reduceDiv, Nat.reduceMod, Nat.reduceLT, Nat.reduceLeDiff, Nat.reduceAdd, Nat.reduceSub, Nat.reduceMul, Nat.reduceEqDiff, Nat.reduceBEq, Nat.reduceBNe, Nat.reduceGT]
          repeat refine ⟨by first | omega | assumption | decide | exact all_len fun _ => rfl | (intro _; omega) | rfl | (and_intros <;> first | omega | assumption | decide | exact all_len fun _ => rfl), ?_⟩
          refine hk _ _ ?_
          clear hk hp k kp
          refine W_ret ?_
          refine KThen_r ?_
          refine KBody_ret [] ?_
          obtain rfl := Option.some.inj hm
          simp only [bF, bT, tab, bX, reduceIte, ↓reduceIte, reduceCtorEq, Int.reduceToNat, Nat.reduceDiv, Nat.reduceMod, Nat.reduceLT, Nat.reduceLeDiff, Nat.reduceAdd, Nat.reduceSub, Nat.reduceMul, Nat.reduceEqDiff, Nat.reduceBEq, Nat.reduceBNe, Nat.reduceGT] <;> first | done | rfl | (and_intros <;> first | rfl | omega | (simp; done))
        · rw [if_neg h7] at hm
          refine W_condf rfl (decide_eq_false h7) ?_
          refine W_skip ?_
          refine KThen_n (hk1 _ _ ?_)
          refine W_seq_k fun k2 hk2 => ?_
          by_cases h9 : (p1.put.length : Int) > 6000
          · rw [if_pos h9] at hm
            have h9b : decide ((p1.put.length : Int) > 6000) = true := decide_eq_true h9
            refine W_regF [25, 27, 28, 29, 30, 31, 32, 33, 34, 35, 36, 37, 38, 39, 40, 41, 42, 43, 44, 45, 46, 47] fun k kp hk hp => ?_
            simp only [bR, bT, tab, bX, reduceIte, ↓reduceIte, reduceCtorEq, Int.reduceToNat, Nat.reduceDiv, Nat.reduceMod, Nat.reduceLT, Nat.reduceLeDiff, Nat.reduceAdd, Nat.reduceSub, Nat.reduceMul, Nat.reduceEqDiff, Nat.reduceBEq, Nat.reduceBNe, Nat.reduceGT, h9b]
            repeat refine ⟨by first | omega | assumption | decide | exact all_len fun _ => rfl | (intro _; omega) | rfl | (and_intros <;> first | omega | assumption | decide | exact all_len fun _ => rfl), ?_⟩
            refine hk _ _ ?_
            clear hk hp k kp
            refine W_condt rfl rfl ?_
            refine W_regF [1, 48, 49] fun k kp hk hp => ?_
            simp only [bR, bT, tab, bX, reduceIte, ↓reduceIte, reduceCtorEq, Int.reduceToNat, Nat.reduceDiv, Nat.reduceMod, Nat.reduceLT, Nat.reduceLeDiff, Nat.reduceAdd, Nat.reduceSub, Nat.reduceMul, Nat.reduceEqDiff, Nat.reduceBEq, Nat.reduceBNe, Nat.reduceGT]
            repeat refine ⟨by first | omega | assumption | decide | exact all_len fun _ => rfl | (intro _; omega) | rfl | (and_intros <;> first | omega | assumption | decide | exact all_len fun _ => rfl), ?_⟩
            obtain ⟨y5, hc10, hm⟩ := bd hm
            refine RunCall_pure (fun _ => ref_F_ok 7 (-1) _ hc10) (by first | trivial | exact dst_ok rfl) (by first | trivial | (intro _; first | trivial | simp [need]) | simp [need]) rfl rfl ?_
            simp only [bR, bT, tab, bX, reduceIte, ↓reduceIte, reduceCtorEq, Int.reduceToNat, Nat.reduceDiv, Nat.reduceMod, Nat.reduceLT, Nat.reduceLeDiff, Nat.reduceAdd, Nat.reduceSub, Nat.reduceMul, Nat.reduceEqDiff, Nat.reduceBEq, Nat.reduceBNe, Nat.reduceGT]
            repeat refine ⟨by first | omega | assumption | decide | exact all_len fun _ => rfl | (intro _; omega) | rfl | (and_intros <;> first | omega | assumption | decide | exact all_len fun _ => rfl), ?_⟩
            refine hk _ _ ?_
            clear hk hp k kp
            refine W_ret ?_
            refine KThen_r ?_
            refine KBody_ret [] ?_
            obtain rfl := Option.some.inj hm
            simp only [bF, bT, tab, bX, reduceIte, ↓reduceIte, reduceCtorEq, Int.reduceToNat, Nat.reduceDiv, Nat.reduceMod, Nat.reduceLT, Nat.reduceLeDiff, Nat.reduceAdd, Nat.reduceSub, Nat.reduceMul, Nat.reduceEqDiff, Nat.reduceBEq, Nat.reduceBNe, Nat.reduceGT] <;> first | done | rfl | (and_intros <;> first | rfl | omega | (simp; done))
          · rw [if_neg h9] at hm
            have h9b : decide ((p1.put.length : Int) > 6000) = false := decide_eq_false h9
            by_cases h11 : (p1.bools.length : Int) > 6000
            · rw [if_pos h11] at hm
              have h11b : decide ((p1.bools.length : Int) > 6000) = true := decide_eq_true h11
              refine W_regF [25, 27, 28, 29, 30, 31, 32, 33, 34, 35, 36, 37, 38, 39, 40, 41, 42, 43, 44, 45, 46, 47] fun k kp hk hp => ?_
              simp only [bR, bT, tab, bX, reduceIte, ↓reduceIte, reduceCtorEq, Int.reduceToNat, Nat.reduceDiv, Nat.reduceMod, Nat.reduceLT, Nat.reduceLeDiff, Nat.reduceAdd, Nat.reduceSub, Nat.reduceMul, Nat.reduceEqDiff, Nat.reduceBEq, Nat.reduceBNe, Nat.reduceGT, h9b, h11b]
              repeat refine ⟨by first | omega | assumption | decide | exact all_len fun _ => rfl | (intro _; omega) | rfl | (and_intros <;> first | omega | assumption | decide | exact all_len fun _ => rfl), ?_⟩
              refine hk _ _ ?_
              clear hk hp k kp
              refine W_condt rfl rfl ?_
              refine W_regF [1, 48, 49] fun k kp hk hp => ?_
              simp only [bR, bT, tab, bX, reduceIte, ↓reduceIte, reduceCtorEq, Int.reduceToNat, Nat.reduceDiv, Nat.reduceMod, Nat.reduceLT, Nat.reduceLeDiff, Nat.reduceAdd, Nat.reduceSub, Nat.reduceMul, Nat.reduceEqDiff, Nat.reduceBEq, Nat.reduceBNe, Nat.reduceGT]
              repeat refine ⟨by first | omega | assumption | decide | exact all_len fun _ => rfl | (intro _; omega) | rfl | (and_intros <;> first | omega | assumption | decide | exact all_len fun _ => rfl), ?_⟩
              obtain ⟨y6, hc12, hm⟩ := bd hm
              refine RunCall_pure (fun _ => ref_F_ok 7 (-1) _ hc12) (by first | trivial | exact dst_ok rfl) (by first | trivial | (intro _; first | trivial | simp [need]) | simp [need]) rfl rfl ?_
              simp only [bR, bT, tab, bX, reduceIte, ↓reduceIte, reduceCtorEq, Int.reduceToNat, Nat.reduceDiv, Nat.reduceMod, Nat.reduceLT, Nat.reduceLeDiff, Nat.reduceAdd, Nat.reduceSub, Nat.reduceMul, Nat.reduceEqDiff, Nat.reduceBEq, Nat.reduceBNe, Nat.reduceGT]
              repeat refine ⟨by first | omega | assumption | decide | exact all_len fun _ => rfl | (intro _; omega) | rfl | (and_intros <;> first | omega | assumption | decide | exact all_len fun _ => rfl), ?_⟩
              refine hk _ _ ?_
              clear hk hp k kp
              refine W_ret ?_
              refine KThen_r ?_
              refine KBody_ret [] ?_
              obtain rfl := Option.some.inj hm
              simp only [bF, bT, tab, bX, reduceIte, ↓reduceIte, reduceCtorEq, Int.reduceToNat, Nat.reduceDiv, Nat.reduceMod, Nat.reduceLT, Nat.reduceLeDiff, Nat.reduceAdd, Nat.reduceSub, Nat.reduceMul, Nat.reduceEqDiff, Nat.reduceBEq, Nat.reduceBNe, Nat.reduceGT] <;> first | done | rfl | (and_intros <;> first | rfl | omega | (simp; done))
            · rw [if_neg h11] at hm
              have h11b : decide ((p1.bools.length : Int) > 6000) = false := decide_eq_false h11
              by_cases h13 : (p1.get.length : Int) > 120000
              · rw [if_pos h13] at hm
                have h13b : decide ((p1.get.length : Int) > 120000) = true := decide_eq_true h13
                refine W_regF [25, 27, 28, 29, 30, 31, 32, 33, 34, 35, 36, 37, 38, 39, 40, 41, 42, 43, 44, 45, 46, 47] fun k kp hk hp => ?_
                simp only [bR, bT, tab, bX, reduceIte, ↓reduceIte, reduceCtorEq, Int.reduceToNat, Nat.reduceDiv, Nat.reduceMod, Nat.reduceLT, Nat.reduceLeDiff, Nat.reduceAdd, Nat.reduceSub, Nat.reduceMul, Nat.reduceEqDiff, Nat.reduceBEq, Nat.reduceBNe, Nat.reduceGT, h9b, h11b, h13b]
                repeat refine ⟨by first | omega | assumption | decide | exact all_len fun _ => rfl | (intro _; omega) | rfl | (and_intros <;> first | omega | assumption | decide | exact all_len fun _ => rfl), ?_⟩
                refine hk _ _ ?_
                clear hk hp k kp
                refine W_condt rfl rfl ?_
                refine W_regF [1, 48, 49] fun k kp hk hp => ?_
                simp only [bR, bT, tab, bX, reduceIte, ↓reduceIte, reduceCtorEq, Int.reduceToNat, Nat.reduceDiv, Nat.reduceMod, Nat.reduceLT, Nat.reduceLeDiff, Nat.reduceAdd, Nat.reduceSub, Nat.reduceMul, Nat.reduceEqDiff, Nat.reduceBEq, Nat.reduceBNe, Nat.reduceGT]
                repeat refine ⟨by first | omega | assumption | decide | exact all_len fun _ => rfl | (intro _; omega) | rfl | (and_intros <;> first | omega | assumption | decide | exact all_len fun _ => rfl), ?_⟩
                obtain ⟨y7, hc14, hm⟩ := bd hm
                refine RunCall_pure (fun _ => ref_F_ok 7 (-1) _ hc14) (by first | trivial | exact dst_ok rfl) (by first | trivial | (intro _; first | trivial | simp [need]) | simp [need]) rfl rfl ?_
                simp only [bR, bT, tab, bX, reduceIte, ↓reduceIte, reduceCtorEq, Int.reduceToNat, Nat.reduceDiv, Nat.reduceMod, Nat.reduceLT, Nat.reduceLeDiff, Nat.reduceAdd, Nat.reduceSub, Nat.reduceMul, Nat.reduceEqDiff, Nat.reduceBEq, Nat.reduceBNe, Nat.reduceGT]
                repeat refine ⟨by first | omega | assumption | decide | exact all_len fun _ => rfl | (intro _; omega) | rfl | (and_intros <;> first | omega | assumption | decide | exact all_len fun _ => rfl), ?_⟩
                refine hk _ _ ?_
                clear hk hp k kp
                refine W_ret ?_
                refine KThen_r ?_
                refine KBody_ret [] ?_
                obtain rfl := Option.some.inj hm
                simp only [bF, bT, tab, bX, reduceIte, ↓reduceIte, reduceCtorEq, Int.reduceToNat, Nat.reduceDiv, Nat.reduceMod, Nat.reduceLT, Nat.reduceLeDiff, Nat.reduceAdd, Nat.reduceSub, Nat.reduceMul, Nat.reduceEqDiff, Nat.reduceBEq, Nat.reduceBNe, Nat.reduceGT] <;> first | done | rfl | (and_intros <;> first | rfl | omega | (simp; done))
              · rw [if_neg h13] at hm
                have h13b : decide ((p1.get.length : Int) > 120000) = false := decide_eq_false h13
                refine W_regF [25, 27, 28, 29, 30, 31, 32, 33, 34, 35, 36, 37, 38, 39, 40, 41, 42, 43, 44, 45, 46, 47] fun k kp hk hp => ?_
                simp only [bR, bT, tab, bX, reduceIte, ↓reduceIte, reduceCtorEq, Int.reduceToNat, Nat.reduceDiv, Nat.reduceMod, Nat.reduceLT, Nat.reduceLeDiff, Nat.reduceAdd, Nat.reduceSub, Nat.reduceMul, Nat.reduceEqDiff, Nat.reduceBEq, Nat.reduceBNe, Nat.reduceGT, h9b, h11b, h13b]
                repeat refine ⟨by first | omega | assumption | decide | exact all_len fun _ => rfl | (intro _; omega) | rfl | (and_intros <;> first | omega | assumption | decide | exact all_len fun _ => rfl), ?_⟩
                refine hk _ _ ?_
                clear hk hp k kp
                by_cases h15 : (p1.code.length : Int) > 200000
                · rw [if_pos h15] at hm
                  refine W_condt rfl (decide_eq_true h15) ?_
                  refine W_regF [1, 48, 49] fun k kp hk hp => ?_
                  simp only [bR, bT, tab, bX, reduceIte, ↓reduceIte, reduceCtorEq, Int.reduceToNat, Nat.reduceDiv, Nat.reduceMod, Nat.reduceLT, Nat.reduceLeDiff, Nat.reduceAdd, Nat.reduceSub, Nat.reduceMul, Nat.reduceEqDiff, Nat.reduceBEq, Nat.reduceBNe, Nat.reduceGT]
                  repeat refine ⟨by first | omega | assumption | decide | exact all_len fun _ => rfl | (intro _; omega) | rfl | (and_intros <;> first | omega | assumption | decide | exact all_len fun _ => rfl), ?_⟩
                  obtain ⟨y8, hc16, hm⟩ := bd hm
                  refine RunCall_pure (fun _ => ref_F_ok 7 (-1) _ hc16) (by first | trivial | exact dst_ok rfl) (by first | trivial | (intro _; first | trivial | simp [need]) | simp [need]) rfl rfl ?_
                  simp only [bR, bT, tab, bX, reduceIte, ↓reduceIte, reduceCtorEq, Int.reduceToNat, Nat.reduceDiv, Nat.reduceMod, Nat.reduceLT, Nat.reduceLeDiff, Nat.reduceAdd, Nat.reduceSub, Nat.reduceMul, Nat.reduceEqDiff, Nat.reduceBEq, Nat.reduceBNe, Nat.reduceGT]
                  repeat refine ⟨by first | omega | assumption | decide | exact all_len fun _ => rfl | (intro _; omega) | rfl | (and_intros <;> first | omega | assumption | decide | exact all_len fun _ => rfl), ?_⟩
                  refine hk _ _ ?_
                  clear hk hp k kp
                  refine W_ret ?_
                  refine KThen_r ?_
                  refine KBody_ret [] ?_
                  obtain rfl := Option.some.inj hm
                  simp only [bF, bT, tab, bX, reduceIte, ↓reduceIte, reduceCtorEq, Int.reduceToNat, Nat.reduceDiv, Nat.reduceMod, Nat.reduceLT, Nat.reduceLeDiff, Nat.reduceAdd, Nat.reduceSub, Nat.reduceMul, Nat.reduceEqDiff, Nat.reduceBEq, Nat.reduceBNe, Nat.reduceGT] <;> first | done | rfl | (and_intros <;> first | rfl | omega | (simp; done))
                · rw [if_neg h15] at hm
                  refine W_condf rfl (decide_eq_false h15) ?_
                  refine W_skip ?_
                  refine KThen_n (hk2 _ _ ?_)
                  refine W_regF [48, 50, 51, 52, 53, 54, 55, 56] fun k kp hk hp => ?_
                  simp only [bR, bT, tab, bX, reduceIte, ↓reduceIte, reduceCtorEq, Int.reduceToNat, Nat.reduceDiv, Nat.reduceMod, Nat.reduceLT, Nat.reduceLeDiff, Nat.reduceAdd, Nat.reduceSub, Nat.reduceMul, Nat.reduceEqDiff, Nat.reduceBEq, Nat.reduceBNe, Nat.reduceGT, List.replicate, List.foldr]
                  repeat refine ⟨by first | omega | assumption | decide | exact all_len fun _ => rfl | (intro _; omega) | rfl | (and_intros <;> first | omega | assumption | decide | exact all_len fun _ => rfl), ?_⟩
                  refine hk _ _ ?_
                  clear hk hp k kp
                  refine W_eqE rfl (show _ = [.box [.int .i64 p1.cells, .int .i64 p1.regs, .int .i64 p1.cost, .tree 1 (p1.put.map (eK .i64)), .tree 1 (p1.bools.map (eK .i64)), .tree 1 (p1.get.map (eK .i64)), .tree 6 (p1.code.map TIns.enc)], .box [.int .i64 0, .int .i64 0], .arr 1 0 22 ((lit ([p1.put, p1.bools, p1.get] : List (List Int))).map (eL 1 (eK .i64)))] from by first | rfl | (simp only [List.take_of_length_le, List.length_map, List.length_append, List.length_cons, List.length_nil, List.length_replicate, List.length_set, List.map_append, List.map_cons, List.map_nil, List.map_replicate, List.map_set, Nat.le_refl, Nat.zero_add, List.nil_append, List.set_cons_zero, List.set_cons_succ, bX, eK, eB, eS, eL]; done) | (simp only [List.take_of_length_le, List.length_map, List.length_append, List.length_cons, List.length_nil, List.length_replicate, List.length_set, List.map_append, List.map_cons, List.map_nil, List.map_replicate, List.map_set, Nat.le_refl, Nat.zero_add, List.nil_append, List.set_cons_zero, List.set_cons_succ, bX, eK, eB, eS, eL]; rfl) | (simp; done)) ?_
                  refine W_joinM (S := Unit) (V := Unit) [3, 4, 5, 57, 58, 59, 60, 61, 62, 63, 64, 65, 66, 67, 68, 69, 70, 71, 72, 73, 74, 75, 76, 77, 78, 79, 80, 81, 82, 83, 84, 85, 86, 87, 88, 89, 90] (fun _ _ => []) (fun _ _ => [.box [.int .i64 p1.cells, .int .i64 p1.regs, .int .i64 p1.cost, .tree 1 (p1.put.map (eK .i64)), .tree 1 (p1.bools.map (eK .i64)), .tree 1 (p1.get.map (eK .i64)), .tree 6 (p1.code.map TIns.enc)], .box [.int .i64 0, .int .i64 0], .arr 1 0 22 ((lit ([p1.put, p1.bools, p1.get] : List (List Int))).map (eL 1 (eK .i64)))]) (fun _ => ref_ImageFault_j1 p1 = some r) ?_ ?_
                  · skip
                    refine W_regF [] fun k kp hk hp => ?_
                    simp only [bR, bT, tab, bX, reduceIte, ↓reduceIte, reduceCtorEq, Int.reduceToNat, Nat.reduceDiv, Nat.reduceMod, Nat.reduceLT, Nat.reduceLeDiff, Nat.reduceAdd, Nat.reduceSub, Nat.reduceMul, Nat.reduceEqDiff, Nat.reduceBEq, Nat.reduceBNe, Nat.reduceGT]
                    repeat refine ⟨by first | omega | assumption | decide | exact all_len fun _ => rfl | (intro _; omega) | rfl | (and_intros <;> first | omega | assumption | decide | exact all_len fun _ => rfl), ?_⟩
                    refine hk _ _ ?_
                    clear hk hp k kp
                    refine W_block ?_
                    obtain ⟨o2, hl2, hm2⟩ := bd hm
                    refine W_loopM (S := Int) (V := Unit) (O := Unit ⊕ TFault) [4, 5, 57, 58, 59, 60, 61, 62, 63, 64, 65, 66, 67, 68, 69, 70, 71, 72, 73, 74, 75, 76, 77, 78, 79, 80, 81, 82, 83, 84, 85, 86, 87, 88, 89, 90] (fun x20 _ => [(4, .c (.int .i64 x20))]) (fun x20 _ => [.box [.int .i64 p1.cells, .int .i64 p1.regs, .int .i64 p1.cost, .tree 1 (p1.put.map (eK .i64)), .tree 1 (p1.bools.map (eK .i64)), .tree 1 (p1.get.map (eK .i64)), .tree 6 (p1.code.map TIns.enc)], .box [.int .i64 0, .int .i64 0], .arr 1 0 22 ((lit ([p1.put, p1.bools, p1.get] : List (List Int))).map (eL 1 (eK .i64)))]) _ _ () hl2 ?_ ?_
                    · simp only [bS, bX, reduceIte, ↓reduceIte, reduceCtorEq, Int.reduceToNat, Nat.reduceDiv, Nat.reduceMod, Nat.reduceLT, Nat.reduceLeDiff, Nat.reduceAdd, Nat.reduceSub, Nat.reduceMul, Nat.reduceEqDiff, Nat.reduceBEq, Nat.reduceBNe, Nat.reduceGT] <;> first | done | (and_intros <;> first | rfl | (simp; done) | omega | done)
                    · rintro x20 _ r2 hm hr2
                      replace hm : ref_ImageFault_l2 p1 x20 = some r2 := hm
                      refine W_eqE (by simp only [bE, Nat.reduceDiv, Nat.reduceMod, Nat.reduceLT, Nat.reduceLeDiff, Nat.reduceAdd, Nat.reduceSub, Nat.reduceMul, Nat.reduceEqDiff, Nat.reduceBEq, Nat.reduceBNe, Nat.reduceGT, Int.reduceToNat]; rfl) (by first | (dsimp only; rfl) | rfl) ?_
                      unfold ref_ImageFault_l2 at hm
                      refine W_seq_k fun k6 hk6 => ?_
                      refine W_regF [57] fun k kp hk hp => ?_
                      simp only [bR, bT, tab, bX, reduceIte, ↓reduceIte, reduceCtorEq, Int.reduceToNat, Nat.reduceDiv, Nat.reduceMod, Nat.reduceLT, Nat.reduceLeDiff, Nat.reduceAdd, Nat.reduceSub, Nat.reduceMul, Nat.reduceEqDiff, Nat.reduceBEq, Nat.reduceBNe, Nat.reduceGT]
                      repeat refine ⟨by first | omega | assumption | decide | exact all_len fun _ => rfl | (intro _; omega) | rfl | (and_intros <;> first | omega | assumption | decide | exact all_len fun _ => rfl), ?_⟩
                      refine hk _ _ ?_
                      clear hk hp k kp
                      by_cases h30 : x20 < 3
                      · rw [if_pos h30] at hm
                        refine W_condt rfl (decide_eq_true h30) ?_
                        refine W_skip ?_
                        refine KThen_n (hk6 _ _ ?_)
                        refine W_joinM (S := Unit) (V := Unit) [5, 58, 61, 62, 63, 64, 65, 66, 67, 68, 69, 70, 71, 72, 73, 74, 75, 76, 77, 78, 79, 80, 81, 82, 83, 84, 85, 86, 87, 88, 89, 90] (fun _ _ => []) (fun _ _ => [.box [.int .i64 p1.cells, .int .i64 p1.regs, .int .i64 p1.cost, .tree 1 (p1.put.map (eK .i64)), .tree 1 (p1.bools.map (eK .i64)), .tree 1 (p1.get.map (eK .i64)), .tree 6 (p1.code.map TIns.enc)], .box [.int .i64 0, .int .i64 0], .arr 1 0 22 ((lit ([p1.put, p1.bools, p1.get] : List (List Int))).map (eL 1 (eK .i64)))]) (fun _ => ref_ImageFault_j3 x20 = some r2) ?_ ?_
                        · skip
                          refine W_block ?_
                          refine W_regF [58] fun k kp hk hp => ?_
                          simp only [bR, bT, tab, bX, reduceIte, ↓reduceIte, reduceCtorEq, Int.reduceToNat, Nat.reduceDiv, Nat.reduceMod, Nat.reduceLT, Nat.reduceLeDiff, Nat.reduceAdd, Nat.reduceSub, Nat.reduceMul, Nat.reduceEqDiff, Nat.reduceBEq, Nat.reduceBNe, Nat.reduceGT]
                          repeat refine ⟨by first | omega | assumption | decide | exact all_len fun _ => rfl | (intro _; omega) | rfl | (and_intros <;> first | omega | assumption | decide | exact all_len fun _ => rfl), ?_⟩
                          refine hk _ _ ?_
                          clear hk hp k kp
                          refine W_block ?_
                          obtain ⟨o3, hl3, hm3⟩ := bd hm
                          refine W_loopM (S := Int) (V := Unit) (O := Unit ⊕ TFault) [5, 61, 62, 63, 64, 65, 66, 67, 68, 69, 70, 71, 72, 73, 74, 75, 76, 77, 78, 79, 80, 81, 82, 83, 84, 85, 86, 87, 88, 89, 90] (fun x23 _ => [(5, .c (.int .i64 x23))]) (fun x23 _ => [.box [.int .i64 p1.cells, .int .i64 p1.regs, .int .i64 p1.cost, .tree 1 (p1.put.map (eK .i64)), .tree 1 (p1.bools.map (eK .i64)), .tree 1 (p1.get.map (eK .i64)), .tree 6 (p1.code.map TIns.enc)], .box [.int .i64 0, .int .i64 0], .arr 1 0 22 ((lit ([p1.put, p1.bools, p1.get] : List (List Int))).map (eL 1 (eK .i64)))]) _ _ () hl3 ?_ ?_
                          · simp only [bS, bX, reduceIte, ↓reduceIte, reduceCtorEq, Int.reduceToNat, Nat.reduceDiv, Nat.reduceMod, Nat.reduceLT, Nat.reduceLeDiff, Nat.reduceAdd, Nat.reduceSub, Nat.reduceMul, Nat.reduceEqDiff, Nat.reduceBEq, Nat.reduceBNe, Nat.reduceGT] <;> first | done | (and_intros <;> first | rfl | (simp; done) | omega | done)
                          · rintro x23 _ r3 hm hr3
                            replace hm : ref_ImageFault_l3 p1 x20 x23 = some r3 := hm
                            refine W_eqE (by simp only [bE, Nat.reduceDiv, Nat.reduceMod, Nat.reduceLT, Nat.reduceLeDiff, Nat.reduceAdd, Nat.reduceSub, Nat.reduceMul, Nat.reduceEqDiff, Nat.reduceBEq, Nat.reduceBNe, Nat.reduceGT, Int.reduceToNat]; rfl) (by first | (dsimp only; rfl) | rfl) ?_
                            unfold ref_ImageFault_l3 at hm
                            refine W_seq_k fun k7 hk7 => ?_
                            obtain ⟨hg31a, hm⟩ := gd hm
                            refine W_regF [61, 62, 63, 64, 65, 66] fun k kp hk hp => ?_
                            simp only [bR, bT, tab, bX, reduceIte, ↓reduceIte, reduceCtorEq, Int.reduceToNat, Nat.reduceDiv, Nat.reduceMod, Nat.reduceLT, Nat.reduceLeDiff, Nat.reduceAdd, Nat.reduceSub, Nat.reduceMul, Nat.reduceEqDiff, Nat.reduceBEq, Nat.reduceBNe, Nat.reduceGT, elt_map (eL 1 (eK .i64)) (lit ([p1.put, p1.bools, p1.get] : List (List Int))) x20.toNat (by first | omega | (simp only [len_lit, List.length_cons, List.length_nil, List.length_append, List.length_set, List.length_replicate, List.length_map, List.length_take, List.length_drop]; omega))]
                            repeat refine ⟨by first | omega | assumption | decide | exact all_len fun _ => rfl | (intro _; omega) | rfl | (and_intros <;> first | omega | assumption | decide | exact all_len fun _ => rfl), ?_⟩
                            refine hk _ _ ?_
                            clear hk hp k kp
                            by_cases h32 : x23 < (((lit ([p1.put, p1.bools, p1.get] : List (List Int))).getD x20.toNat default).length : Int)
                            · rw [if_pos h32] at hm
                              refine W_condt rfl (decide_eq_true h32) ?_
                              refine W_skip ?_
                              refine KThen_n (hk7 _ _ ?_)
                              refine W_seq_k fun k8 hk8 => ?_
                              refine W_block ?_
                              by_cases h33 : (((lit ([p1.put, p1.bools, p1.get] : List (List Int))).getD x20.toNat default).getD x23.toNat default) < 0
                              · rw [if_pos h33] at hm
                                have h33b : decide ((((lit ([p1.put, p1.bools, p1.get] : List (List Int))).getD x20.toNat default).getD x23.toNat default) < 0) = true := decide_eq_true h33
                                obtain ⟨hg34a, hm⟩ := gd hm
                                refine W_anyF [67, 70, 71, 72, 73, 74, 75, 76, 77, 78, 79, 80, 81, 82, 83, 84, 85, 86, 87, 88] (by kernel_rfl) [0, 0, 3, 7, 0, 31, 63, 127, 255, 511, 511, 2047, 4095, 511, 16383, 32767, 511, 66047, 262143, 524287] [false, false, false, false, false, true, true, true, true, false, false, false, false, false, false, false, false, false, true, true] (by kernel_rfl) fun k hk => ?_
                                simp only [bA, bT, tab, bX, reduceIte, ↓reduceIte, reduceCtorEq, Int.reduceToNat, Nat.reduceDiv, Nat.reduceMod, Nat.reduceLT, Nat.reduceLeDiff, Nat.reduceAdd, Nat.reduceSub, Nat.reduceMul, Nat.reduceEqDiff, Nat.reduceBEq, Nat.reduceBNe, Nat.reduceGT, elt_map (eL 1 (eK .i64)) (lit ([p1.put, p1.bools, p1.get] : List (List Int))) x20.toNat (by first | omega | (simp only [len_lit, List.length_cons, List.length_nil, List.length_append, List.length_set, List.length_replicate, List.length_map, List.length_take, List.length_drop]; omega)), elt_map (eK .i64) ((lit ([p1.put, p1.bools, p1.get] : List (List Int))).getD x20.toNat default) x23.toNat (by first | omega | (simp only [len_lit, List.length_cons, List.length_nil, List.length_append, List.length_set, List.length_replicate, List.length_map, List.length_take, List.length_drop]; omega)), h33b]
                                repeat refine ⟨by first | omega | assumption | decide | exact all_len fun _ => rfl | (intro _; omega) | rfl | (and_intros <;> first | omega | assumption | decide | exact all_len fun _ => rfl), ?_⟩
                                refine hk _ _ ?_
                                clear hk k
                                refine W_condt rfl rfl ?_
                                refine W_regF [1, 3, 4, 5, 89, 90] fun k kp hk hp => ?_
                                simp only [bR, bT, tab, bX, reduceIte, ↓reduceIte, reduceCtorEq, Int.reduceToNat, Nat.reduceDiv, Nat.reduceMod, Nat.reduceLT, Nat.reduceLeDiff, Nat.reduceAdd, Nat.reduceSub, Nat.reduceMul, Nat.reduceEqDiff, Nat.reduceBEq, Nat.reduceBNe, Nat.reduceGT]
                                repeat refine ⟨by first | omega | assumption | decide | exact all_len fun _ => rfl | (intro _; omega) | rfl | (and_intros <;> first | omega | assumption | decide | exact all_len fun _ => rfl), ?_⟩
                                obtain ⟨y24, hc35, hm⟩ := bd hm
                                refine RunCall_pure (fun _ => ref_F_ok 16 (-1) _ hc35) (by first | trivial | exact dst_ok rfl) (by first | trivial | (intro _; first | trivial | simp [need]) | simp [need]) rfl rfl ?_
                                simp only [bR, bT, tab, bX, reduceIte, ↓reduceIte, reduceCtorEq, Int.reduceToNat, Nat.reduceDiv, Nat.reduceMod, Nat.reduceLT, Nat.reduceLeDiff, Nat.reduceAdd, Nat.reduceSub, Nat.reduceMul, Nat.reduceEqDiff, Nat.reduceBEq, Nat.reduceBNe, Nat.reduceGT]
                                repeat refine ⟨by first | omega | assumption | decide | exact all_len fun _ => rfl | (intro _; omega) | rfl | (and_intros <;> first | omega | assumption | decide | exact all_len fun _ => rfl), ?_⟩
                                refine hk _ _ ?_
                                clear hk hp k kp
                                have ho36 := out_eq hm hr3
                                subst ho36
                                replace hm : some (.inr (.inr (y24))) = some r2 := hm3
                                have ho37 := out_eq hm hr2
                                subst ho37
                                replace hm : some (y24) = some r := hm2
                                refine W_ret ?_
                                refine KBlock_r ?_
                                refine KThen_r ?_
                                refine KLoopM_r ?_
                                refine KBlock_r ?_
                                refine KBlock_r ?_
                                refine KJoinM_r ?_
                                refine KLoopM_r ?_
                                refine KBlock_r ?_
                                refine KJoinM_r ?_
                                refine KBody_ret [] ?_
                                obtain rfl := Option.some.inj hm
                                simp only [bF, bT, tab, bX, reduceIte, ↓reduceIte, reduceCtorEq, Int.reduceToNat, Nat.reduceDiv, Nat.reduceMod, Nat.reduceLT, Nat.reduceLeDiff, Nat.reduceAdd, Nat.reduceSub, Nat.reduceMul, Nat.reduceEqDiff, Nat.reduceBEq, Nat.reduceBNe, Nat.reduceGT] <;> first | done | rfl | (and_intros <;> first | rfl | omega | (simp; done))
                              · rw [if_neg h33] at hm
                                have h33b : decide ((((lit ([p1.put, p1.bools, p1.get] : List (List Int))).getD x20.toNat default).getD x23.toNat default) < 0) = false := decide_eq_false h33
                                obtain ⟨hg38a, hm⟩ := gd hm
                                refine W_anyF [67, 70, 71, 72, 73, 74, 75, 76, 77, 78, 79, 80, 81, 82, 83, 84, 85, 86, 87, 88] (by kernel_rfl) [0, 0, 3, 7, 0, 31, 63, 127, 255, 511, 511, 2047, 4095, 511, 16383, 32767, 511, 66047, 262143, 524287] [false, false, false, false, false, true, true, true, true, false, false, false, false, false, false, false, false, false, true, true] (by kernel_rfl) fun k hk => ?_
                                simp only [bA, bT, tab, bX, reduceIte, ↓reduceIte, reduceCtorEq, Int.reduceToNat, Nat.reduceDiv, Nat.reduceMod, Nat.reduceLT, Nat.reduceLeDiff, Nat.reduceAdd, Nat.reduceSub, Nat.reduceMul, Nat.reduceEqDiff, Nat.reduceBEq, Nat.reduceBNe, Nat.reduceGT, elt_map (eL 1 (eK .i64)) (lit ([p1.put, p1.bools, p1.get] : List (List Int))) x20.toNat (by first | omega | (simp only [len_lit, List.length_cons, List.length_nil, List.length_append, List.length_set, List.length_replicate, List.length_map, List.length_take, List.length_drop]; omega)), elt_map (eK .i64) ((lit ([p1.put, p1.bools, p1.get] : List (List Int))).getD x20.toNat default) x23.toNat (by first | omega | (simp only [len_lit, List.length_cons, List.length_nil, List.length_append, List.length_set, List.length_replicate, List.length_map, List.length_take, List.length_drop]; omega)), h33b]
                                repeat refine ⟨by first | omega | assumption | decide | exact all_len fun _ => rfl | (intro _; omega) | rfl | (and_intros <;> first | omega | assumption | decide | exact all_len fun _ => rfl), ?_⟩
                                refine hk _ _ ?_
                                clear hk k
                                by_cases h39 : (((lit ([p1.put, p1.bools, p1.get] : List (List Int))).getD x20.toNat default).getD x23.toNat default) ≥ p1.cells
                                · rw [if_pos h39] at hm
                                  refine W_condt rfl (decide_eq_true h39) ?_
                                  refine W_regF [1, 3, 4, 5, 89, 90] fun k kp hk hp => ?_
                                  simp only [bR, bT, tab, bX, reduceIte, ↓reduceIte, reduceCtorEq, Int.reduceToNat, Nat.reduceDiv, Nat.reduceMod, Nat.reduceLT, Nat.reduceLeDiff, Nat.reduceAdd, Nat.reduceSub, Nat.reduceMul, Nat.reduceEqDiff, Nat.reduceBEq, Nat.reduceBNe, Nat.reduceGT]
                                  repeat refine ⟨by first | omega | assumption | decide | exact all_len fun _ => rfl | (intro _; omega) | rfl | (and_intros <;> first | omega | assumption | decide | exact all_len fun _ => rfl), ?_⟩
                                  obtain ⟨y25, hc40, hm⟩ := bd hm
                                  refine RunCall_pure (fun _ => ref_F_ok 16 (-1) _ hc40) (by first | trivial | exact dst_ok rfl) (by first | trivial | (intro _; first | trivial | simp [need]) | simp [need]) rfl rfl ?_
                                  simp only [bR, bT, tab, bX, reduceIte, ↓reduceIte, reduceCtorEq, Int.reduceToNat, Nat.reduceDiv, Nat.reduceMod, Nat.reduceLT, Nat.reduceLeDiff, Nat.reduceAdd, Nat.reduceSub, Nat.reduceMul, Nat.reduceEqDiff, Nat.reduceBEq, Nat.reduceBNe, Nat.reduceGT]
                                  repeat refine ⟨by first | omega | assumption | decide | exact all_len fun _ => rfl | (intro _; omega) | rfl | (and_intros <;> first | omega | assumption | decide | exact all_len fun _ => rfl), ?_⟩
                                  refine hk _ _ ?_
                                  clear hk hp k kp
                                  have ho41 := out_eq hm hr3
                                  subst ho41
                                  replace hm : some (.inr (.inr (y25))) = some r2 := hm3
                                  have ho42 := out_eq hm hr2
                                  subst ho42
                                  replace hm : some (y25) = some r := hm2
                                  refine W_ret ?_
                                  refine KBlock_r ?_
                                  refine KThen_r ?_
                                  refine KLoopM_r ?_
                                  refine KBlock_r ?_
                                  refine KBlock_r ?_
                                  refine KJoinM_r ?_
                                  refine KLoopM_r ?_
                                  refine KBlock_r ?_
                                  refine KJoinM_r ?_
                                  refine KBody_ret [] ?_
                                  obtain rfl := Option.some.inj hm
                                  simp only [bF, bT, tab, bX, reduceIte, ↓reduceIte, reduceCtorEq, Int.reduceToNat, Nat.reduceDiv, Nat.reduceMod, Nat.reduceLT, Nat.reduceLeDiff, Nat.reduceAdd, Nat.reduceSub, Nat.reduceMul, Nat.reduceEqDiff, Nat.reduceBEq, Nat.reduceBNe, Nat.reduceGT] <;> first | done | rfl | (and_intros <;> first | rfl | omega | (simp; done))
                                · rw [if_neg h39] at hm
                                  refine W_condf rfl (decide_eq_false h39) ?_
                                  refine W_skip ?_
                                  refine KBlock_n ?_
                                  refine KThen_n (hk8 _ _ ?_)
                                  refine W_region fun k kp hk hp => ?_
                                  simp only [bR, bT, tab, bX, reduceIte, ↓reduceIte, reduceCtorEq, Int.reduceToNat, Nat.reduceDiv, Nat.reduceMod, Nat.reduceLT, Nat.reduceLeDiff, Nat.reduceAdd, Nat.reduceSub, Nat.reduceMul, Nat.reduceEqDiff, Nat.reduceBEq, Nat.reduceBNe, Nat.reduceGT]
                                  repeat refine ⟨by first | omega | assumption | decide | exact all_len fun _ => rfl | (intro _; omega) | rfl | (and_intros <;> first | omega | assumption | decide | exact all_len fun _ => rfl), ?_⟩
                                  refine hk _ _ ?_
                                  clear hk hp k kp
                                  refine KLoopM_n (IntKind.wrap .i64 (x23 + 1)) () hm ?_
                                  simp only [bS, bX, reduceIte, ↓reduceIte, reduceCtorEq, Int.reduceToNat, Nat.reduceDiv, Nat.reduceMod, Nat.reduceLT, Nat.reduceLeDiff, Nat.reduceAdd, Nat.reduceSub, Nat.reduceMul, Nat.reduceEqDiff, Nat.reduceBEq, Nat.reduceBNe, Nat.reduceGT] <;> first | done | (and_intros <;> first | rfl | (simp; done) | omega | done)
                            · rw [if_neg h32] at hm
                              refine W_condf rfl (decide_eq_false h32) ?_
                              refine W_exit ?_
                              have ho43 := out_eq hm hr3
                              subst ho43
                              replace hm : ref_ImageFault_j3 x20 = some r2 := hm3
                              refine KThen_x ?_
                              refine KLoopM_x ?_
                              refine KBlock_hit ?_
                              refine KBlock_n ?_
                              refine KJoinM_n () () hm ?_
                              simp only [bS, bX, reduceIte, ↓reduceIte, reduceCtorEq, Int.reduceToNat, Nat.reduceDiv, Nat.reduceMod, Nat.reduceLT, Nat.reduceLeDiff, Nat.reduceAdd, Nat.reduceSub, Nat.reduceMul, Nat.reduceEqDiff, Nat.reduceBEq, Nat.reduceBNe, Nat.reduceGT] <;> first | done | (and_intros <;> first | rfl | (simp; done) | omega | done)
                        · rintro _ _ hm
                          replace hm : ref_ImageFault_j3 x20 = some r2 := hm
                          refine W_eqE (by simp only [bE, Nat.reduceDiv, Nat.reduceMod, Nat.reduceLT, Nat.reduceLeDiff, Nat.reduceAdd, Nat.reduceSub, Nat.reduceMul, Nat.reduceEqDiff, Nat.reduceBEq, Nat.reduceBNe, Nat.reduceGT, Int.reduceToNat]; rfl) (by first | (dsimp only; rfl) | rfl) ?_
                          unfold ref_ImageFault_j3 at hm
                          refine W_region fun k kp hk hp => ?_
                          simp only [bR, bT, tab, bX, reduceIte, ↓reduceIte, reduceCtorEq, Int.reduceToNat, Nat.reduceDiv, Nat.reduceMod, Nat.reduceLT, Nat.reduceLeDiff, Nat.reduceAdd, Nat.reduceSub, Nat.reduceMul, Nat.reduceEqDiff, Nat.reduceBEq, Nat.reduceBNe, Nat.reduceGT]
                          repeat refine ⟨by first | omega | assumption | decide | exact all_len fun _ => rfl | (intro _; omega) | rfl | (and_intros <;> first | omega | assumption | decide | exact all_len fun _ => rfl), ?_⟩
                          refine hk _ _ ?_
                          clear hk hp k kp
                          refine KLoopM_n (IntKind.wrap .i64 (x20 + 1)) () hm ?_
                          simp only [bS, bX, reduceIte, ↓reduceIte, reduceCtorEq, Int.reduceToNat, Nat.reduceDiv, Nat.reduceMod, Nat.reduceLT, Nat.reduceLeDiff, Nat.reduceAdd, Nat.reduceSub, Nat.reduceMul, Nat.reduceEqDiff, Nat.reduceBEq, Nat.reduceBNe, Nat.reduceGT] <;> first | done | (and_intros <;> first | rfl | (simp; done) | omega | done)
                      · rw [if_neg h30] at hm
                        refine W_condf rfl (decide_eq_false h30) ?_
                        refine W_exit ?_
                        have ho44 := out_eq hm hr2
                        subst ho44
                        replace hm : ref_ImageFault_j1 p1 = some r := hm2
                        refine KThen_x ?_
                        refine KLoopM_x ?_
                        refine KBlock_hit ?_
                        refine KJoinM_n () () hm ?_
                        simp only [bS, bX, reduceIte, ↓reduceIte, reduceCtorEq, Int.reduceToNat, Nat.reduceDiv, Nat.reduceMod, Nat.reduceLT, Nat.reduceLeDiff, Nat.reduceAdd, Nat.reduceSub, Nat.reduceMul, Nat.reduceEqDiff, Nat.reduceBEq, Nat.reduceBNe, Nat.reduceGT] <;> first | done | (and_intros <;> first | rfl | (simp; done) | omega | done)
                  · rintro _ _ hm
                    replace hm : ref_ImageFault_j1 p1 = some r := hm
                    refine W_eqE (by simp only [bE, Nat.reduceDiv, Nat.reduceMod, Nat.reduceLT, Nat.reduceLeDiff, Nat.reduceAdd, Nat.reduceSub, Nat.reduceMul, Nat.reduceEqDiff, Nat.reduceBEq, Nat.reduceBNe, Nat.reduceGT, Int.reduceToNat]; rfl) (by first | (dsimp only; rfl) | rfl) ?_
                    unfold ref_ImageFault_j1 at hm
                    refine W_joinM (S := Unit) (V := Unit) [6, 91, 92, 93, 94, 95, 96, 97, 98, 99, 100, 101, 102, 103, 104, 105, 106, 107] (fun _ _ => []) (fun _ _ => [.box [.int .i64 p1.cells, .int .i64 p1.regs, .int .i64 p1.cost, .tree 1 (p1.put.map (eK .i64)), .tree 1 (p1.bools.map (eK .i64)), .tree 1 (p1.get.map (eK .i64)), .tree 6 (p1.code.map TIns.enc)], .box [.int .i64 0, .int .i64 0], .arr 1 0 22 ((lit ([p1.put, p1.bools, p1.get] : List (List Int))).map (eL 1 (eK .i64)))]) (fun _ => ref_ImageFault_j2 p1 = some r) ?_ ?_
                    · skip
                      refine W_regF [] fun k kp hk hp => ?_
                      simp only [bR, bT, tab, bX, reduceIte, ↓reduceIte, reduceCtorEq, Int.reduceToNat, Nat.reduceDiv, Nat.reduceMod, Nat.reduceLT, Nat.reduceLeDiff, Nat.reduceAdd, Nat.reduceSub, Nat.reduceMul, Nat.reduceEqDiff, Nat.reduceBEq, Nat.reduceBNe, Nat.reduceGT]
                      repeat refine ⟨by first | omega | assumption | decide | exact all_len fun _ => rfl | (intro _; omega) | rfl | (and_intros <;> first | omega | assumption | decide | exact all_len fun _ => rfl), ?_⟩
                      refine hk _ _ ?_
                      clear hk hp k kp
                      refine W_block ?_
                      obtain ⟨o1, hl1, hm1⟩ := bd hm
                      refine W_loopM (S := Int) (V := Unit) (O := Unit ⊕ TFault) [6, 91, 92, 93, 94, 95, 96, 97, 98, 99, 100, 101, 102, 103, 104, 105, 106, 107] (fun x14 _ => [(6, .c (.int .i64 x14))]) (fun x14 _ => [.box [.int .i64 p1.cells, .int .i64 p1.regs, .int .i64 p1.cost, .tree 1 (p1.put.map (eK .i64)), .tree 1 (p1.bools.map (eK .i64)), .tree 1 (p1.get.map (eK .i64)), .tree 6 (p1.code.map TIns.enc)], .box [.int .i64 0, .int .i64 0], .arr 1 0 22 ((lit ([p1.put, p1.bools, p1.get] : List (List Int))).map (eL 1 (eK .i64)))]) _ _ () hl1 ?_ ?_
                      · simp only [bS, bX, reduceIte, ↓reduceIte, reduceCtorEq, Int.reduceToNat, Nat.reduceDiv, Nat.reduceMod, Nat.reduceLT, Nat.reduceLeDiff, Nat.reduceAdd, Nat.reduceSub, Nat.reduceMul, Nat.reduceEqDiff, Nat.reduceBEq, Nat.reduceBNe, Nat.reduceGT] <;> first | done | (and_intros <;> first | rfl | (simp; done) | omega | done)
                      · rintro x14 _ r1 hm hr1
                        replace hm : ref_ImageFault_l1 p1 x14 = some r1 := hm
                        refine W_eqE (by simp only [bE, Nat.reduceDiv, Nat.reduceMod, Nat.reduceLT, Nat.reduceLeDiff, Nat.reduceAdd, Nat.reduceSub, Nat.reduceMul, Nat.reduceEqDiff, Nat.reduceBEq, Nat.reduceBNe, Nat.reduceGT, Int.reduceToNat]; rfl) (by first | (dsimp only; rfl) | rfl) ?_
                        unfold ref_ImageFault_l1 at hm
                        refine W_seq_k fun k4 hk4 => ?_
                        refine W_regF [91, 92, 93, 94] fun k kp hk hp => ?_
                        simp only [bR, bT, tab, bX, reduceIte, ↓reduceIte, reduceCtorEq, Int.reduceToNat, Nat.reduceDiv, Nat.reduceMod, Nat.reduceLT, Nat.reduceLeDiff, Nat.reduceAdd, Nat.reduceSub, Nat.reduceMul, Nat.reduceEqDiff, Nat.reduceBEq, Nat.reduceBNe, Nat.reduceGT]
                        repeat refine ⟨by first | omega | assumption | decide | exact all_len fun _ => rfl | (intro _; omega) | rfl | (and_intros <;> first | omega | assumption | decide | exact all_len fun _ => rfl), ?_⟩
                        refine hk _ _ ?_
                        clear hk hp k kp
                        by_cases h23 : x14 < (p1.code.length : Int)
                        · rw [if_pos h23] at hm
                          refine W_condt rfl (decide_eq_true h23) ?_
                          refine W_skip ?_
                          refine KThen_n (hk4 _ _ ?_)
                          refine W_seq_k fun k5 hk5 => ?_
                          refine W_block ?_
                          obtain ⟨hg24a, hm⟩ := gd hm
                          refine W_anyF [95, 98, 99, 100, 101, 102, 103, 104] (by kernel_rfl) [0, 0, 2, 0, 14, 30, 63, 127] [false, false, false, false, false, false, true, true] (by kernel_rfl) fun k hk => ?_
                          simp only [bA, bT, tab, bX, reduceIte, ↓reduceIte, reduceCtorEq, Int.reduceToNat, Nat.reduceDiv, Nat.reduceMod, Nat.reduceLT, Nat.reduceLeDiff, Nat.reduceAdd, Nat.reduceSub, Nat.reduceMul, Nat.reduceEqDiff, Nat.reduceBEq, Nat.reduceBNe, Nat.reduceGT, elt_map TIns.enc p1.code x14.toNat (by first | omega | (simp only [len_lit, List.length_cons, List.length_nil, List.length_append, List.length_set, List.length_replicate, List.length_map, List.length_take, List.length_drop]; omega))]
                          repeat refine ⟨by first | omega | assumption | decide | exact all_len fun _ => rfl | (intro _; omega) | rfl | (and_intros <;> first | omega | assumption | decide | exact all_len fun _ => rfl), ?_⟩
                          obtain ⟨y15, hc25, hm⟩ := bd hm
                          refine AnyCall_pure (fun _ => ref_insOK_ok p1 (p1.code.getD x14.toNat default) _ hc25) (by first | trivial | exact dst_ok rfl) (by first | trivial | (intro _; first | trivial | simp [need]) | simp [need]) rfl (fun _ => rfl) ?_
                          simp only [bA, bT, tab, bX, reduceIte, ↓reduceIte, reduceCtorEq, Int.reduceToNat, Nat.reduceDiv, Nat.reduceMod, Nat.reduceLT, Nat.reduceLeDiff, Nat.reduceAdd, Nat.reduceSub, Nat.reduceMul, Nat.reduceEqDiff, Nat.reduceBEq, Nat.reduceBNe, Nat.reduceGT]
                          repeat refine ⟨by first | omega | assumption | decide | exact all_len fun _ => rfl | (intro _; omega) | rfl | (and_intros <;> first | omega | assumption | decide | exact all_len fun _ => rfl), ?_⟩
                          refine hk _ _ ?_
                          clear hk k
                          by_cases h26 : y15 = true
                          · rw [if_pos h26] at hm
                            refine W_condf rfl (by rw [show y15 = true from (h26)]; rfl) ?_
                            refine W_skip ?_
                            refine KBlock_n ?_
                            refine KThen_n (hk5 _ _ ?_)
                            refine W_region fun k kp hk hp => ?_
                            simp only [bR, bT, tab, bX, reduceIte, ↓reduceIte, reduceCtorEq, Int.reduceToNat, Nat.reduceDiv, Nat.reduceMod, Nat.reduceLT, Nat.reduceLeDiff, Nat.reduceAdd, Nat.reduceSub, Nat.reduceMul, Nat.reduceEqDiff, Nat.reduceBEq, Nat.reduceBNe, Nat.reduceGT]
                            repeat refine ⟨by first | omega | assumption | decide | exact all_len fun _ => rfl | (intro _; omega) | rfl | (and_intros <;> first | omega | assumption | decide | exact all_len fun _ => rfl), ?_⟩
                            refine hk _ _ ?_
                            clear hk hp k kp
                            refine KLoopM_n (IntKind.wrap .i64 (x14 + 1)) () hm ?_
                            simp only [bS, bX, reduceIte, ↓reduceIte, reduceCtorEq, Int.reduceToNat, Nat.reduceDiv, Nat.reduceMod, Nat.reduceLT, Nat.reduceLeDiff, Nat.reduceAdd, Nat.reduceSub, Nat.reduceMul, Nat.reduceEqDiff, Nat.reduceBEq, Nat.reduceBNe, Nat.reduceGT] <;> first | done | (and_intros <;> first | rfl | (simp; done) | omega | done)
                          · rw [if_neg h26] at hm
                            refine W_condt rfl (by rw [show y15 = false from (Bool.eq_false_iff.2 h26)]; rfl) ?_
                            refine W_regF [1, 6, 105, 106, 107] fun k kp hk hp => ?_
                            simp only [bR, bT, tab, bX, reduceIte, ↓reduceIte, reduceCtorEq, Int.reduceToNat, Nat.reduceDiv, Nat.reduceMod, Nat.reduceLT, Nat.reduceLeDiff, Nat.reduceAdd, Nat.reduceSub, Nat.reduceMul, Nat.reduceEqDiff, Nat.reduceBEq, Nat.reduceBNe, Nat.reduceGT]
                            repeat refine ⟨by first | omega | assumption | decide | exact all_len fun _ => rfl | (intro _; omega) | rfl | (and_intros <;> first | omega | assumption | decide | exact all_len fun _ => rfl), ?_⟩
                            obtain ⟨y16, hc27, hm⟩ := bd hm
                            refine RunCall_pure (fun _ => ref_F_ok 4 x14 _ hc27) (by first | trivial | exact dst_ok rfl) (by first | trivial | (intro _; first | trivial | simp [need]) | simp [need]) rfl rfl ?_
                            simp only [bR, bT, tab, bX, reduceIte, ↓reduceIte, reduceCtorEq, Int.reduceToNat, Nat.reduceDiv, Nat.reduceMod, Nat.reduceLT, Nat.reduceLeDiff, Nat.reduceAdd, Nat.reduceSub, Nat.reduceMul, Nat.reduceEqDiff, Nat.reduceBEq, Nat.reduceBNe, Nat.reduceGT]
                            repeat refine ⟨by first | omega | assumption | decide | exact all_len fun _ => rfl | (intro _; omega) | rfl | (and_intros <;> first | omega | assumption | decide | exact all_len fun _ => rfl), ?_⟩
                            refine hk _ _ ?_
                            clear hk hp k kp
                            have ho28 := out_eq hm hr1
                            subst ho28
                            replace hm : some (y16) = some r := hm1
                            refine W_ret ?_
                            refine KBlock_r ?_
                            refine KThen_r ?_
                            refine KLoopM_r ?_
                            refine KBlock_r ?_
                            refine KJoinM_r ?_
                            refine KBody_ret [] ?_
                            obtain rfl := Option.some.inj hm
                            simp only [bF, bT, tab, bX, reduceIte, ↓reduceIte, reduceCtorEq, Int.reduceToNat, Nat.reduceDiv, Nat.reduceMod, Nat.reduceLT, Nat.reduceLeDiff, Nat.reduceAdd, Nat.reduceSub, Nat.reduceMul, Nat.reduceEqDiff, Nat.reduceBEq, Nat.reduceBNe, Nat.reduceGT] <;> first | done | rfl | (and_intros <;> first | rfl | omega | (simp; done))
                        · rw [if_neg h23] at hm
                          refine W_condf rfl (decide_eq_false h23) ?_
                          refine W_exit ?_
                          have ho29 := out_eq hm hr1
                          subst ho29
                          replace hm : ref_ImageFault_j2 p1 = some r := hm1
                          refine KThen_x ?_
                          refine KLoopM_x ?_
                          refine KBlock_hit ?_
                          refine KJoinM_n () () hm ?_
                          simp only [bS, bX, reduceIte, ↓reduceIte, reduceCtorEq, Int.reduceToNat, Nat.reduceDiv, Nat.reduceMod, Nat.reduceLT, Nat.reduceLeDiff, Nat.reduceAdd, Nat.reduceSub, Nat.reduceMul, Nat.reduceEqDiff, Nat.reduceBEq, Nat.reduceBNe, Nat.reduceGT] <;> first | done | (and_intros <;> first | rfl | (simp; done) | omega | done)
                    · rintro _ _ hm
                      replace hm : ref_ImageFault_j2 p1 = some r := hm
                      refine W_eqE (by simp only [bE, Nat.reduceDiv, Nat.reduceMod, Nat.reduceLT, Nat.reduceLeDiff, Nat.reduceAdd, Nat.reduceSub, Nat.reduceMul, Nat.reduceEqDiff, Nat.reduceBEq, Nat.reduceBNe, Nat.reduceGT, Int.reduceToNat]; rfl) (by first | (dsimp only; rfl) | rfl) ?_
                      unfold ref_ImageFault_j2 at hm
                      refine W_regF [108, 109, 110] fun k kp hk hp => ?_
                      simp only [bR, bT, tab, bX, reduceIte, ↓reduceIte, reduceCtorEq, Int.reduceToNat, Nat.reduceDiv, Nat.reduceMod, Nat.reduceLT, Nat.reduceLeDiff, Nat.reduceAdd, Nat.reduceSub, Nat.reduceMul, Nat.reduceEqDiff, Nat.reduceBEq, Nat.reduceBNe, Nat.reduceGT]
                      repeat refine ⟨by first | omega | assumption | decide | exact all_len fun _ => rfl | (intro _; omega) | rfl | (and_intros <;> first | omega | assumption | decide | exact all_len fun _ => rfl), ?_⟩
                      obtain ⟨y9, hc17, hm⟩ := bd hm
                      refine RunCall_pure (fun _ => ref_CostOf_ok p1.code _ hc17) (by first | trivial | exact dst_ok rfl) (by first | trivial | (intro _; first | trivial | simp [need]) | simp [need]) rfl rfl ?_
                      simp only [bR, bT, tab, bX, reduceIte, ↓reduceIte, reduceCtorEq, Int.reduceToNat, Nat.reduceDiv, Nat.reduceMod, Nat.reduceLT, Nat.reduceLeDiff, Nat.reduceAdd, Nat.reduceSub, Nat.reduceMul, Nat.reduceEqDiff, Nat.reduceBEq, Nat.reduceBNe, Nat.reduceGT]
                      repeat refine ⟨by first | omega | assumption | decide | exact all_len fun _ => rfl | (intro _; omega) | rfl | (and_intros <;> first | omega | assumption | decide | exact all_len fun _ => rfl), ?_⟩
                      refine hk _ _ ?_
                      clear hk hp k kp
                      refine W_seq_k fun k3 hk3 => ?_
                      by_cases h18 : ¬ p1.cost = y9
                      · rw [if_pos h18] at hm
                        have h18b : (p1.cost != y9) = true := bne_iff_ne.2 h18
                        refine W_regF [1, 7, 111, 112, 113, 114, 115, 116, 117, 118, 119, 120, 121, 122, 123] fun k kp hk hp => ?_
                        simp only [bR, bT, tab, bX, reduceIte, ↓reduceIte, reduceCtorEq, Int.reduceToNat, Nat.reduceDiv, Nat.reduceMod, Nat.reduceLT, Nat.reduceLeDiff, Nat.reduceAdd, Nat.reduceSub, Nat.reduceMul, Nat.reduceEqDiff, Nat.reduceBEq, Nat.reduceBNe, Nat.reduceGT, h18b]
                        repeat refine ⟨by first | omega | assumption | decide | exact all_len fun _ => rfl | (intro _; omega) | rfl | (and_intros <;> first | omega | assumption | decide | exact all_len fun _ => rfl), ?_⟩
                        refine hk _ _ ?_
                        clear hk hp k kp
                        refine W_condt rfl rfl ?_
                        refine W_regF [124, 125] fun k kp hk hp => ?_
                        simp only [bR, bT, tab, bX, reduceIte, ↓reduceIte, reduceCtorEq, Int.reduceToNat, Nat.reduceDiv, Nat.reduceMod, Nat.reduceLT, Nat.reduceLeDiff, Nat.reduceAdd, Nat.reduceSub, Nat.reduceMul, Nat.reduceEqDiff, Nat.reduceBEq, Nat.reduceBNe, Nat.reduceGT]
                        repeat refine ⟨by first | omega | assumption | decide | exact all_len fun _ => rfl | (intro _; omega) | rfl | (and_intros <;> first | omega | assumption | decide | exact all_len fun _ => rfl), ?_⟩
                        obtain ⟨y10, hc19, hm⟩ := bd hm
                        refine RunCall_pure (fun _ => ref_F_ok 18 (-1) _ hc19) (by first | trivial | exact dst_ok rfl) (by first | trivial | (intro _; first | trivial | simp [need]) | simp [need]) rfl rfl ?_
                        simp only [bR, bT, tab, bX, reduceIte, ↓reduceIte, reduceCtorEq, Int.reduceToNat, Nat.reduceDiv, Nat.reduceMod, Nat.reduceLT, Nat.reduceLeDiff, Nat.reduceAdd, Nat.reduceSub, Nat.reduceMul, Nat.reduceEqDiff, Nat.reduceBEq, Nat.reduceBNe, Nat.reduceGT]
                        repeat refine ⟨by first | omega | assumption | decide | exact all_len fun _ => rfl | (intro _; omega) | rfl | (and_intros <;> first | omega | assumption | decide | exact all_len fun _ => rfl), ?_⟩
                        refine hk _ _ ?_
                        clear hk hp k kp
                        refine W_ret ?_
                        refine KThen_r ?_
                        refine KBody_ret [] ?_
                        obtain rfl := Option.some.inj hm
                        simp only [bF, bT, tab, bX, reduceIte, ↓reduceIte, reduceCtorEq, Int.reduceToNat, Nat.reduceDiv, Nat.reduceMod, Nat.reduceLT, Nat.reduceLeDiff, Nat.reduceAdd, Nat.reduceSub, Nat.reduceMul, Nat.reduceEqDiff, Nat.reduceBEq, Nat.reduceBNe, Nat.reduceGT] <;> first | done | rfl | (and_intros <;> first | rfl | omega | (simp; done))
                      · rw [if_neg h18] at hm
                        have h18b : (p1.cost != y9) = false := bne_eq_false_iff_eq.2 (Decidable.not_not.1 h18)
                        by_cases h20 : y9 = 0
                        · rw [if_pos h20] at hm
                          have h20b : (y9 == 0) = true := beq_iff_eq.2 h20
                          refine W_regF [1, 7, 111, 112, 113, 114, 115, 116, 117, 118, 119, 120, 121, 122, 123] fun k kp hk hp => ?_
                          simp only [bR, bT, tab, bX, reduceIte, ↓reduceIte, reduceCtorEq, Int.reduceToNat, Nat.reduceDiv, Nat.reduceMod, Nat.reduceLT, Nat.reduceLeDiff, Nat.reduceAdd, Nat.reduceSub, Nat.reduceMul, Nat.reduceEqDiff, Nat.reduceBEq, Nat.reduceBNe, Nat.reduceGT, h18b, h20b]
                          repeat refine ⟨by first | omega | assumption | decide | exact all_len fun _ => rfl | (intro _; omega) | rfl | (and_intros <;> first | omega | assumption | decide | exact all_len fun _ => rfl), ?_⟩
                          refine hk _ _ ?_
                          clear hk hp k kp
                          by_cases h21 : (p1.code.length : Int) > 0
                          · rw [if_pos h21] at hm
                            refine W_condt rfl (decide_eq_true h21) ?_
                            refine W_regF [124, 125] fun k kp hk hp => ?_
                            simp only [bR, bT, tab, bX, reduceIte, ↓reduceIte, reduceCtorEq, Int.reduceToNat, Nat.reduceDiv, Nat.reduceMod, Nat.reduceLT, Nat.reduceLeDiff, Nat.reduceAdd, Nat.reduceSub, Nat.reduceMul, Nat.reduceEqDiff, Nat.reduceBEq, Nat.reduceBNe, Nat.reduceGT]
                            repeat refine ⟨by first | omega | assumption | decide | exact all_len fun _ => rfl | (intro _; omega) | rfl | (and_intros <;> first | omega | assumption | decide | exact all_len fun _ => rfl), ?_⟩
                            obtain ⟨y11, hc22, hm⟩ := bd hm
                            refine RunCall_pure (fun _ => ref_F_ok 18 (-1) _ hc22) (by first | trivial | exact dst_ok rfl) (by first | trivial | (intro _; first | trivial | simp [need]) | simp [need]) rfl rfl ?_
                            simp only [bR, bT, tab, bX, reduceIte, ↓reduceIte, reduceCtorEq, Int.reduceToNat, Nat.reduceDiv, Nat.reduceMod, Nat.reduceLT, Nat.reduceLeDiff, Nat.reduceAdd, Nat.reduceSub, Nat.reduceMul, Nat.reduceEqDiff, Nat.reduceBEq, Nat.reduceBNe, Nat.reduceGT]
                            repeat refine ⟨by first | omega | assumption | decide | exact all_len fun _ => rfl | (intro _; omega) | rfl | (and_intros <;> first | omega | assumption | decide | exact all_len fun _ => rfl), ?_⟩
                            refine hk _ _ ?_
                            clear hk hp k kp
                            refine W_ret ?_
                            refine KThen_r ?_
                            refine KBody_ret [] ?_
                            obtain rfl := Option.some.inj hm
                            simp only [bF, bT, tab, bX, reduceIte, ↓reduceIte, reduceCtorEq, Int.reduceToNat, Nat.reduceDiv, Nat.reduceMod, Nat.reduceLT, Nat.reduceLeDiff, Nat.reduceAdd, Nat.reduceSub, Nat.reduceMul, Nat.reduceEqDiff, Nat.reduceBEq, Nat.reduceBNe, Nat.reduceGT] <;> first | done | rfl | (and_intros <;> first | rfl | omega | (simp; done))
                          · rw [if_neg h21] at hm
                            refine W_condf rfl (decide_eq_false h21) ?_
                            refine W_skip ?_
                            refine KThen_n (hk3 _ _ ?_)
                            refine W_regF [124, 126] fun k kp hk hp => ?_
                            simp only [bR, bT, tab, bX, reduceIte, ↓reduceIte, reduceCtorEq, Int.reduceToNat, Nat.reduceDiv, Nat.reduceMod, Nat.reduceLT, Nat.reduceLeDiff, Nat.reduceAdd, Nat.reduceSub, Nat.reduceMul, Nat.reduceEqDiff, Nat.reduceBEq, Nat.reduceBNe, Nat.reduceGT, List.replicate, List.foldr]
                            repeat refine ⟨by first | omega | assumption | decide | exact all_len fun _ => rfl | (intro _; omega) | rfl | (and_intros <;> first | omega | assumption | decide | exact all_len fun _ => rfl), ?_⟩
                            refine hk _ _ ?_
                            clear hk hp k kp
                            refine W_ret ?_
                            refine KBody_ret [] ?_
                            obtain rfl := Option.some.inj hm
                            simp only [bF, bT, tab, bX, reduceIte, ↓reduceIte, reduceCtorEq, Int.reduceToNat, Nat.reduceDiv, Nat.reduceMod, Nat.reduceLT, Nat.reduceLeDiff, Nat.reduceAdd, Nat.reduceSub, Nat.reduceMul, Nat.reduceEqDiff, Nat.reduceBEq, Nat.reduceBNe, Nat.reduceGT] <;> first | done | rfl | (and_intros <;> first | rfl | omega | (simp; done))
                        · rw [if_neg h20] at hm
                          have h20b : (y9 == 0) = false := beq_eq_false_iff_ne.2 h20
                          refine W_regF [1, 7, 111, 112, 113, 114, 115, 116, 117, 118, 119, 120, 121, 122, 123] fun k kp hk hp => ?_
                          simp only [bR, bT, tab, bX, reduceIte, ↓reduceIte, reduceCtorEq, Int.reduceToNat, Nat.reduceDiv, Nat.reduceMod, Nat.reduceLT, Nat.reduceLeDiff, Nat.reduceAdd, Nat.reduceSub, Nat.reduceMul, Nat.reduceEqDiff, Nat.reduceBEq, Nat.reduceBNe, Nat.reduceGT, h18b, h20b]
                          repeat refine ⟨by first | omega | assumption | decide | exact all_len fun _ => rfl | (intro _; omega) | rfl | (and_intros <;> first | omega | assumption | decide | exact all_len fun _ => rfl), ?_⟩
                          refine hk _ _ ?_
                          clear hk hp k kp
                          refine W_condf rfl rfl ?_
                          refine W_skip ?_
                          refine KThen_n (hk3 _ _ ?_)
                          refine W_regF [124, 126] fun k kp hk hp => ?_
                          simp only [bR, bT, tab, bX, reduceIte, ↓reduceIte, reduceCtorEq, Int.reduceToNat, Nat.reduceDiv, Nat.reduceMod, Nat.reduceLT, Nat.reduceLeDiff, Nat.reduceAdd, Nat.reduceSub, Nat.reduceMul, Nat.reduceEqDiff, Nat.reduceBEq, Nat.reduceBNe, Nat.reduceGT, List.replicate, List.foldr]
                          repeat refine ⟨by first | omega | assumption | decide | exact all_len fun _ => rfl | (intro _; omega) | rfl | (and_intros <;> first | omega | assumption | decide | exact all_len fun _ => rfl), ?_⟩
                          refine hk _ _ ?_
                          clear hk hp k kp
                          refine W_ret ?_
                          refine KBody_ret [] ?_
                          obtain rfl := Option.some.inj hm
                          simp only [bF, bT, tab, bX, reduceIte, ↓reduceIte, reduceCtorEq, Int.reduceToNat, Nat.reduceDiv, Nat.reduceMod, Nat.reduceLT, Nat.reduceLeDiff, Nat.reduceAdd, Nat.reduceSub, Nat.reduceMul, Nat.reduceEqDiff, Nat.reduceBEq, Nat.reduceBNe, Nat.reduceGT] <;> first | done | rfl | (and_intros <;> first | rfl | omega | (simp; done))
end Pam

/- the walk of ref_SameInts, printed by a program of ours -/
namespace Pam
open Go Go.Proofs
set_option maxRecDepth 100000 in
set_option maxHeartbeats 1000000 in
theorem ref_SameInts_ok (p1 : List Int) (p2 : List Int) (r : Bool) (hm : ref_SameInts p1 p2 = some r) : SpecF Try.prog 67 [.c (.tree 1 (p1.map (eK .i64))), .c (.tree 1 (p2.map (eK .i64)))] (.c (.bool r)) := by
  refine Spec_ofD 26 [.tmp 4] Try.func67 rfl rfl rfl (by kernel_rfl) (by simp) ?_
  refine W_eqE (by simp only [argSlots, Env.ofList, List.length_nil, List.length_cons, bE, Nat.reduceDiv, Nat.reduceMod, Nat.reduceLT, Nat.reduceLeDiff, Nat.reduceAdd, Nat.reduceSub, Nat.reduceMul, Nat.reduceEqDiff, Nat.reduceBEq, Nat.reduceBNe, Nat.reduceGT, Int.reduceToNat]; rfl) rfl ?_
  unfold ref_SameInts at hm
  refine W_regF [4] fun k kp hk hp => ?_
  simp only [bR, bT, tab, bX, reduceIte, ↓reduceIte, reduceCtorEq, Int.reduceToNat, Nat.reduceDiv, Nat.reduceMod, Nat.reduceLT, Nat.reduceLeDiff, Nat.reduceAdd, Nat.reduceSub, Nat.reduceMul, Nat.reduceEqDiff, Nat.reduceBEq, Nat.reduceBNe, Nat.reduceGT]
  repeat refine ⟨by first | omega | assumption | decide | exact all_len fun _ => rfl | (intro _; omega) | rfl | (and_intros <;> first | omega | assumption | decide | exact all_len fun _ => rfl), ?_⟩
  refine hk _ _ ?_
  clear hk hp k kp
  refine W_seq_k fun k1 hk1 => ?_
  refine W_regF [6, 7, 8, 9] fun k kp hk hp => ?_
  simp only [bR, bT, tab, bX, reduceIte, ↓reduceIte, reduceCtorEq, Int.reduceToNat, Nat.reduceDiv, Nat.reduceMod, Nat.reduceLT, Nat.reduceLeDiff, Nat.reduceAdd, Nat.reduceSub, Nat.reduceMul, Nat.reduceEqDiff, Nat.reduceBEq, Nat.reduceBNe, Nat.reduceGT]
  repeat refine ⟨by first | omega | assumption | decide | exact all_len fun _ => rfl | (intro _; omega) | rfl | (and_intros <;> first | omega | assumption | decide | exact all_len fun _ => rfl), ?_⟩
  refine hk _ _ ?_
  clear hk hp k kp
  by_cases h1 : ¬ (p1.length : Int) = (p2.length : Int)
  · rw [if_pos h1] at hm
    refine W_condt rfl (bne_iff_ne.2 h1) ?_
    refine W_regF [0, 1, 10] fun k kp hk hp => ?_
    simp only [bR, bT, tab, bX, reduceIte, ↓reduceIte, reduceCtorEq, Int.reduceToNat, Nat.reduceDiv, Nat.reduceMod, Nat.reduceLT, Nat.reduceLeDiff, Nat.reduceAdd, Nat.reduceSub, Nat.reduceMul, Nat.reduceEqDiff, Nat.reduceBEq, Nat.reduceBNe, Nat.reduceGT]
    repeat refine ⟨by first | omega | assumption | decide | exact all_len fun _ => rfl | (intro _; omega) | rfl | (and_intros <;> first | omega | assumption | decide | exact all_len fun _ => rfl), ?_⟩
    refine hk _ _ ?_
    clear hk hp k kp
    refine W_ret ?_
    refine KThen_r ?_
    refine KBody_ret [] ?_
    obtain rfl := Option.some.inj hm
    simp only [bF, bT, tab, bX, reduceIte, ↓reduceIte, reduceCtorEq, Int.reduceToNat, Nat.reduceDiv, Nat.reduceMod, Nat.reduceLT, Nat.reduceLeDiff, Nat.reduceAdd, Nat.reduceSub, Nat.reduceMul, Nat.reduceEqDiff, Nat.reduceBEq, Nat.reduceBNe, Nat.reduceGT] <;> first | done | rfl | (and_intros <;> first | rfl | omega | (simp; done))
  · rw [if_neg h1] at hm
    refine W_condf rfl (bne_eq_false_iff_eq.2 (Decidable.not_not.1 h1)) ?_
    refine W_skip ?_
    refine KThen_n (hk1 _ _ ?_)
    refine W_joinM (S := Unit) (V := Unit) [0, 1, 4, 5, 10, 11, 12, 13, 14, 15, 16, 17, 18, 19, 20, 21, 22, 23, 24, 25] (fun _ _ => []) (fun _ _ => []) (fun _ => ref_SameInts_j1 = some r) ?_ ?_
    · skip
      refine W_regF [10] fun k kp hk hp => ?_
      simp only [bR, bT, tab, bX, reduceIte, ↓reduceIte, reduceCtorEq, Int.reduceToNat, Nat.reduceDiv, Nat.reduceMod, Nat.reduceLT, Nat.reduceLeDiff, Nat.reduceAdd, Nat.reduceSub, Nat.reduceMul, Nat.reduceEqDiff, Nat.reduceBEq, Nat.reduceBNe, Nat.reduceGT]
      repeat refine ⟨by first | omega | assumption | decide | exact all_len fun _ => rfl | (intro _; omega) | rfl | (and_intros <;> first | omega | assumption | decide | exact all_len fun _ => rfl), ?_⟩
      refine hk _ _ ?_
      clear hk hp k kp
      refine W_block ?_
      obtain ⟨o1, hl1, hm1⟩ := bd hm
      refine W_loopM (S := Int) (V := Unit) (O := Unit ⊕ Bool) [4, 5, 11, 12, 13, 14, 15, 16, 17, 18, 19, 20, 21, 22, 23, 24, 25] (fun x3 _ => [(5, .c (.int .i64 x3))]) (fun x3 _ => []) _ _ () hl1 ?_ ?_
      · simp only [bS, bX, reduceIte, ↓reduceIte, reduceCtorEq, Int.reduceToNat, Nat.reduceDiv, Nat.reduceMod, Nat.reduceLT, Nat.reduceLeDiff, Nat.reduceAdd, Nat.reduceSub, Nat.reduceMul, Nat.reduceEqDiff, Nat.reduceBEq, Nat.reduceBNe, Nat.reduceGT] <;> first | done | (and_intros <;> first | rfl | (simp; done) | omega | done)
      · rintro x3 _ r1 hm hr1
        replace hm : ref_SameInts_l1 p1 p2 x3 = some r1 := hm
        refine W_eqE (by simp only [bE, Nat.reduceDiv, Nat.reduceMod, Nat.reduceLT, Nat.reduceLeDiff, Nat.reduceAdd, Nat.reduceSub, Nat.reduceMul, Nat.reduceEqDiff, Nat.reduceBEq, Nat.reduceBNe, Nat.reduceGT, Int.reduceToNat]; rfl) (by first | (dsimp only; rfl) | rfl) ?_
        unfold ref_SameInts_l1 at hm
        refine W_seq_k fun k2 hk2 => ?_
        refine W_regF [11, 12, 13] fun k kp hk hp => ?_
        simp only [bR, bT, tab, bX, reduceIte, ↓reduceIte, reduceCtorEq, Int.reduceToNat, Nat.reduceDiv, Nat.reduceMod, Nat.reduceLT, Nat.reduceLeDiff, Nat.reduceAdd, Nat.reduceSub, Nat.reduceMul, Nat.reduceEqDiff, Nat.reduceBEq, Nat.reduceBNe, Nat.reduceGT]
        repeat refine ⟨by first | omega | assumption | decide | exact all_len fun _ => rfl | (intro _; omega) | rfl | (and_intros <;> first | omega | assumption | decide | exact all_len fun _ => rfl), ?_⟩
        refine hk _ _ ?_
        clear hk hp k kp
        by_cases h2 : x3 < (p1.length : Int)
        · rw [if_pos h2] at hm
          refine W_condt rfl (decide_eq_true h2) ?_
          refine W_skip ?_
          refine KThen_n (hk2 _ _ ?_)
          refine W_seq_k fun k3 hk3 => ?_
          refine W_block ?_
          obtain ⟨⟨hg3a, hg3b⟩, hm⟩ := gd hm
          refine W_anyF [14, 17, 18, 19, 20, 21, 22, 23, 24] (by kernel_rfl) [0, 0, 3, 7, 0, 0, 48, 112, 255] [false, false, false, false, false, false, false, false, true] (by kernel_rfl) fun k hk => ?_
          simp only [bA, bT, tab, bX, reduceIte, ↓reduceIte, reduceCtorEq, Int.reduceToNat, Nat.reduceDiv, Nat.reduceMod, Nat.reduceLT, Nat.reduceLeDiff, Nat.reduceAdd, Nat.reduceSub, Nat.reduceMul, Nat.reduceEqDiff, Nat.reduceBEq, Nat.reduceBNe, Nat.reduceGT, elt_map (eK .i64) p1 x3.toNat (by first | omega | (simp only [len_lit, List.length_cons, List.length_nil, List.length_append, List.length_set, List.length_replicate, List.length_map, List.length_take, List.length_drop]; omega)), elt_map (eK .i64) p2 x3.toNat (by first | omega | (simp only [len_lit, List.length_cons, List.length_nil, List.length_append, List.length_set, List.length_replicate, List.length_map, List.length_take, List.length_drop]; omega))]
          repeat refine ⟨by first | omega | assumption | decide | exact all_len fun _ => rfl | (intro _; omega) | rfl | (and_intros <;> first | omega | assumption | decide | exact all_len fun _ => rfl), ?_⟩
          refine hk _ _ ?_
          clear hk k
          by_cases h4 : ¬ (p1.getD x3.toNat default) = (p2.getD x3.toNat default)
          · rw [if_pos h4] at hm
            refine W_condt rfl (bne_iff_ne.2 h4) ?_
            refine W_regF [0, 1, 5, 25] fun k kp hk hp => ?_
            simp only [bR, bT, tab, bX, reduceIte, ↓reduceIte, reduceCtorEq, Int.reduceToNat, Nat.reduceDiv, Nat.reduceMod, Nat.reduceLT, Nat.reduceLeDiff, Nat.reduceAdd, Nat.reduceSub, Nat.reduceMul, Nat.reduceEqDiff, Nat.reduceBEq, Nat.reduceBNe, Nat.reduceGT]
            repeat refine ⟨by first | omega | assumption | decide | exact all_len fun _ => rfl | (intro _; omega) | rfl | (and_intros <;> first | omega | assumption | decide | exact all_len fun _ => rfl), ?_⟩
            refine hk _ _ ?_
            clear hk hp k kp
            have ho5 := out_eq hm hr1
            subst ho5
            replace hm : some false = some r := hm1
            refine W_ret ?_
            refine KBlock_r ?_
            refine KThen_r ?_
            refine KLoopM_r ?_
            refine KBlock_r ?_
            refine KJoinM_r ?_
            refine KBody_ret [] ?_
            obtain rfl := Option.some.inj hm
            simp only [bF, bT, tab, bX, reduceIte, ↓reduceIte, reduceCtorEq, Int.reduceToNat, Nat.reduceDiv, Nat.reduceMod, Nat.reduceLT, Nat.reduceLeDiff, Nat.reduceAdd, Nat.reduceSub, Nat.reduceMul, Nat.reduceEqDiff, Nat.reduceBEq, Nat.reduceBNe, Nat.reduceGT] <;> first | done | rfl | (and_intros <;> first | rfl | omega | (simp; done))
          · rw [if_neg h4] at hm
            refine W_condf rfl (bne_eq_false_iff_eq.2 (Decidable.not_not.1 h4)) ?_
            refine W_skip ?_
            refine KBlock_n ?_
            refine KThen_n (hk3 _ _ ?_)
            refine W_region fun k kp hk hp => ?_
            simp only [bR, bT, tab, bX, reduceIte, ↓reduceIte, reduceCtorEq, Int.reduceToNat, Nat.reduceDiv, Nat.reduceMod, Nat.reduceLT, Nat.reduceLeDiff, Nat.reduceAdd, Nat.reduceSub, Nat.reduceMul, Nat.reduceEqDiff, Nat.reduceBEq, Nat.reduceBNe, Nat.reduceGT]
            repeat refine ⟨by first | omega | assumption | decide | exact all_len fun _ => rfl | (intro _; omega) | rfl | (and_intros <;> first | omega | assumption | decide | exact all_len fun _ => rfl), ?_⟩
            refine hk _ _ ?_
            clear hk hp k kp
            refine KLoopM_n (IntKind.wrap .i64 (x3 + 1)) () hm ?_
            simp only [bS, bX, reduceIte, ↓reduceIte, reduceCtorEq, Int.reduceToNat, Nat.reduceDiv, Nat.reduceMod, Nat.reduceLT, Nat.reduceLeDiff, Nat.reduceAdd, Nat.reduceSub, Nat.reduceMul, Nat.reduceEqDiff, Nat.reduceBEq, Nat.reduceBNe, Nat.reduceGT] <;> first | done | (and_intros <;> first | rfl | (simp; done) | omega | done)
        · rw [if_neg h2] at hm
          refine W_condf rfl (decide_eq_false h2) ?_
          refine W_exit ?_
          have ho6 := out_eq hm hr1
          subst ho6
          replace hm : ref_SameInts_j1 = some r := hm1
          refine KThen_x ?_
          refine KLoopM_x ?_
          refine KBlock_hit ?_
          refine KJoinM_n () () hm ?_
          simp only [bS, bX, reduceIte, ↓reduceIte, reduceCtorEq, Int.reduceToNat, Nat.reduceDiv, Nat.reduceMod, Nat.reduceLT, Nat.reduceLeDiff, Nat.reduceAdd, Nat.reduceSub, Nat.reduceMul, Nat.reduceEqDiff, Nat.reduceBEq, Nat.reduceBNe, Nat.reduceGT] <;> first | done | (and_intros <;> first | rfl | (simp; done) | omega | done)
    · rintro _ _ hm
      replace hm : ref_SameInts_j1 = some r := hm
      refine W_eqE (by simp only [bE, Nat.reduceDiv, Nat.reduceMod, Nat.reduceLT, Nat.reduceLeDiff, Nat.reduceAdd, Nat.reduceSub, Nat.reduceMul, Nat.reduceEqDiff, Nat.reduceBEq, Nat.reduceBNe, Nat.reduceGT, Int.reduceToNat]; rfl) (by first | (dsimp only; rfl) | rfl) ?_
      unfold ref_SameInts_j1 at hm
      refine W_regF [] fun k kp hk hp => ?_
      simp only [bR, bT, tab, bX, reduceIte, ↓reduceIte, reduceCtorEq, Int.reduceToNat, Nat.reduceDiv, Nat.reduceMod, Nat.reduceLT, Nat.reduceLeDiff, Nat.reduceAdd, Nat.reduceSub, Nat.reduceMul, Nat.reduceEqDiff, Nat.reduceBEq, Nat.reduceBNe, Nat.reduceGT]
      repeat refine ⟨by first | omega | assumption | decide | exact all_len fun _ => rfl | (intro _; omega) | rfl | (and_intros <;> first | omega | assumption | decide | exact all_len fun _ => rfl), ?_⟩
      refine hk _ _ ?_
      clear hk hp k kp
      refine W_ret ?_
      refine KBody_ret [] ?_
      obtain rfl := Option.some.inj hm
      simp only [bF, bT, tab, bX, reduceIte, ↓reduceIte, reduceCtorEq, Int.reduceToNat, Nat.reduceDiv, Nat.reduceMod, Nat.reduceLT, Nat.reduceLeDiff, Nat.reduceAdd, Nat.reduceSub, Nat.reduceMul, Nat.reduceEqDiff, Nat.reduceBEq, Nat.reduceBNe, Nat.reduceGT] <;> first | done | rfl | (and_intros <;> first | rfl | omega | (simp; done))
end Pam

/- the walk of ref_SameImage, printed by a program of ours -/
namespace Pam
open Go Go.Proofs
set_option maxRecDepth 100000 in
set_option maxHeartbeats 1000000 in
theorem ref_SameImage_ok (p1 : TImage) (p2 : TImage) (r : Bool) (hm : ref_SameImage p1 p2 = some r) : SpecF Try.prog 22 [.a [.int .i64 p1.cells, .int .i64 p1.regs, .int .i64 p1.cost, .tree 1 (p1.put.map (eK .i64)), .tree 1 (p1.bools.map (eK .i64)), .tree 1 (p1.get.map (eK .i64)), .tree 6 (p1.code.map TIns.enc)], .a [.int .i64 p2.cells, .int .i64 p2.regs, .int .i64 p2.cost, .tree 1 (p2.put.map (eK .i64)), .tree 1 (p2.bools.map (eK .i64)), .tree 1 (p2.get.map (eK .i64)), .tree 6 (p2.code.map TIns.enc)]] (.c (.bool r)) := by
  refine Spec_ofD 76 [.tmp 4] Try.func22 rfl rfl rfl (by kernel_rfl) (by simp) ?_
  refine W_eqE (by simp only [argSlots, Env.ofList, List.length_nil, List.length_cons, bE, Nat.reduceDiv, Nat.reduceMod, Nat.reduceLT, Nat.reduceLeDiff, Nat.reduceAdd, Nat.reduceSub, Nat.reduceMul, Nat.reduceEqDiff, Nat.reduceBEq, Nat.reduceBNe, Nat.reduceGT, Int.reduceToNat]; rfl) rfl ?_
  unfold ref_SameImage at hm
  refine W_regF [0, 1, 4] fun k kp hk hp => ?_
  simp only [bR, bT, tab, bX, reduceIte, ↓reduceIte, reduceCtorEq, Int.reduceToNat, Nat.reduceDiv, Nat.reduceMod, Nat.reduceLT, Nat.reduceLeDiff, Nat.reduceAdd, Nat.reduceSub, Nat.reduceMul, Nat.reduceEqDiff, Nat.reduceBEq, Nat.reduceBNe, Nat.reduceGT]
  repeat refine ⟨by first | omega | assumption | decide | exact all_len fun _ => rfl | (intro _; omega) | rfl | (and_intros <;> first | omega | assumption | decide | exact all_len fun _ => rfl), ?_⟩
  refine hk _ _ ?_
  clear hk hp k kp
  refine W_seq_k fun k1 hk1 => ?_
  by_cases h1 : ¬ p1.cells = p2.cells
  · rw [if_pos h1] at hm
    have h1b : (p1.cells != p2.cells) = true := bne_iff_ne.2 h1
    refine W_regF [6, 7, 8, 9, 10, 11, 12, 13, 14, 15, 16, 17, 18, 19, 20, 21, 22, 23, 24, 25, 26, 27, 28, 29, 30, 31, 32, 33, 34, 35, 36, 37, 38, 39, 40, 41, 42, 43, 44, 45, 46, 47, 48, 49, 50, 51, 52, 53, 54, 55, 56] fun k kp hk hp => ?_
    simp only [bR, bT, tab, bX, reduceIte, ↓reduceIte, reduceCtorEq, Int.reduceToNat, Nat.reduceDiv, Nat.reduceMod, Nat.reduceLT, Nat.reduceLeDiff, Nat.reduceAdd, Nat.reduceSub, Nat.reduceMul, Nat.reduceEqDiff, Nat.reduceBEq, Nat.reduceBNe, Nat.reduceGT, h1b]
    repeat refine ⟨by first | omega | assumption | decide | exact all_len fun _ => rfl | (intro _; omega) | rfl | (and_intros <;> first | omega | assumption | decide | exact all_len fun _ => rfl), ?_⟩
    refine hk _ _ ?_
    clear hk hp k kp
    refine W_condt rfl rfl ?_
    refine W_regF [2, 3, 57] fun k kp hk hp => ?_
    simp only [bR, bT, tab, bX, reduceIte, ↓reduceIte, reduceCtorEq, Int.reduceToNat, Nat.reduceDiv, Nat.reduceMod, Nat.reduceLT, Nat.reduceLeDiff, Nat.reduceAdd, Nat.reduceSub, Nat.reduceMul, Nat.reduceEqDiff, Nat.reduceBEq, Nat.reduceBNe, Nat.reduceGT]
    repeat refine ⟨by first | omega | assumption | decide | exact all_len fun _ => rfl | (intro _; omega) | rfl | (and_intros <;> first | omega | assumption | decide | exact all_len fun _ => rfl), ?_⟩
    refine hk _ _ ?_
    clear hk hp k kp
    refine W_ret ?_
    refine KThen_r ?_
    refine KBody_ret [] ?_
    obtain rfl := Option.some.inj hm
    simp only [bF, bT, tab, bX, reduceIte, ↓reduceIte, reduceCtorEq, Int.reduceToNat, Nat.reduceDiv, Nat.reduceMod, Nat.reduceLT, Nat.reduceLeDiff, Nat.reduceAdd, Nat.reduceSub, Nat.reduceMul, Nat.reduceEqDiff, Nat.reduceBEq, Nat.reduceBNe, Nat.reduceGT] <;> first | done | rfl | (and_intros <;> first | rfl | omega | (simp; done))
  · rw [if_neg h1] at hm
    have h1b : (p1.cells != p2.cells) = false := bne_eq_false_iff_eq.2 (Decidable.not_not.1 h1)
    by_cases h2 : ¬ p1.regs = p2.regs
    · rw [if_pos h2] at hm
      have h2b : (p1.regs != p2.regs) = true := bne_iff_ne.2 h2
      refine W_regF [6, 7, 8, 9, 10, 11, 12, 13, 14, 15, 16, 17, 18, 19, 20, 21, 22, 23, 24, 25, 26, 27, 28, 29, 30, 31, 32, 33, 34, 35, 36, 37, 38, 39, 40, 41, 42, 43, 44, 45, 46, 47, 48, 49, 50, 51, 52, 53, 54, 55, 56] fun k kp hk hp => ?_
      simp only [bR, bT, tab, bX, reduceIte, ↓reduceIte, reduceCtorEq, Int.reduceToNat, Nat.reduceDiv, Nat.reduceMod, Nat.reduceLT, Nat.reduceLeDiff, Nat.reduceAdd, Nat.reduceSub, Nat.reduceMul, Nat.reduceEqDiff, Nat.reduceBEq, Nat.reduceBNe, Nat.reduceGT, h1b, h2b]
      repeat refine ⟨by first | omega | assumption | decide | exact all_len fun _ => rfl | (intro _; omega) | rfl | (and_intros <;> first | omega | assumption | decide | exact all_len fun _ => rfl), ?_⟩
      refine hk _ _ ?_
      clear hk hp k kp
      refine W_condt rfl rfl ?_
      refine W_regF [2, 3, 57] fun k kp hk hp => ?_
      simp only [bR, bT, tab, bX, reduceIte, ↓reduceIte, reduceCtorEq, Int.reduceToNat, Nat.reduceDiv, Nat.reduceMod, Nat.reduceLT, Nat.reduceLeDiff, Nat.reduceAdd, Nat.reduceSub, Nat.reduceMul, Nat.reduceEqDiff, Nat.reduceBEq, Nat.reduceBNe, Nat.reduceGT]
      repeat refine ⟨by first | omega | assumption | decide | exact all_len fun _ => rfl | (intro _; omega) | rfl | (and_intros <;> first | omega | assumption | decide | exact all_len fun _ => rfl), ?_⟩
      refine hk _ _ ?_
      clear hk hp k kp
      refine W_ret ?_
      refine KThen_r ?_
      refine KBody_ret [] ?_
      obtain rfl := Option.some.inj hm
      simp only [bF, bT, tab, bX, reduceIte, ↓reduceIte, reduceCtorEq, Int.reduceToNat, Nat.reduceDiv, Nat.reduceMod, Nat.reduceLT, Nat.reduceLeDiff, Nat.reduceAdd, Nat.reduceSub, Nat.reduceMul, Nat.reduceEqDiff, Nat.reduceBEq, Nat.reduceBNe, Nat.reduceGT] <;> first | done | rfl | (and_intros <;> first | rfl | omega | (simp; done))
    · rw [if_neg h2] at hm
      have h2b : (p1.regs != p2.regs) = false := bne_eq_false_iff_eq.2 (Decidable.not_not.1 h2)
      by_cases h3 : ¬ p1.cost = p2.cost
      · rw [if_pos h3] at hm
        have h3b : (p1.cost != p2.cost) = true := bne_iff_ne.2 h3
        refine W_regF [6, 7, 8, 9, 10, 11, 12, 13, 14, 15, 16, 17, 18, 19, 20, 21, 22, 23, 24, 25, 26, 27, 28, 29, 30, 31, 32, 33, 34, 35, 36, 37, 38, 39, 40, 41, 42, 43, 44, 45, 46, 47, 48, 49, 50, 51, 52, 53, 54, 55, 56] fun k kp hk hp => ?_
        simp only [bR, bT, tab, bX, reduceIte, ↓reduceIte, reduceCtorEq, Int.reduceToNat, Nat.reduceDiv, Nat.reduceMod, Nat.reduceLT, Nat.reduceLeDiff, Nat.reduceAdd, Nat.reduceSub, Nat.reduceMul, Nat.reduceEqDiff, Nat.reduceBEq, Nat.reduceBNe, Nat.reduceGT, h1b, h2b, h3b]
        repeat refine ⟨by first | omega | assumption | decide | exact all_len fun _ => rfl | (intro _; omega) | rfl | (and_intros <;> first | omega | assumption | decide | exact all_len fun _ => rfl), ?_⟩
        refine hk _ _ ?_
        clear hk hp k kp
        refine W_condt rfl rfl ?_
        refine W_regF [2, 3, 57] fun k kp hk hp => ?_
        simp only [bR, bT, tab, bX, reduceIte, ↓reduceIte, reduceCtorEq, Int.reduceToNat, Nat.reduceDiv, Nat.reduceMod, Nat.reduceLT, Nat.reduceLeDiff, Nat.reduceAdd, Nat.reduceSub, Nat.reduceMul, Nat.reduceEqDiff, Nat.reduceBEq, Nat.reduceBNe, Nat.reduceGT]
        repeat refine ⟨by first | omega | assumption | decide | exact all_len fun _ => rfl | (intro _; omega) | rfl | (and_intros <;> first | omega | assumption | decide | exact all_len fun _ => rfl), ?_⟩
        refine hk _ _ ?_
        clear hk hp k kp
        refine W_ret ?_
        refine KThen_r ?_
        refine KBody_ret [] ?_
        obtain rfl := Option.some.inj hm
        simp only [bF, bT, tab, bX, reduceIte, ↓reduceIte, reduceCtorEq, Int.reduceToNat, Nat.reduceDiv, Nat.reduceMod, Nat.reduceLT, Nat.reduceLeDiff, Nat.reduceAdd, Nat.reduceSub, Nat.reduceMul, Nat.reduceEqDiff, Nat.reduceBEq, Nat.reduceBNe, Nat.reduceGT] <;> first | done | rfl | (and_intros <;> first | rfl | omega | (simp; done))
      · rw [if_neg h3] at hm
        have h3b : (p1.cost != p2.cost) = false := bne_eq_false_iff_eq.2 (Decidable.not_not.1 h3)
        refine W_regF [6, 7, 8, 9, 10, 11, 12, 13, 14, 15, 16, 17, 18, 19, 20, 21, 22, 23, 24, 25, 26, 27, 28, 29, 30, 31, 32, 33, 34, 35, 36, 37, 38, 39, 40, 41, 42, 43, 44, 45, 46, 47, 48, 49, 50, 51, 52, 53, 54, 55, 56] fun k kp hk hp => ?_
        simp only [bR, bT, tab, bX, reduceIte, ↓reduceIte, reduceCtorEq, Int.reduceToNat, Nat.reduceDiv, Nat.reduceMod, Nat.reduceLT, Nat.reduceLeDiff, Nat.reduceAdd, Nat.reduceSub, Nat.reduceMul, Nat.reduceEqDiff, Nat.reduceBEq, Nat.reduceBNe, Nat.reduceGT, h1b, h2b, h3b]
        repeat refine ⟨by first | omega | assumption | decide | exact all_len fun _ => rfl | (intro _; omega) | rfl | (and_intros <;> first | omega | assumption | decide | exact all_len fun _ => rfl), ?_⟩
        obtain ⟨y1, hc4, hm⟩ := bd hm
        refine RunCall_pure (fun _ => ref_SameInts_ok p1.put p2.put _ hc4) (by first | trivial | exact dst_ok rfl) (by first | trivial | (intro _; first | trivial | simp [need]) | simp [need]) rfl rfl ?_
        by_cases h5 : y1 = true
        · rw [if_pos h5] at hm
          have h5b : y1 = true := h5
          have h5c : (!y1) = false := by rw [h5b]; rfl
          simp only [bR, bT, tab, bX, reduceIte, ↓reduceIte, reduceCtorEq, Int.reduceToNat, Nat.reduceDiv, Nat.reduceMod, Nat.reduceLT, Nat.reduceLeDiff, Nat.reduceAdd, Nat.reduceSub, Nat.reduceMul, Nat.reduceEqDiff, Nat.reduceBEq, Nat.reduceBNe, Nat.reduceGT, h1b, h2b, h3b, h5b, h5c]
          repeat refine ⟨by first | omega | assumption | decide | exact all_len fun _ => rfl | (intro _; omega) | rfl | (and_intros <;> first | omega | assumption | decide | exact all_len fun _ => rfl), ?_⟩
          obtain ⟨y2, hc6, hm⟩ := bd hm
          refine RunCall_pure (fun _ => ref_SameInts_ok p1.bools p2.bools _ hc6) (by first | trivial | exact dst_ok rfl) (by first | trivial | (intro _; first | trivial | simp [need]) | simp [need]) rfl rfl ?_
          by_cases h7 : y2 = true
          · rw [if_pos h7] at hm
            have h7b : y2 = true := h7
            have h7c : (!y2) = false := by rw [h7b]; rfl
            simp only [bR, bT, tab, bX, reduceIte, ↓reduceIte, reduceCtorEq, Int.reduceToNat, Nat.reduceDiv, Nat.reduceMod, Nat.reduceLT, Nat.reduceLeDiff, Nat.reduceAdd, Nat.reduceSub, Nat.reduceMul, Nat.reduceEqDiff, Nat.reduceBEq, Nat.reduceBNe, Nat.reduceGT, h1b, h2b, h3b, h5b, h5c, h7b, h7c]
            repeat refine ⟨by first | omega | assumption | decide | exact all_len fun _ => rfl | (intro _; omega) | rfl | (and_intros <;> first | omega | assumption | decide | exact all_len fun _ => rfl), ?_⟩
            obtain ⟨y3, hc8, hm⟩ := bd hm
            refine RunCall_pure (fun _ => ref_SameInts_ok p1.get p2.get _ hc8) (by first | trivial | exact dst_ok rfl) (by first | trivial | (intro _; first | trivial | simp [need]) | simp [need]) rfl rfl ?_
            by_cases h9 : y3 = true
            · rw [if_pos h9] at hm
              have h9b : y3 = true := h9
              have h9c : (!y3) = false := by rw [h9b]; rfl
              simp only [bR, bT, tab, bX, reduceIte, ↓reduceIte, reduceCtorEq, Int.reduceToNat, Nat.reduceDiv, Nat.reduceMod, Nat.reduceLT, Nat.reduceLeDiff, Nat.reduceAdd, Nat.reduceSub, Nat.reduceMul, Nat.reduceEqDiff, Nat.reduceBEq, Nat.reduceBNe, Nat.reduceGT, h1b, h2b, h3b, h5b, h5c, h7b, h7c, h9b, h9c]
              repeat refine ⟨by first | omega | assumption | decide | exact all_len fun _ => rfl | (intro _; omega) | rfl | (and_intros <;> first | omega | assumption | decide | exact all_len fun _ => rfl), ?_⟩
              refine hk _ _ ?_
              clear hk hp k kp
              by_cases h10 : ¬ (p1.code.length : Int) = (p2.code.length : Int)
              · rw [if_pos h10] at hm
                refine W_condt rfl (bne_iff_ne.2 h10) ?_
                refine W_regF [2, 3, 57] fun k kp hk hp => ?_
                simp only [bR, bT, tab, bX, reduceIte, ↓reduceIte, reduceCtorEq, Int.reduceToNat, Nat.reduceDiv, Nat.reduceMod, Nat.reduceLT, Nat.reduceLeDiff, Nat.reduceAdd, Nat.reduceSub, Nat.reduceMul, Nat.reduceEqDiff, Nat.reduceBEq, Nat.reduceBNe, Nat.reduceGT]
                repeat refine ⟨by first | omega | assumption | decide | exact all_len fun _ => rfl | (intro _; omega) | rfl | (and_intros <;> first | omega | assumption | decide | exact all_len fun _ => rfl), ?_⟩
                refine hk _ _ ?_
                clear hk hp k kp
                refine W_ret ?_
                refine KThen_r ?_
                refine KBody_ret [] ?_
                obtain rfl := Option.some.inj hm
                simp only [bF, bT, tab, bX, reduceIte, ↓reduceIte, reduceCtorEq, Int.reduceToNat, Nat.reduceDiv, Nat.reduceMod, Nat.reduceLT, Nat.reduceLeDiff, Nat.reduceAdd, Nat.reduceSub, Nat.reduceMul, Nat.reduceEqDiff, Nat.reduceBEq, Nat.reduceBNe, Nat.reduceGT] <;> first | done | rfl | (and_intros <;> first | rfl | omega | (simp; done))
              · rw [if_neg h10] at hm
                refine W_condf rfl (bne_eq_false_iff_eq.2 (Decidable.not_not.1 h10)) ?_
                refine W_skip ?_
                refine KThen_n (hk1 _ _ ?_)
                refine W_joinM (S := Unit) (V := Unit) [2, 3, 4, 5, 57, 58, 59, 60, 61, 62, 63, 64, 65, 66, 67, 68, 69, 70, 71, 72, 73, 74, 75] (fun _ _ => []) (fun _ _ => [.box [.int .i64 p1.cells, .int .i64 p1.regs, .int .i64 p1.cost, .tree 1 (p1.put.map (eK .i64)), .tree 1 (p1.bools.map (eK .i64)), .tree 1 (p1.get.map (eK .i64)), .tree 6 (p1.code.map TIns.enc)], .box [.int .i64 p2.cells, .int .i64 p2.regs, .int .i64 p2.cost, .tree 1 (p2.put.map (eK .i64)), .tree 1 (p2.bools.map (eK .i64)), .tree 1 (p2.get.map (eK .i64)), .tree 6 (p2.code.map TIns.enc)]]) (fun _ => ref_SameImage_j1 = some r) ?_ ?_
                · skip
                  refine W_regF [57] fun k kp hk hp => ?_
                  simp only [bR, bT, tab, bX, reduceIte, ↓reduceIte, reduceCtorEq, Int.reduceToNat, Nat.reduceDiv, Nat.reduceMod, Nat.reduceLT, Nat.reduceLeDiff, Nat.reduceAdd, Nat.reduceSub, Nat.reduceMul, Nat.reduceEqDiff, Nat.reduceBEq, Nat.reduceBNe, Nat.reduceGT]
                  repeat refine ⟨by first | omega | assumption | decide | exact all_len fun _ => rfl | (intro _; omega) | rfl | (and_intros <;> first | omega | assumption | decide | exact all_len fun _ => rfl), ?_⟩
                  refine hk _ _ ?_
                  clear hk hp k kp
                  refine W_block ?_
                  obtain ⟨o1, hl1, hm1⟩ := bd hm
                  refine W_loopM (S := Int) (V := Unit) (O := Unit ⊕ Bool) [4, 5, 58, 59, 60, 61, 62, 63, 64, 65, 66, 67, 68, 69, 70, 71, 72, 73, 74, 75] (fun x6 _ => [(5, .c (.int .i64 x6))]) (fun x6 _ => [.box [.int .i64 p1.cells, .int .i64 p1.regs, .int .i64 p1.cost, .tree 1 (p1.put.map (eK .i64)), .tree 1 (p1.bools.map (eK .i64)), .tree 1 (p1.get.map (eK .i64)), .tree 6 (p1.code.map TIns.enc)], .box [.int .i64 p2.cells, .int .i64 p2.regs, .int .i64 p2.cost, .tree 1 (p2.put.map (eK .i64)), .tree 1 (p2.bools.map (eK .i64)), .tree 1 (p2.get.map (eK .i64)), .tree 6 (p2.code.map TIns.enc)]]) _ _ () hl1 ?_ ?_
                  · simp only [bS, bX, reduceIte, ↓reduceIte, reduceCtorEq, Int.reduceToNat, Nat.reduceDiv, Nat.reduceMod, Nat.reduceLT, Nat.reduceLeDiff, Nat.reduceAdd, Nat.reduceSub, Nat.reduceMul, Nat.reduceEqDiff, Nat.reduceBEq, Nat.reduceBNe, Nat.reduceGT] <;> first | done | (and_intros <;> first | rfl | (simp; done) | omega | done)
                  · rintro x6 _ r1 hm hr1
                    replace hm : ref_SameImage_l1 p1 p2 x6 = some r1 := hm
                    refine W_eqE (by simp only [bE, Nat.reduceDiv, Nat.reduceMod, Nat.reduceLT, Nat.reduceLeDiff, Nat.reduceAdd, Nat.reduceSub, Nat.reduceMul, Nat.reduceEqDiff, Nat.reduceBEq, Nat.reduceBNe, Nat.reduceGT, Int.reduceToNat]; rfl) (by first | (dsimp only; rfl) | rfl) ?_
                    unfold ref_SameImage_l1 at hm
                    refine W_seq_k fun k2 hk2 => ?_
                    refine W_regF [58, 59, 60, 61] fun k kp hk hp => ?_
                    simp only [bR, bT, tab, bX, reduceIte, ↓reduceIte, reduceCtorEq, Int.reduceToNat, Nat.reduceDiv, Nat.reduceMod, Nat.reduceLT, Nat.reduceLeDiff, Nat.reduceAdd, Nat.reduceSub, Nat.reduceMul, Nat.reduceEqDiff, Nat.reduceBEq, Nat.reduceBNe, Nat.reduceGT]
                    repeat refine ⟨by first | omega | assumption | decide | exact all_len fun _ => rfl | (intro _; omega) | rfl | (and_intros <;> first | omega | assumption | decide | exact all_len fun _ => rfl), ?_⟩
                    refine hk _ _ ?_
                    clear hk hp k kp
                    by_cases h11 : x6 < (p1.code.length : Int)
                    · rw [if_pos h11] at hm
                      refine W_condt rfl (decide_eq_true h11) ?_
                      refine W_skip ?_
                      refine KThen_n (hk2 _ _ ?_)
                      refine W_seq_k fun k3 hk3 => ?_
                      refine W_block ?_
                      obtain ⟨⟨hg12a, hg12b⟩, hm⟩ := gd hm
                      refine W_anyF [62, 65, 66, 67, 68, 69, 70, 71, 72, 73, 74] (by kernel_rfl) [0, 1, 0, 7, 15, 0, 32, 0, 224, 480, 1023] [false, false, false, false, false, false, false, false, false, false, true] (by kernel_rfl) fun k hk => ?_
                      simp only [bA, bT, tab, bX, reduceIte, ↓reduceIte, reduceCtorEq, Int.reduceToNat, Nat.reduceDiv, Nat.reduceMod, Nat.reduceLT, Nat.reduceLeDiff, Nat.reduceAdd, Nat.reduceSub, Nat.reduceMul, Nat.reduceEqDiff, Nat.reduceBEq, Nat.reduceBNe, Nat.reduceGT, elt_map TIns.enc p1.code x6.toNat (by first | omega | (simp only [len_lit, List.length_cons, List.length_nil, List.length_append, List.length_set, List.length_replicate, List.length_map, List.length_take, List.length_drop]; omega)), elt_map TIns.enc p2.code x6.toNat (by first | omega | (simp only [len_lit, List.length_cons, List.length_nil, List.length_append, List.length_set, List.length_replicate, List.length_map, List.length_take, List.length_drop]; omega))]
                      repeat refine ⟨by first | omega | assumption | decide | exact all_len fun _ => rfl | (intro _; omega) | rfl | (and_intros <;> first | omega | assumption | decide | exact all_len fun _ => rfl), ?_⟩
                      refine hk _ _ ?_
                      clear hk k
                      by_cases h13 : ((p1.code.getD x6.toNat default).op) = ((p2.code.getD x6.toNat default).op) ∧ ((p1.code.getD x6.toNat default).k) = ((p2.code.getD x6.toNat default).k) ∧ ((p1.code.getD x6.toNat default).r_) = ((p2.code.getD x6.toNat default).r_) ∧ ((p1.code.getD x6.toNat default).a) = ((p2.code.getD x6.toNat default).a) ∧ ((p1.code.getD x6.toNat default).b) = ((p2.code.getD x6.toNat default).b) ∧ ((p1.code.getD x6.toNat default).n) = ((p2.code.getD x6.toNat default).n)
                      · rw [if_pos h13] at hm
                        refine W_condf rfl (by rw [show ((((p1.code.getD x6.toNat default).op) == ((p2.code.getD x6.toNat default).op)) && ((((p1.code.getD x6.toNat default).k) == ((p2.code.getD x6.toNat default).k)) && ((((p1.code.getD x6.toNat default).r_) == ((p2.code.getD x6.toNat default).r_)) && ((((p1.code.getD x6.toNat default).a) == ((p2.code.getD x6.toNat default).a)) && ((((p1.code.getD x6.toNat default).b) == ((p2.code.getD x6.toNat default).b)) && (((p1.code.getD x6.toNat default).n) == ((p2.code.getD x6.toNat default).n))))))) = true from (by simpa [Bool.and_eq_true] using h13)]; rfl) ?_
                        refine W_skip ?_
                        refine KBlock_n ?_
                        refine KThen_n (hk3 _ _ ?_)
                        refine W_region fun k kp hk hp => ?_
                        simp only [bR, bT, tab, bX, reduceIte, ↓reduceIte, reduceCtorEq, Int.reduceToNat, Nat.reduceDiv, Nat.reduceMod, Nat.reduceLT, Nat.reduceLeDiff, Nat.reduceAdd, Nat.reduceSub, Nat.reduceMul, Nat.reduceEqDiff, Nat.reduceBEq, Nat.reduceBNe, Nat.reduceGT]
                        repeat refine ⟨by first | omega | assumption | decide | exact all_len fun _ => rfl | (intro _; omega) | rfl | (and_intros <;> first | omega | assumption | decide | exact all_len fun _ => rfl), ?_⟩
                        refine hk _ _ ?_
                        clear hk hp k kp
                        refine KLoopM_n (IntKind.wrap .i64 (x6 + 1)) () hm ?_
                        simp only [bS, bX, reduceIte, ↓reduceIte, reduceCtorEq, Int.reduceToNat, Nat.reduceDiv, Nat.reduceMod, Nat.reduceLT, Nat.reduceLeDiff, Nat.reduceAdd, Nat.reduceSub, Nat.reduceMul, Nat.reduceEqDiff, Nat.reduceBEq, Nat.reduceBNe, Nat.reduceGT] <;> first | done | (and_intros <;> first | rfl | (simp; done) | omega | done)
                      · rw [if_neg h13] at hm
                        refine W_condt rfl (by rw [show ((((p1.code.getD x6.toNat default).op) == ((p2.code.getD x6.toNat default).op)) && ((((p1.code.getD x6.toNat default).k) == ((p2.code.getD x6.toNat default).k)) && ((((p1.code.getD x6.toNat default).r_) == ((p2.code.getD x6.toNat default).r_)) && ((((p1.code.getD x6.toNat default).a) == ((p2.code.getD x6.toNat default).a)) && ((((p1.code.getD x6.toNat default).b) == ((p2.code.getD x6.toNat default).b)) && (((p1.code.getD x6.toNat default).n) == ((p2.code.getD x6.toNat default).n))))))) = false from (Bool.eq_false_iff.2 (fun hh => h13 (by simpa [Bool.and_eq_true] using hh)))]; rfl) ?_
                        refine W_regF [2, 3, 5, 75] fun k kp hk hp => ?_
                        simp only [bR, bT, tab, bX, reduceIte, ↓reduceIte, reduceCtorEq, Int.reduceToNat, Nat.reduceDiv, Nat.reduceMod, Nat.reduceLT, Nat.reduceLeDiff, Nat.reduceAdd, Nat.reduceSub, Nat.reduceMul, Nat.reduceEqDiff, Nat.reduceBEq, Nat.reduceBNe, Nat.reduceGT]
                        repeat refine ⟨by first | omega | assumption | decide | exact all_len fun _ => rfl | (intro _; omega) | rfl | (and_intros <;> first | omega | assumption | decide | exact all_len fun _ => rfl), ?_⟩
                        refine hk _ _ ?_
                        clear hk hp k kp
                        have ho14 := out_eq hm hr1
                        subst ho14
                        replace hm : some false = some r := hm1
                        refine W_ret ?_
                        refine KBlock_r ?_
                        refine KThen_r ?_
                        refine KLoopM_r ?_
                        refine KBlock_r ?_
                        refine KJoinM_r ?_
                        refine KBody_ret [] ?_
                        obtain rfl := Option.some.inj hm
                        simp only [bF, bT, tab, bX, reduceIte, ↓reduceIte, reduceCtorEq, Int.reduceToNat, Nat.reduceDiv, Nat.reduceMod, Nat.reduceLT, Nat.reduceLeDiff, Nat.reduceAdd, Nat.reduceSub, Nat.reduceMul, Nat.reduceEqDiff, Nat.reduceBEq, Nat.reduceBNe, Nat.reduceGT] <;> first | done | rfl | (and_intros <;> first | rfl | omega | (simp; done))
                    · rw [if_neg h11] at hm
                      refine W_condf rfl (decide_eq_false h11) ?_
                      refine W_exit ?_
                      have ho15 := out_eq hm hr1
                      subst ho15
                      replace hm : ref_SameImage_j1 = some r := hm1
                      refine KThen_x ?_
                      refine KLoopM_x ?_
                      refine KBlock_hit ?_
                      refine KJoinM_n () () hm ?_
                      simp only [bS, bX, reduceIte, ↓reduceIte, reduceCtorEq, Int.reduceToNat, Nat.reduceDiv, Nat.reduceMod, Nat.reduceLT, Nat.reduceLeDiff, Nat.reduceAdd, Nat.reduceSub, Nat.reduceMul, Nat.reduceEqDiff, Nat.reduceBEq, Nat.reduceBNe, Nat.reduceGT] <;> first | done | (and_intros <;> first | rfl | (simp; done) | omega | done)
                · rintro _ _ hm
                  replace hm : ref_SameImage_j1 = some r := hm
                  refine W_eqE (by simp only [bE, Nat.reduceDiv, Nat.reduceMod, Nat.reduceLT, Nat.reduceLeDiff, Nat.reduceAdd, Nat.reduceSub, Nat.reduceMul, Nat.reduceEqDiff, Nat.reduceBEq, Nat.reduceBNe, Nat.reduceGT, Int.reduceToNat]; rfl) (by first | (dsimp only; rfl) | rfl) ?_
                  unfold ref_SameImage_j1 at hm
                  refine W_regF [] fun k kp hk hp => ?_
                  simp only [bR, bT, tab, bX, reduceIte, ↓reduceIte, reduceCtorEq, Int.reduceToNat, Nat.reduceDiv, Nat.reduceMod, Nat.reduceLT, Nat.reduceLeDiff, Nat.reduceAdd, Nat.reduceSub, Nat.reduceMul, Nat.reduceEqDiff, Nat.reduceBEq, Nat.reduceBNe, Nat.reduceGT]
                  repeat refine ⟨by first | omega | assumption | decide | exact all_len fun _ => rfl | (intro _; omega) | rfl | (and_intros <;> first | omega | assumption | decide | exact all_len fun _ => rfl), ?_⟩
                  refine hk _ _ ?_
                  clear hk hp k kp
                  refine W_ret ?_
                  refine KBody_ret [] ?_
                  obtain rfl := Option.some.inj hm
                  simp only [bF, bT, tab, bX, reduceIte, ↓reduceIte, reduceCtorEq, Int.reduceToNat, Nat.reduceDiv, Nat.reduceMod, Nat.reduceLT, Nat.reduceLeDiff, Nat.reduceAdd, Nat.reduceSub, Nat.reduceMul, Nat.reduceEqDiff, Nat.reduceBEq, Nat.reduceBNe, Nat.reduceGT] <;> first | done | rfl | (and_intros <;> first | rfl | omega | (simp; done))
            · rw [if_neg h9] at hm
              have h9b : y3 = false := Bool.eq_false_iff.2 h9
              have h9c : (!y3) = true := by rw [h9b]; rfl
              simp only [bR, bT, tab, bX, reduceIte, ↓reduceIte, reduceCtorEq, Int.reduceToNat, Nat.reduceDiv, Nat.reduceMod, Nat.reduceLT, Nat.reduceLeDiff, Nat.reduceAdd, Nat.reduceSub, Nat.reduceMul, Nat.reduceEqDiff, Nat.reduceBEq, Nat.reduceBNe, Nat.reduceGT, h1b, h2b, h3b, h5b, h5c, h7b, h7c, h9b, h9c]
              repeat refine ⟨by first | omega | assumption | decide | exact all_len fun _ => rfl | (intro _; omega) | rfl | (and_intros <;> first | omega | assumption | decide | exact all_len fun _ => rfl), ?_⟩
              refine hk _ _ ?_
              clear hk hp k kp
              refine W_condt rfl rfl ?_
              refine W_regF [2, 3, 57] fun k kp hk hp => ?_
              simp only [bR, bT, tab, bX, reduceIte, ↓reduceIte, reduceCtorEq, Int.reduceToNat, Nat.reduceDiv, Nat.reduceMod, Nat.reduceLT, Nat.reduceLeDiff, Nat.reduceAdd, Nat.reduceSub, Nat.reduceMul, Nat.reduceEqDiff, Nat.reduceBEq, Nat.reduceBNe, Nat.reduceGT]
              repeat refine ⟨by first | omega | assumption | decide | exact all_len fun _ => rfl | (intro _; omega) | rfl | (and_intros <;> first | omega | assumption | decide | exact all_len fun _ => rfl), ?_⟩
              refine hk _ _ ?_
              clear hk hp k kp
              refine W_ret ?_
              refine KThen_r ?_
              refine KBody_ret [] ?_
              obtain rfl := Option.some.inj hm
              simp only [bF, bT, tab, bX, reduceIte, ↓reduceIte, reduceCtorEq, Int.reduceToNat, Nat.reduceDiv, Nat.reduceMod, Nat.reduceLT, Nat.reduceLeDiff, Nat.reduceAdd, Nat.reduceSub, Nat.reduceMul, Nat.reduceEqDiff, Nat.reduceBEq, Nat.reduceBNe, Nat.reduceGT] <;> first | done | rfl | (and_intros <;> first | rfl | omega | (simp; done))
          · rw [if_neg h7] at hm
            have h7b : y2 = false := Bool.eq_false_iff.2 h7
            have h7c : (!y2) = true := by rw [h7b]; rfl
            simp only [bR, bT, tab, bX, reduceIte, ↓reduceIte, reduceCtorEq, Int.reduceToNat, Nat.reduceDiv, Nat.reduceMod, Nat.reduceLT, Nat.reduceLeDiff, Nat.reduceAdd, Nat.reduceSub, Nat.reduceMul, Nat.reduceEqDiff, Nat.reduceBEq, Nat.reduceBNe, Nat.reduceGT, h1b, h2b, h3b, h5b, h5c, h7b, h7c]
            repeat refine ⟨by first | omega | assumption | decide | exact all_len fun _ => rfl | (intro _; omega) | rfl | (and_intros <;> first | omega | assumption | decide | exact all_len fun _ => rfl), ?_⟩
            refine hk _ _ ?_
            clear hk hp k kp
            refine W_condt rfl rfl ?_
            refine W_regF [2, 3, 57] fun k kp hk hp => ?_
            simp only [bR, bT, tab, bX, reduceIte, ↓reduceIte, reduceCtorEq, Int.reduceToNat, Nat.reduceDiv, Nat.reduceMod, Nat.reduceLT, Nat.reduceLeDiff, Nat.reduceAdd, Nat.reduceSub, Nat.reduceMul, Nat.reduceEqDiff, Nat.reduceBEq, Nat.reduceBNe, Nat.reduceGT]
            repeat refine ⟨by first | omega | assumption | decide | exact all_len fun _ => rfl | (intro _; omega) | rfl | (and_intros <;> first | omega | assumption | decide | exact all_len fun _ => rfl), ?_⟩
            refine hk _ _ ?_
            clear hk hp k kp
            refine W_ret ?_
            refine KThen_r ?_
            refine KBody_ret [] ?_
            obtain rfl := Option.some.inj hm
            simp only [bF, bT, tab, bX, reduceIte, ↓reduceIte, reduceCtorEq, Int.reduceToNat, Nat.reduceDiv, Nat.reduceMod, Nat.reduceLT, Nat.reduceLeDiff, Nat.reduceAdd, Nat.reduceSub, Nat.reduceMul, Nat.reduceEqDiff, Nat.reduceBEq, Nat.reduceBNe, Nat.reduceGT] <;> first | done | rfl | (and_intros <;> first | rfl | omega | (simp; done))
        · rw [if_neg h5] at hm
          have h5b : y1 = false := Bool.eq_false_iff.2 h5
          have h5c : (!y1) = true := by rw [h5b]; rfl
          simp only [bR, bT, tab, bX, reduceIte, ↓reduceIte, reduceCtorEq, Int.reduceToNat, Nat.reduceDiv, Nat.reduceMod, Nat.reduceLT, Nat.reduceLeDiff, Nat.reduceAdd, Nat.reduceSub, Nat.reduceMul, Nat.reduceEqDiff, Nat.reduceBEq, Nat.reduceBNe, Nat.reduceGT, h1b, h2b, h3b, h5b, h5c]
          repeat refine ⟨by first | omega | assumption | decide | exact all_len fun _ => rfl | (intro _; omega) | rfl | (and_intros <;> first | omega | assumption | decide | exact all_len fun _ => rfl), ?_⟩
          refine hk _ _ ?_
          clear hk hp k kp
          refine W_condt rfl rfl ?_
          refine W_regF [2, 3, 57] fun k kp hk hp => ?_
          simp only [bR, bT, tab, bX, reduceIte, ↓reduceIte, reduceCtorEq, Int.reduceToNat, Nat.reduceDiv, Nat.reduceMod, Nat.reduceLT, Nat.reduceLeDiff, Nat.reduceAdd, Nat.reduceSub, Nat.reduceMul, Nat.reduceEqDiff, Nat.reduceBEq, Nat.reduceBNe, Nat.reduceGT]
          repeat refine ⟨by first | omega | assumption | decide | exact all_len fun _ => rfl | (intro _; omega) | rfl | (and_intros <;> first | omega | assumption | decide | exact all_len fun _ => rfl), ?_⟩
          refine hk _ _ ?_
          clear hk hp k kp
          refine W_ret ?_
          refine KThen_r ?_
          refine KBody_ret [] ?_
          obtain rfl := Option.some.inj hm
          simp only [bF, bT, tab, bX, reduceIte, ↓reduceIte, reduceCtorEq, Int.reduceToNat, Nat.reduceDiv, Nat.reduceMod, Nat.reduceLT, Nat.reduceLeDiff, Nat.reduceAdd, Nat.reduceSub, Nat.reduceMul, Nat.reduceEqDiff, Nat.reduceBEq, Nat.reduceBNe, Nat.reduceGT] <;> first | done | rfl | (and_intros <;> first | rfl | omega | (simp; done))
end Pam
