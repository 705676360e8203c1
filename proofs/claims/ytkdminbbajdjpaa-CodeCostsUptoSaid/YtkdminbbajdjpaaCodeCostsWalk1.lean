/- the walk of code_Cost, printed by a program of ours -/
import Derived.Test.YtkdminbbajdjpaaCodeCostsFun1
set_option linter.all false
namespace Pam
open Go Go.Proofs
set_option maxRecDepth 100000 in
set_option maxHeartbeats 1000000 in
theorem code_Cost_ok (p1 : List TIns) (r : Int) (hm : code_Cost p1 = some r) : SpecF Try.prog 20 [.c (.tree 6 (p1.map TIns.enc))] (.c (.int .i64 r)) := by
  refine Spec_ofD 47 [.tmp 2] Try.func20 rfl rfl rfl (by kernel_rfl) (by simp) ?_
  refine W_eqE (by simp only [argSlots, Env.ofList, List.length_nil, List.length_cons, bE, Nat.reduceDiv, Nat.reduceMod, Nat.reduceLT, Nat.reduceLeDiff, Nat.reduceAdd, Nat.reduceSub, Nat.reduceMul, Nat.reduceEqDiff, Nat.reduceBEq, Nat.reduceBNe, Nat.reduceGT, Int.reduceToNat]; rfl) rfl ?_
  unfold code_Cost at hm
  refine W_regF [2] fun k kp hk hp => ?_
  simp only [bR, bT, tab, bX, reduceIte, ↓reduceIte, reduceCtorEq, Int.reduceToNat, Nat.reduceDiv, Nat.reduceMod, Nat.reduceLT, Nat.reduceLeDiff, Nat.reduceAdd, Nat.reduceSub, Nat.reduceMul, Nat.reduceEqDiff, Nat.reduceBEq, Nat.reduceBNe, Nat.reduceGT]
  repeat refine ⟨by first | omega | assumption | decide | exact all_len fun _ => rfl | (intro _; omega) | rfl | (and_intros <;> first | omega | assumption | decide | exact all_len fun _ => rfl), ?_⟩
  refine hk _ _ ?_
  clear hk hp k kp
  refine W_regF [] fun k kp hk hp => ?_
  simp only [bR, bT, tab, bX, reduceIte, ↓reduceIte, reduceCtorEq, Int.reduceToNat, Nat.reduceDiv, Nat.reduceMod, Nat.reduceLT, Nat.reduceLeDiff, Nat.reduceAdd, Nat.reduceSub, Nat.reduceMul, Nat.reduceEqDiff, Nat.reduceBEq, Nat.reduceBNe, Nat.reduceGT]
  repeat refine ⟨by first | omega | assumption | decide | exact all_len fun _ => rfl | (intro _; omega) | rfl | (and_intros <;> first | omega | assumption | decide | exact all_len fun _ => rfl), ?_⟩
  refine hk _ _ ?_
  clear hk hp k kp
  refine W_joinM (S := (Int × Int)) (V := Unit) [0, 2, 3, 4, 5, 7, 8, 9, 10, 11, 12, 13, 14, 15, 16, 17, 18, 19, 20, 21, 22, 23, 24, 25, 26, 27, 28, 29, 30, 31, 32, 33, 34, 35, 36, 37, 38, 39, 40, 41, 42, 43] (fun (x1, x2) _ => [(3, .c (.int .i64 x1)), (5, .c (.int .i64 x2))]) (fun (x1, x2) _ => []) (fun (x1, x2) => code_Cost_j1 x1 x2 = some r) ?_ ?_
  · skip
    refine W_regF [0] fun k kp hk hp => ?_
    simp only [bR, bT, tab, bX, reduceIte, ↓reduceIte, reduceCtorEq, Int.reduceToNat, Nat.reduceDiv, Nat.reduceMod, Nat.reduceLT, Nat.reduceLeDiff, Nat.reduceAdd, Nat.reduceSub, Nat.reduceMul, Nat.reduceEqDiff, Nat.reduceBEq, Nat.reduceBNe, Nat.reduceGT]
    repeat refine ⟨by first | omega | assumption | decide | exact all_len fun _ => rfl | (intro _; omega) | rfl | (and_intros <;> first | omega | assumption | decide | exact all_len fun _ => rfl), ?_⟩
    refine hk _ _ ?_
    clear hk hp k kp
    refine W_block ?_
    obtain ⟨o1, hl1, hm1⟩ := bd hm
    refine W_loopM (S := (Int × Int × Int × Int)) (V := Unit) (O := (Int × Int) ⊕ Int) [2, 3, 4, 5, 7, 10, 11, 12, 13, 14, 15, 16, 17, 18, 19, 20, 21, 22, 23, 24, 25, 26, 27, 28, 29, 30, 31, 32, 33, 34, 35, 36, 37, 38, 39, 40, 41, 42, 43] (fun (x11, x12, x13, x14) _ => [(3, .c (.int .i64 x11)), (4, .c (.int .i64 x12)), (5, .c (.int .i64 x13)), (10, .c (.int .i64 x14))]) (fun (x11, x12, x13, x14) _ => []) _ _ () hl1 ?_ ?_
    · simp only [bS, bX, reduceIte, ↓reduceIte, reduceCtorEq, Int.reduceToNat, Nat.reduceDiv, Nat.reduceMod, Nat.reduceLT, Nat.reduceLeDiff, Nat.reduceAdd, Nat.reduceSub, Nat.reduceMul, Nat.reduceEqDiff, Nat.reduceBEq, Nat.reduceBNe, Nat.reduceGT] <;> first | done | (and_intros <;> first | rfl | (simp; done) | omega | done)
    · rintro ⟨x11, x12, x13, x14⟩ _ r1 hm hr1
      replace hm : code_Cost_l1 p1 x11 x12 x13 x14 = some r1 := hm
      refine W_eqE (by simp only [bE, Nat.reduceDiv, Nat.reduceMod, Nat.reduceLT, Nat.reduceLeDiff, Nat.reduceAdd, Nat.reduceSub, Nat.reduceMul, Nat.reduceEqDiff, Nat.reduceBEq, Nat.reduceBNe, Nat.reduceGT, Int.reduceToNat]; rfl) (by first | (dsimp only; rfl) | rfl) ?_
      unfold code_Cost_l1 at hm
      refine W_regF [] fun k kp hk hp => ?_
      simp only [bR, bT, tab, bX, reduceIte, ↓reduceIte, reduceCtorEq, Int.reduceToNat, Nat.reduceDiv, Nat.reduceMod, Nat.reduceLT, Nat.reduceLeDiff, Nat.reduceAdd, Nat.reduceSub, Nat.reduceMul, Nat.reduceEqDiff, Nat.reduceBEq, Nat.reduceBNe, Nat.reduceGT]
      repeat refine ⟨by first | omega | assumption | decide | exact all_len fun _ => rfl | (intro _; omega) | rfl | (and_intros <;> first | omega | assumption | decide | exact all_len fun _ => rfl), ?_⟩
      refine hk _ _ ?_
      clear hk hp k kp
      refine W_seq_k fun k2 hk2 => ?_
      by_cases h2 : x14 < (p1.length : Int)
      · rw [if_pos h2] at hm
        refine W_condt rfl (decide_eq_true h2) ?_
        refine W_skip ?_
        refine KThen_n (hk2 _ _ ?_)
        refine W_seq_k fun k3 hk3 => ?_
        refine W_block ?_
        obtain ⟨hg3a, hm⟩ := gd hm
        refine W_regF [11, 12, 13] fun k kp hk hp => ?_
        simp only [bR, bT, tab, bX, reduceIte, ↓reduceIte, reduceCtorEq, Int.reduceToNat, Nat.reduceDiv, Nat.reduceMod, Nat.reduceLT, Nat.reduceLeDiff, Nat.reduceAdd, Nat.reduceSub, Nat.reduceMul, Nat.reduceEqDiff, Nat.reduceBEq, Nat.reduceBNe, Nat.reduceGT, elt_map TIns.enc p1 x14.toNat (by first | omega | (simp only [len_lit, List.length_cons, List.length_nil, List.length_append, List.length_set, List.length_replicate, List.length_map, List.length_take, List.length_drop]; omega))]
        repeat refine ⟨by first | omega | assumption | decide | exact all_len fun _ => rfl | (intro _; omega) | rfl | (and_intros <;> first | omega | assumption | decide | exact all_len fun _ => rfl), ?_⟩
        refine hk _ _ ?_
        clear hk hp k kp
        refine W_regF [14, 15, 16] fun k kp hk hp => ?_
        simp only [bR, bT, tab, bX, reduceIte, ↓reduceIte, reduceCtorEq, Int.reduceToNat, Nat.reduceDiv, Nat.reduceMod, Nat.reduceLT, Nat.reduceLeDiff, Nat.reduceAdd, Nat.reduceSub, Nat.reduceMul, Nat.reduceEqDiff, Nat.reduceBEq, Nat.reduceBNe, Nat.reduceGT]
        repeat refine ⟨by first | omega | assumption | decide | exact all_len fun _ => rfl | (intro _; omega) | rfl | (and_intros <;> first | omega | assumption | decide | exact all_len fun _ => rfl), ?_⟩
        refine hk _ _ ?_
        clear hk hp k kp
        refine W_regF [17] fun k kp hk hp => ?_
        simp only [bR, bT, tab, bX, reduceIte, ↓reduceIte, reduceCtorEq, Int.reduceToNat, Nat.reduceDiv, Nat.reduceMod, Nat.reduceLT, Nat.reduceLeDiff, Nat.reduceAdd, Nat.reduceSub, Nat.reduceMul, Nat.reduceEqDiff, Nat.reduceBEq, Nat.reduceBNe, Nat.reduceGT]
        repeat refine ⟨by first | omega | assumption | decide | exact all_len fun _ => rfl | (intro _; omega) | rfl | (and_intros <;> first | omega | assumption | decide | exact all_len fun _ => rfl), ?_⟩
        refine hk _ _ ?_
        clear hk hp k kp
        refine W_block ?_
        refine W_regF [20] fun k kp hk hp => ?_
        simp only [bR, bT, tab, bX, reduceIte, ↓reduceIte, reduceCtorEq, Int.reduceToNat, Nat.reduceDiv, Nat.reduceMod, Nat.reduceLT, Nat.reduceLeDiff, Nat.reduceAdd, Nat.reduceSub, Nat.reduceMul, Nat.reduceEqDiff, Nat.reduceBEq, Nat.reduceBNe, Nat.reduceGT]
        repeat refine ⟨by first | omega | assumption | decide | exact all_len fun _ => rfl | (intro _; omega) | rfl | (and_intros <;> first | omega | assumption | decide | exact all_len fun _ => rfl), ?_⟩
        refine hk _ _ ?_
        clear hk hp k kp
        by_cases h4 : ((p1.getD x14.toNat default).op) = 10
        · rw [if_pos h4] at hm
          refine W_condt rfl (beq_iff_eq.2 h4) ?_
          refine W_seq_k fun k4 hk4 => ?_
          by_cases h5 : x12 > 1
          · rw [if_pos h5] at hm
            have h5b : decide (x12 > 1) = true := decide_eq_true h5
            refine W_regF [4, 5, 18, 19, 21, 22, 23, 24, 25, 26, 27, 28, 29, 30, 31, 32, 33, 34, 35] fun k kp hk hp => ?_
            simp only [bR, bT, tab, bX, reduceIte, ↓reduceIte, reduceCtorEq, Int.reduceToNat, Nat.reduceDiv, Nat.reduceMod, Nat.reduceLT, Nat.reduceLeDiff, Nat.reduceAdd, Nat.reduceSub, Nat.reduceMul, Nat.reduceEqDiff, Nat.reduceBEq, Nat.reduceBNe, Nat.reduceGT, h5b]
            repeat refine ⟨by first | omega | assumption | decide | exact all_len fun _ => rfl | (intro _; omega) | rfl | (and_intros <;> first | omega | assumption | decide | exact all_len fun _ => rfl), ?_⟩
            refine hk _ _ ?_
            clear hk hp k kp
            refine W_condt rfl rfl ?_
            refine W_regF [3, 7, 8, 9, 10, 36] fun k kp hk hp => ?_
            simp only [bR, bT, tab, bX, reduceIte, ↓reduceIte, reduceCtorEq, Int.reduceToNat, Nat.reduceDiv, Nat.reduceMod, Nat.reduceLT, Nat.reduceLeDiff, Nat.reduceAdd, Nat.reduceSub, Nat.reduceMul, Nat.reduceEqDiff, Nat.reduceBEq, Nat.reduceBNe, Nat.reduceGT]
            repeat refine ⟨by first | omega | assumption | decide | exact all_len fun _ => rfl | (intro _; omega) | rfl | (and_intros <;> first | omega | assumption | decide | exact all_len fun _ => rfl), ?_⟩
            refine hk _ _ ?_
            clear hk hp k kp
            have ho6 := out_eq hm hr1
            subst ho6
            replace hm : some 0 = some r := hm1
            refine W_ret ?_
            refine KThen_r ?_
            refine KBlock_r ?_
            refine KBlock_r ?_
            refine KThen_r ?_
            refine KLoopM_r ?_
            refine KBlock_r ?_
            refine KJoinM_r ?_
            refine KBody_ret [] ?_
            obtain rfl := Option.some.inj hm
            simp only [bF, bT, tab, bX, reduceIte, ↓reduceIte, reduceCtorEq, Int.reduceToNat, Nat.reduceDiv, Nat.reduceMod, Nat.reduceLT, Nat.reduceLeDiff, Nat.reduceAdd, Nat.reduceSub, Nat.reduceMul, Nat.reduceEqDiff, Nat.reduceBEq, Nat.reduceBNe, Nat.reduceGT] <;> first | done | rfl | (and_intros <;> first | rfl | omega | (simp; done))
          · rw [if_neg h5] at hm
            have h5b : decide (x12 > 1) = false := decide_eq_false h5
            by_cases h7 : x13 > 0
            · rw [if_pos h7] at hm
              have h7b : decide (x13 > 0) = true := decide_eq_true h7
              refine W_regF [4, 5, 18, 19, 21, 22, 23, 24, 25, 26, 27, 28, 29, 30, 31, 32, 33, 34, 35] fun k kp hk hp => ?_
              simp only [bR, bT, tab, bX, reduceIte, ↓reduceIte, reduceCtorEq, Int.reduceToNat, Nat.reduceDiv, Nat.reduceMod, Nat.reduceLT, Nat.reduceLeDiff, Nat.reduceAdd, Nat.reduceSub, Nat.reduceMul, Nat.reduceEqDiff, Nat.reduceBEq, Nat.reduceBNe, Nat.reduceGT, h5b, h7b]
              repeat refine ⟨by first | omega | assumption | decide | exact all_len fun _ => rfl | (intro _; omega) | rfl | (and_intros <;> first | omega | assumption | decide | exact all_len fun _ => rfl), ?_⟩
              refine hk _ _ ?_
              clear hk hp k kp
              refine W_condt rfl rfl ?_
              refine W_regF [3, 7, 8, 9, 10, 36] fun k kp hk hp => ?_
              simp only [bR, bT, tab, bX, reduceIte, ↓reduceIte, reduceCtorEq, Int.reduceToNat, Nat.reduceDiv, Nat.reduceMod, Nat.reduceLT, Nat.reduceLeDiff, Nat.reduceAdd, Nat.reduceSub, Nat.reduceMul, Nat.reduceEqDiff, Nat.reduceBEq, Nat.reduceBNe, Nat.reduceGT]
              repeat refine ⟨by first | omega | assumption | decide | exact all_len fun _ => rfl | (intro _; omega) | rfl | (and_intros <;> first | omega | assumption | decide | exact all_len fun _ => rfl), ?_⟩
              refine hk _ _ ?_
              clear hk hp k kp
              have ho8 := out_eq hm hr1
              subst ho8
              replace hm : some 0 = some r := hm1
              refine W_ret ?_
              refine KThen_r ?_
              refine KBlock_r ?_
              refine KBlock_r ?_
              refine KThen_r ?_
              refine KLoopM_r ?_
              refine KBlock_r ?_
              refine KJoinM_r ?_
              refine KBody_ret [] ?_
              obtain rfl := Option.some.inj hm
              simp only [bF, bT, tab, bX, reduceIte, ↓reduceIte, reduceCtorEq, Int.reduceToNat, Nat.reduceDiv, Nat.reduceMod, Nat.reduceLT, Nat.reduceLeDiff, Nat.reduceAdd, Nat.reduceSub, Nat.reduceMul, Nat.reduceEqDiff, Nat.reduceBEq, Nat.reduceBNe, Nat.reduceGT] <;> first | done | rfl | (and_intros <;> first | rfl | omega | (simp; done))
            · rw [if_neg h7] at hm
              have h7b : decide (x13 > 0) = false := decide_eq_false h7
              by_cases h9 : ((p1.getD x14.toNat default).n) < 1
              · rw [if_pos h9] at hm
                have h9b : decide (((p1.getD x14.toNat default).n) < 1) = true := decide_eq_true h9
                refine W_regF [4, 5, 18, 19, 21, 22, 23, 24, 25, 26, 27, 28, 29, 30, 31, 32, 33, 34, 35] fun k kp hk hp => ?_
                simp only [bR, bT, tab, bX, reduceIte, ↓reduceIte, reduceCtorEq, Int.reduceToNat, Nat.reduceDiv, Nat.reduceMod, Nat.reduceLT, Nat.reduceLeDiff, Nat.reduceAdd, Nat.reduceSub, Nat.reduceMul, Nat.reduceEqDiff, Nat.reduceBEq, Nat.reduceBNe, Nat.reduceGT, h5b, h7b, h9b]
                repeat refine ⟨by first | omega | assumption | decide | exact all_len fun _ => rfl | (intro _; omega) | rfl | (and_intros <;> first | omega | assumption | decide | exact all_len fun _ => rfl), ?_⟩
                refine hk _ _ ?_
                clear hk hp k kp
                refine W_condt rfl rfl ?_
                refine W_regF [3, 7, 8, 9, 10, 36] fun k kp hk hp => ?_
                simp only [bR, bT, tab, bX, reduceIte, ↓reduceIte, reduceCtorEq, Int.reduceToNat, Nat.reduceDiv, Nat.reduceMod, Nat.reduceLT, Nat.reduceLeDiff, Nat.reduceAdd, Nat.reduceSub, Nat.reduceMul, Nat.reduceEqDiff, Nat.reduceBEq, Nat.reduceBNe, Nat.reduceGT]
                repeat refine ⟨by first | omega | assumption | decide | exact all_len fun _ => rfl | (intro _; omega) | rfl | (and_intros <;> first | omega | assumption | decide | exact all_len fun _ => rfl), ?_⟩
                refine hk _ _ ?_
                clear hk hp k kp
                have ho10 := out_eq hm hr1
                subst ho10
                replace hm : some 0 = some r := hm1
                refine W_ret ?_
                refine KThen_r ?_
                refine KBlock_r ?_
                refine KBlock_r ?_
                refine KThen_r ?_
                refine KLoopM_r ?_
                refine KBlock_r ?_
                refine KJoinM_r ?_
                refine KBody_ret [] ?_
                obtain rfl := Option.some.inj hm
                simp only [bF, bT, tab, bX, reduceIte, ↓reduceIte, reduceCtorEq, Int.reduceToNat, Nat.reduceDiv, Nat.reduceMod, Nat.reduceLT, Nat.reduceLeDiff, Nat.reduceAdd, Nat.reduceSub, Nat.reduceMul, Nat.reduceEqDiff, Nat.reduceBEq, Nat.reduceBNe, Nat.reduceGT] <;> first | done | rfl | (and_intros <;> first | rfl | omega | (simp; done))
              · rw [if_neg h9] at hm
                have h9b : decide (((p1.getD x14.toNat default).n) < 1) = false := decide_eq_false h9
                refine W_regF [4, 5, 18, 19, 21, 22, 23, 24, 25, 26, 27, 28, 29, 30, 31, 32, 33, 34, 35] fun k kp hk hp => ?_
                simp only [bR, bT, tab, bX, reduceIte, ↓reduceIte, reduceCtorEq, Int.reduceToNat, Nat.reduceDiv, Nat.reduceMod, Nat.reduceLT, Nat.reduceLeDiff, Nat.reduceAdd, Nat.reduceSub, Nat.reduceMul, Nat.reduceEqDiff, Nat.reduceBEq, Nat.reduceBNe, Nat.reduceGT, h5b, h7b, h9b]
                repeat refine ⟨by first | omega | assumption | decide | exact all_len fun _ => rfl | (intro _; omega) | rfl | (and_intros <;> first | omega | assumption | decide | exact all_len fun _ => rfl), ?_⟩
                refine hk _ _ ?_
                clear hk hp k kp
                by_cases h11 : ((p1.getD x14.toNat default).n) > 300
                · rw [if_pos h11] at hm
                  refine W_condt rfl (decide_eq_true h11) ?_
                  refine W_regF [3, 7, 8, 9, 10, 36] fun k kp hk hp => ?_
                  simp only [bR, bT, tab, bX, reduceIte, ↓reduceIte, reduceCtorEq, Int.reduceToNat, Nat.reduceDiv, Nat.reduceMod, Nat.reduceLT, Nat.reduceLeDiff, Nat.reduceAdd, Nat.reduceSub, Nat.reduceMul, Nat.reduceEqDiff, Nat.reduceBEq, Nat.reduceBNe, Nat.reduceGT]
                  repeat refine ⟨by first | omega | assumption | decide | exact all_len fun _ => rfl | (intro _; omega) | rfl | (and_intros <;> first | omega | assumption | decide | exact all_len fun _ => rfl), ?_⟩
                  refine hk _ _ ?_
                  clear hk hp k kp
                  have ho12 := out_eq hm hr1
                  subst ho12
                  replace hm : some 0 = some r := hm1
                  refine W_ret ?_
                  refine KThen_r ?_
                  refine KBlock_r ?_
                  refine KBlock_r ?_
                  refine KThen_r ?_
                  refine KLoopM_r ?_
                  refine KBlock_r ?_
                  refine KJoinM_r ?_
                  refine KBody_ret [] ?_
                  obtain rfl := Option.some.inj hm
                  simp only [bF, bT, tab, bX, reduceIte, ↓reduceIte, reduceCtorEq, Int.reduceToNat, Nat.reduceDiv, Nat.reduceMod, Nat.reduceLT, Nat.reduceLeDiff, Nat.reduceAdd, Nat.reduceSub, Nat.reduceMul, Nat.reduceEqDiff, Nat.reduceBEq, Nat.reduceBNe, Nat.reduceGT] <;> first | done | rfl | (and_intros <;> first | rfl | omega | (simp; done))
                · rw [if_neg h11] at hm
                  refine W_condf rfl (decide_eq_false h11) ?_
                  refine W_skip ?_
                  refine KThen_n (hk4 _ _ ?_)
                  refine W_region fun k kp hk hp => ?_
                  simp only [bR, bT, tab, bX, reduceIte, ↓reduceIte, reduceCtorEq, Int.reduceToNat, Nat.reduceDiv, Nat.reduceMod, Nat.reduceLT, Nat.reduceLeDiff, Nat.reduceAdd, Nat.reduceSub, Nat.reduceMul, Nat.reduceEqDiff, Nat.reduceBEq, Nat.reduceBNe, Nat.reduceGT]
                  repeat refine ⟨by first | omega | assumption | decide | exact all_len fun _ => rfl | (intro _; omega) | rfl | (and_intros <;> first | omega | assumption | decide | exact all_len fun _ => rfl), ?_⟩
                  refine hk _ _ ?_
                  clear hk hp k kp
                  refine KBlock_n ?_
                  refine KBlock_n ?_
                  refine KThen_n (hk3 _ _ ?_)
                  refine W_region fun k kp hk hp => ?_
                  simp only [bR, bT, tab, bX, reduceIte, ↓reduceIte, reduceCtorEq, Int.reduceToNat, Nat.reduceDiv, Nat.reduceMod, Nat.reduceLT, Nat.reduceLeDiff, Nat.reduceAdd, Nat.reduceSub, Nat.reduceMul, Nat.reduceEqDiff, Nat.reduceBEq, Nat.reduceBNe, Nat.reduceGT]
                  repeat refine ⟨by first | omega | assumption | decide | exact all_len fun _ => rfl | (intro _; omega) | rfl | (and_intros <;> first | omega | assumption | decide | exact all_len fun _ => rfl), ?_⟩
                  refine hk _ _ ?_
                  clear hk hp k kp
                  refine KLoopM_n ((IntKind.wrap .i64 (x11 + x12)), (p1.getD x14.toNat default).n, 1, (IntKind.wrap .i64 (x14 + 1))) () hm ?_
                  simp only [bS, bX, reduceIte, ↓reduceIte, reduceCtorEq, Int.reduceToNat, Nat.reduceDiv, Nat.reduceMod, Nat.reduceLT, Nat.reduceLeDiff, Nat.reduceAdd, Nat.reduceSub, Nat.reduceMul, Nat.reduceEqDiff, Nat.reduceBEq, Nat.reduceBNe, Nat.reduceGT] <;> first | done | (and_intros <;> first | rfl | (simp; done) | omega | done)
        · rw [if_neg h4] at hm
          refine W_condf rfl (beq_eq_false_iff_ne.2 h4) ?_
          refine W_regF [7, 18, 19, 40] fun k kp hk hp => ?_
          simp only [bR, bT, tab, bX, reduceIte, ↓reduceIte, reduceCtorEq, Int.reduceToNat, Nat.reduceDiv, Nat.reduceMod, Nat.reduceLT, Nat.reduceLeDiff, Nat.reduceAdd, Nat.reduceSub, Nat.reduceMul, Nat.reduceEqDiff, Nat.reduceBEq, Nat.reduceBNe, Nat.reduceGT]
          repeat refine ⟨by first | omega | assumption | decide | exact all_len fun _ => rfl | (intro _; omega) | rfl | (and_intros <;> first | omega | assumption | decide | exact all_len fun _ => rfl), ?_⟩
          refine hk _ _ ?_
          clear hk hp k kp
          by_cases h13 : ((p1.getD x14.toNat default).op) = 11
          · rw [if_pos h13] at hm
            refine W_condt rfl (beq_iff_eq.2 h13) ?_
            refine W_seq_k fun k5 hk5 => ?_
            refine W_regF [4, 5, 39, 41] fun k kp hk hp => ?_
            simp only [bR, bT, tab, bX, reduceIte, ↓reduceIte, reduceCtorEq, Int.reduceToNat, Nat.reduceDiv, Nat.reduceMod, Nat.reduceLT, Nat.reduceLeDiff, Nat.reduceAdd, Nat.reduceSub, Nat.reduceMul, Nat.reduceEqDiff, Nat.reduceBEq, Nat.reduceBNe, Nat.reduceGT]
            repeat refine ⟨by first | omega | assumption | decide | exact all_len fun _ => rfl | (intro _; omega) | rfl | (and_intros <;> first | omega | assumption | decide | exact all_len fun _ => rfl), ?_⟩
            refine hk _ _ ?_
            clear hk hp k kp
            by_cases h14 : x13 = 0
            · rw [if_pos h14] at hm
              refine W_condt rfl (beq_iff_eq.2 h14) ?_
              refine W_regF [3, 8, 9, 10, 42] fun k kp hk hp => ?_
              simp only [bR, bT, tab, bX, reduceIte, ↓reduceIte, reduceCtorEq, Int.reduceToNat, Nat.reduceDiv, Nat.reduceMod, Nat.reduceLT, Nat.reduceLeDiff, Nat.reduceAdd, Nat.reduceSub, Nat.reduceMul, Nat.reduceEqDiff, Nat.reduceBEq, Nat.reduceBNe, Nat.reduceGT]
              repeat refine ⟨by first | omega | assumption | decide | exact all_len fun _ => rfl | (intro _; omega) | rfl | (and_intros <;> first | omega | assumption | decide | exact all_len fun _ => rfl), ?_⟩
              refine hk _ _ ?_
              clear hk hp k kp
              have ho15 := out_eq hm hr1
              subst ho15
              replace hm : some 0 = some r := hm1
              refine W_ret ?_
              refine KThen_r ?_
              refine KBlock_r ?_
              refine KBlock_r ?_
              refine KThen_r ?_
              refine KLoopM_r ?_
              refine KBlock_r ?_
              refine KJoinM_r ?_
              refine KBody_ret [] ?_
              obtain rfl := Option.some.inj hm
              simp only [bF, bT, tab, bX, reduceIte, ↓reduceIte, reduceCtorEq, Int.reduceToNat, Nat.reduceDiv, Nat.reduceMod, Nat.reduceLT, Nat.reduceLeDiff, Nat.reduceAdd, Nat.reduceSub, Nat.reduceMul, Nat.reduceEqDiff, Nat.reduceBEq, Nat.reduceBNe, Nat.reduceGT] <;> first | done | rfl | (and_intros <;> first | rfl | omega | (simp; done))
            · rw [if_neg h14] at hm
              refine W_condf rfl (beq_eq_false_iff_ne.2 h14) ?_
              refine W_skip ?_
              refine KThen_n (hk5 _ _ ?_)
              refine W_region fun k kp hk hp => ?_
              simp only [bR, bT, tab, bX, reduceIte, ↓reduceIte, reduceCtorEq, Int.reduceToNat, Nat.reduceDiv, Nat.reduceMod, Nat.reduceLT, Nat.reduceLeDiff, Nat.reduceAdd, Nat.reduceSub, Nat.reduceMul, Nat.reduceEqDiff, Nat.reduceBEq, Nat.reduceBNe, Nat.reduceGT]
              repeat refine ⟨by first | omega | assumption | decide | exact all_len fun _ => rfl | (intro _; omega) | rfl | (and_intros <;> first | omega | assumption | decide | exact all_len fun _ => rfl), ?_⟩
              refine hk _ _ ?_
              clear hk hp k kp
              refine KBlock_n ?_
              refine KBlock_n ?_
              refine KThen_n (hk3 _ _ ?_)
              refine W_region fun k kp hk hp => ?_
              simp only [bR, bT, tab, bX, reduceIte, ↓reduceIte, reduceCtorEq, Int.reduceToNat, Nat.reduceDiv, Nat.reduceMod, Nat.reduceLT, Nat.reduceLeDiff, Nat.reduceAdd, Nat.reduceSub, Nat.reduceMul, Nat.reduceEqDiff, Nat.reduceBEq, Nat.reduceBNe, Nat.reduceGT]
              repeat refine ⟨by first | omega | assumption | decide | exact all_len fun _ => rfl | (intro _; omega) | rfl | (and_intros <;> first | omega | assumption | decide | exact all_len fun _ => rfl), ?_⟩
              refine hk _ _ ?_
              clear hk hp k kp
              refine KLoopM_n ((IntKind.wrap .i64 (x11 + x12)), 1, 0, (IntKind.wrap .i64 (x14 + 1))) () hm ?_
              simp only [bS, bX, reduceIte, ↓reduceIte, reduceCtorEq, Int.reduceToNat, Nat.reduceDiv, Nat.reduceMod, Nat.reduceLT, Nat.reduceLeDiff, Nat.reduceAdd, Nat.reduceSub, Nat.reduceMul, Nat.reduceEqDiff, Nat.reduceBEq, Nat.reduceBNe, Nat.reduceGT] <;> first | done | (and_intros <;> first | rfl | (simp; done) | omega | done)
          · rw [if_neg h13] at hm
            refine W_condf rfl (beq_eq_false_iff_ne.2 h13) ?_
            refine W_skip ?_
            refine KBlock_n ?_
            refine KBlock_n ?_
            refine KThen_n (hk3 _ _ ?_)
            refine W_region fun k kp hk hp => ?_
            simp only [bR, bT, tab, bX, reduceIte, ↓reduceIte, reduceCtorEq, Int.reduceToNat, Nat.reduceDiv, Nat.reduceMod, Nat.reduceLT, Nat.reduceLeDiff, Nat.reduceAdd, Nat.reduceSub, Nat.reduceMul, Nat.reduceEqDiff, Nat.reduceBEq, Nat.reduceBNe, Nat.reduceGT]
            repeat refine ⟨by first | omega | assumption | decide | exact all_len fun _ => rfl | (intro _; omega) | rfl | (and_intros <;> first | omega | assumption | decide | exact all_len fun _ => rfl), ?_⟩
            refine hk _ _ ?_
            clear hk hp k kp
            refine KLoopM_n ((IntKind.wrap .i64 (x11 + x12)), x12, x13, (IntKind.wrap .i64 (x14 + 1))) () hm ?_
            simp only [bS, bX, reduceIte, ↓reduceIte, reduceCtorEq, Int.reduceToNat, Nat.reduceDiv, Nat.reduceMod, Nat.reduceLT, Nat.reduceLeDiff, Nat.reduceAdd, Nat.reduceSub, Nat.reduceMul, Nat.reduceEqDiff, Nat.reduceBEq, Nat.reduceBNe, Nat.reduceGT] <;> first | done | (and_intros <;> first | rfl | (simp; done) | omega | done)
      · rw [if_neg h2] at hm
        refine W_condf rfl (decide_eq_false h2) ?_
        refine W_exit ?_
        have ho16 := out_eq hm hr1
        subst ho16
        replace hm : code_Cost_j1 x11 x13 = some r := hm1
        refine KThen_x ?_
        refine KLoopM_x ?_
        refine KBlock_hit ?_
        refine KJoinM_n (x11, x13) () hm ?_
        simp only [bS, bX, reduceIte, ↓reduceIte, reduceCtorEq, Int.reduceToNat, Nat.reduceDiv, Nat.reduceMod, Nat.reduceLT, Nat.reduceLeDiff, Nat.reduceAdd, Nat.reduceSub, Nat.reduceMul, Nat.reduceEqDiff, Nat.reduceBEq, Nat.reduceBNe, Nat.reduceGT] <;> first | done | (and_intros <;> first | rfl | (simp; done) | omega | done)
  · rintro ⟨x1, x2⟩ _ hm
    replace hm : code_Cost_j1 x1 x2 = some r := hm
    refine W_eqE (by simp only [bE, Nat.reduceDiv, Nat.reduceMod, Nat.reduceLT, Nat.reduceLeDiff, Nat.reduceAdd, Nat.reduceSub, Nat.reduceMul, Nat.reduceEqDiff, Nat.reduceBEq, Nat.reduceBNe, Nat.reduceGT, Int.reduceToNat]; rfl) (by first | (dsimp only; rfl) | rfl) ?_
    unfold code_Cost_j1 at hm
    refine W_seq_k fun k1 hk1 => ?_
    refine W_regF [5, 44] fun k kp hk hp => ?_
    simp only [bR, bT, tab, bX, reduceIte, ↓reduceIte, reduceCtorEq, Int.reduceToNat, Nat.reduceDiv, Nat.reduceMod, Nat.reduceLT, Nat.reduceLeDiff, Nat.reduceAdd, Nat.reduceSub, Nat.reduceMul, Nat.reduceEqDiff, Nat.reduceBEq, Nat.reduceBNe, Nat.reduceGT]
    repeat refine ⟨by first | omega | assumption | decide | exact all_len fun _ => rfl | (intro _; omega) | rfl | (and_intros <;> first | omega | assumption | decide | exact all_len fun _ => rfl), ?_⟩
    refine hk _ _ ?_
    clear hk hp k kp
    by_cases h1 : x2 > 0
    · rw [if_pos h1] at hm
      refine W_condt rfl (decide_eq_true h1) ?_
      refine W_regF [3, 45] fun k kp hk hp => ?_
      simp only [bR, bT, tab, bX, reduceIte, ↓reduceIte, reduceCtorEq, Int.reduceToNat, Nat.reduceDiv, Nat.reduceMod, Nat.reduceLT, Nat.reduceLeDiff, Nat.reduceAdd, Nat.reduceSub, Nat.reduceMul, Nat.reduceEqDiff, Nat.reduceBEq, Nat.reduceBNe, Nat.reduceGT]
      repeat refine ⟨by first | omega | assumption | decide | exact all_len fun _ => rfl | (intro _; omega) | rfl | (and_intros <;> first | omega | assumption | decide | exact all_len fun _ => rfl), ?_⟩
      refine hk _ _ ?_
      clear hk hp k kp
      refine W_ret ?_
      refine KThen_r ?_
      refine KBody_ret [] ?_
      obtain rfl := Option.some.inj hm
      simp only [bF, bT, tab, bX, reduceIte, ↓reduceIte, reduceCtorEq, Int.reduceToNat, Nat.reduceDiv, Nat.reduceMod, Nat.reduceLT, Nat.reduceLeDiff, Nat.reduceAdd, Nat.reduceSub, Nat.reduceMul, Nat.reduceEqDiff, Nat.reduceBEq, Nat.reduceBNe, Nat.reduceGT] <;> first | done | rfl | (and_intros <;> first | rfl | omega | (simp; done))
    · rw [if_neg h1] at hm
      refine W_condf rfl (decide_eq_false h1) ?_
      refine W_skip ?_
      refine KThen_n (hk1 _ _ ?_)
      refine W_regF [3, 45, 46] fun k kp hk hp => ?_
      simp only [bR, bT, tab, bX, reduceIte, ↓reduceIte, reduceCtorEq, Int.reduceToNat, Nat.reduceDiv, Nat.reduceMod, Nat.reduceLT, Nat.reduceLeDiff, Nat.reduceAdd, Nat.reduceSub, Nat.reduceMul, Nat.reduceEqDiff, Nat.reduceBEq, Nat.reduceBNe, Nat.reduceGT]
      repeat refine ⟨by first | omega | assumption | decide | exact all_len fun _ => rfl | (intro _; omega) | rfl | (and_intros <;> first | omega | assumption | decide | exact all_len fun _ => rfl), ?_⟩
      refine hk _ _ ?_
      clear hk hp k kp
      refine W_ret ?_
      refine KBody_ret [] ?_
      obtain rfl := Option.some.inj hm
      simp only [bF, bT, tab, bX, reduceIte, ↓reduceIte, reduceCtorEq, Int.reduceToNat, Nat.reduceDiv, Nat.reduceMod, Nat.reduceLT, Nat.reduceLeDiff, Nat.reduceAdd, Nat.reduceSub, Nat.reduceMul, Nat.reduceEqDiff, Nat.reduceBEq, Nat.reduceBNe, Nat.reduceGT] <;> first | done | rfl | (and_intros <;> first | rfl | omega | (simp; done))
end Pam

/- the walk of kinds_Op, printed by a program of ours -/
namespace Pam
open Go Go.Proofs
set_option maxRecDepth 100000 in
set_option maxHeartbeats 1000000 in
theorem kinds_Op_ok (p1 : Int) (r : (Int × Int × Int)) (hm : kinds_Op p1 = some r) : SpecF Try.prog 105 [.c (.int .i64 p1)] (.t [.c (.int .u8 r.1), .c (.int .u8 r.2.1), .c (.int .i64 r.2.2)]) := by
  refine Spec_ofD 32 [.tmp 2, .tmp 3, .tmp 4] Try.func105 rfl rfl rfl (by kernel_rfl) (by simp) ?_
  refine W_eqE (by simp only [argSlots, Env.ofList, List.length_nil, List.length_cons, bE, Nat.reduceDiv, Nat.reduceMod, Nat.reduceLT, Nat.reduceLeDiff, Nat.reduceAdd, Nat.reduceSub, Nat.reduceMul, Nat.reduceEqDiff, Nat.reduceBEq, Nat.reduceBNe, Nat.reduceGT, Int.reduceToNat]; rfl) rfl ?_
  unfold kinds_Op at hm
  refine W_regF [2, 3, 4] fun k kp hk hp => ?_
  simp only [bR, bT, tab, bX, reduceIte, ↓reduceIte, reduceCtorEq, Int.reduceToNat, Nat.reduceDiv, Nat.reduceMod, Nat.reduceLT, Nat.reduceLeDiff, Nat.reduceAdd, Nat.reduceSub, Nat.reduceMul, Nat.reduceEqDiff, Nat.reduceBEq, Nat.reduceBNe, Nat.reduceGT]
  repeat refine ⟨by first | omega | assumption | decide | exact all_len fun _ => rfl | (intro _; omega) | rfl | (and_intros <;> first | omega | assumption | decide | exact all_len fun _ => rfl), ?_⟩
  refine hk _ _ ?_
  clear hk hp k kp
  refine W_seq_k fun k1 hk1 => ?_
  refine W_block ?_
  by_cases h1 : p1 ≥ 1
  · rw [if_pos h1] at hm
    have h1b : decide (p1 ≥ 1) = true := decide_eq_true h1
    refine W_regF [6, 7, 8, 9, 10, 11] fun k kp hk hp => ?_
    simp only [bR, bT, tab, bX, reduceIte, ↓reduceIte, reduceCtorEq, Int.reduceToNat, Nat.reduceDiv, Nat.reduceMod, Nat.reduceLT, Nat.reduceLeDiff, Nat.reduceAdd, Nat.reduceSub, Nat.reduceMul, Nat.reduceEqDiff, Nat.reduceBEq, Nat.reduceBNe, Nat.reduceGT, h1b]
    repeat refine ⟨by first | omega | assumption | decide | exact all_len fun _ => rfl | (intro _; omega) | rfl | (and_intros <;> first | omega | assumption | decide | exact all_len fun _ => rfl), ?_⟩
    refine hk _ _ ?_
    clear hk hp k kp
    by_cases h2 : p1 ≤ 7
    · rw [if_pos h2] at hm
      refine W_condt rfl (decide_eq_true h2) ?_
      refine W_regF [0, 5] fun k kp hk hp => ?_
      simp only [bR, bT, tab, bX, reduceIte, ↓reduceIte, reduceCtorEq, Int.reduceToNat, Nat.reduceDiv, Nat.reduceMod, Nat.reduceLT, Nat.reduceLeDiff, Nat.reduceAdd, Nat.reduceSub, Nat.reduceMul, Nat.reduceEqDiff, Nat.reduceBEq, Nat.reduceBNe, Nat.reduceGT]
      repeat refine ⟨by first | omega | assumption | decide | exact all_len fun _ => rfl | (intro _; omega) | rfl | (and_intros <;> first | omega | assumption | decide | exact all_len fun _ => rfl), ?_⟩
      refine hk _ _ ?_
      clear hk hp k kp
      refine W_ret ?_
      refine KBlock_r ?_
      refine KThen_r ?_
      refine KBody_ret [] ?_
      obtain rfl := Option.some.inj hm
      simp only [bF, bT, tab, bX, reduceIte, ↓reduceIte, reduceCtorEq, Int.reduceToNat, Nat.reduceDiv, Nat.reduceMod, Nat.reduceLT, Nat.reduceLeDiff, Nat.reduceAdd, Nat.reduceSub, Nat.reduceMul, Nat.reduceEqDiff, Nat.reduceBEq, Nat.reduceBNe, Nat.reduceGT] <;> first | done | rfl | (and_intros <;> first | rfl | omega | (simp; done))
    · rw [if_neg h2] at hm
      refine W_condf rfl (decide_eq_false h2) ?_
      by_cases h3 : p1 = 8
      · rw [if_pos h3] at hm
        have h3b : (p1 == 8) = true := beq_iff_eq.2 h3
        refine W_regF [5, 13, 14, 15, 16, 17, 18] fun k kp hk hp => ?_
        simp only [bR, bT, tab, bX, reduceIte, ↓reduceIte, reduceCtorEq, Int.reduceToNat, Nat.reduceDiv, Nat.reduceMod, Nat.reduceLT, Nat.reduceLeDiff, Nat.reduceAdd, Nat.reduceSub, Nat.reduceMul, Nat.reduceEqDiff, Nat.reduceBEq, Nat.reduceBNe, Nat.reduceGT, h3b]
        repeat refine ⟨by first | omega | assumption | decide | exact all_len fun _ => rfl | (intro _; omega) | rfl | (and_intros <;> first | omega | assumption | decide | exact all_len fun _ => rfl), ?_⟩
        refine hk _ _ ?_
        clear hk hp k kp
        refine W_condt rfl rfl ?_
        refine W_regF [0, 12] fun k kp hk hp => ?_
        simp only [bR, bT, tab, bX, reduceIte, ↓reduceIte, reduceCtorEq, Int.reduceToNat, Nat.reduceDiv, Nat.reduceMod, Nat.reduceLT, Nat.reduceLeDiff, Nat.reduceAdd, Nat.reduceSub, Nat.reduceMul, Nat.reduceEqDiff, Nat.reduceBEq, Nat.reduceBNe, Nat.reduceGT]
        repeat refine ⟨by first | omega | assumption | decide | exact all_len fun _ => rfl | (intro _; omega) | rfl | (and_intros <;> first | omega | assumption | decide | exact all_len fun _ => rfl), ?_⟩
        refine hk _ _ ?_
        clear hk hp k kp
        refine W_ret ?_
        refine KBlock_r ?_
        refine KThen_r ?_
        refine KBody_ret [] ?_
        obtain rfl := Option.some.inj hm
        simp only [bF, bT, tab, bX, reduceIte, ↓reduceIte, reduceCtorEq, Int.reduceToNat, Nat.reduceDiv, Nat.reduceMod, Nat.reduceLT, Nat.reduceLeDiff, Nat.reduceAdd, Nat.reduceSub, Nat.reduceMul, Nat.reduceEqDiff, Nat.reduceBEq, Nat.reduceBNe, Nat.reduceGT] <;> first | done | rfl | (and_intros <;> first | rfl | omega | (simp; done))
      · rw [if_neg h3] at hm
        have h3b : (p1 == 8) = false := beq_eq_false_iff_ne.2 h3
        refine W_regF [5, 13, 14, 15, 16, 17, 18] fun k kp hk hp => ?_
        simp only [bR, bT, tab, bX, reduceIte, ↓reduceIte, reduceCtorEq, Int.reduceToNat, Nat.reduceDiv, Nat.reduceMod, Nat.reduceLT, Nat.reduceLeDiff, Nat.reduceAdd, Nat.reduceSub, Nat.reduceMul, Nat.reduceEqDiff, Nat.reduceBEq, Nat.reduceBNe, Nat.reduceGT, h3b]
        repeat refine ⟨by first | omega | assumption | decide | exact all_len fun _ => rfl | (intro _; omega) | rfl | (and_intros <;> first | omega | assumption | decide | exact all_len fun _ => rfl), ?_⟩
        refine hk _ _ ?_
        clear hk hp k kp
        by_cases h4 : p1 = 9
        · rw [if_pos h4] at hm
          refine W_condt rfl (beq_iff_eq.2 h4) ?_
          refine W_regF [0, 12] fun k kp hk hp => ?_
          simp only [bR, bT, tab, bX, reduceIte, ↓reduceIte, reduceCtorEq, Int.reduceToNat, Nat.reduceDiv, Nat.reduceMod, Nat.reduceLT, Nat.reduceLeDiff, Nat.reduceAdd, Nat.reduceSub, Nat.reduceMul, Nat.reduceEqDiff, Nat.reduceBEq, Nat.reduceBNe, Nat.reduceGT]
          repeat refine ⟨by first | omega | assumption | decide | exact all_len fun _ => rfl | (intro _; omega) | rfl | (and_intros <;> first | omega | assumption | decide | exact all_len fun _ => rfl), ?_⟩
          refine hk _ _ ?_
          clear hk hp k kp
          refine W_ret ?_
          refine KBlock_r ?_
          refine KThen_r ?_
          refine KBody_ret [] ?_
          obtain rfl := Option.some.inj hm
          simp only [bF, bT, tab, bX, reduceIte, ↓reduceIte, reduceCtorEq, Int.reduceToNat, Nat.reduceDiv, Nat.reduceMod, Nat.reduceLT, Nat.reduceLeDiff, Nat.reduceAdd, Nat.reduceSub, Nat.reduceMul, Nat.reduceEqDiff, Nat.reduceBEq, Nat.reduceBNe, Nat.reduceGT] <;> first | done | rfl | (and_intros <;> first | rfl | omega | (simp; done))
        · rw [if_neg h4] at hm
          refine W_condf rfl (beq_eq_false_iff_ne.2 h4) ?_
          by_cases h5 : p1 ≥ 10
          · rw [if_pos h5] at hm
            have h5b : decide (p1 ≥ 10) = true := decide_eq_true h5
            refine W_regF [12, 20, 21, 22, 23, 24, 25] fun k kp hk hp => ?_
            simp only [bR, bT, tab, bX, reduceIte, ↓reduceIte, reduceCtorEq, Int.reduceToNat, Nat.reduceDiv, Nat.reduceMod, Nat.reduceLT, Nat.reduceLeDiff, Nat.reduceAdd, Nat.reduceSub, Nat.reduceMul, Nat.reduceEqDiff, Nat.reduceBEq, Nat.reduceBNe, Nat.reduceGT, h5b]
            repeat refine ⟨by first | omega | assumption | decide | exact all_len fun _ => rfl | (intro _; omega) | rfl | (and_intros <;> first | omega | assumption | decide | exact all_len fun _ => rfl), ?_⟩
            refine hk _ _ ?_
            clear hk hp k kp
            by_cases h6 : p1 ≤ 12
            · rw [if_pos h6] at hm
              refine W_condt rfl (decide_eq_true h6) ?_
              refine W_regF [0, 19] fun k kp hk hp => ?_
              simp only [bR, bT, tab, bX, reduceIte, ↓reduceIte, reduceCtorEq, Int.reduceToNat, Nat.reduceDiv, Nat.reduceMod, Nat.reduceLT, Nat.reduceLeDiff, Nat.reduceAdd, Nat.reduceSub, Nat.reduceMul, Nat.reduceEqDiff, Nat.reduceBEq, Nat.reduceBNe, Nat.reduceGT]
              repeat refine ⟨by first | omega | assumption | decide | exact all_len fun _ => rfl | (intro _; omega) | rfl | (and_intros <;> first | omega | assumption | decide | exact all_len fun _ => rfl), ?_⟩
              refine hk _ _ ?_
              clear hk hp k kp
              refine W_ret ?_
              refine KBlock_r ?_
              refine KThen_r ?_
              refine KBody_ret [] ?_
              obtain rfl := Option.some.inj hm
              simp only [bF, bT, tab, bX, reduceIte, ↓reduceIte, reduceCtorEq, Int.reduceToNat, Nat.reduceDiv, Nat.reduceMod, Nat.reduceLT, Nat.reduceLeDiff, Nat.reduceAdd, Nat.reduceSub, Nat.reduceMul, Nat.reduceEqDiff, Nat.reduceBEq, Nat.reduceBNe, Nat.reduceGT] <;> first | done | rfl | (and_intros <;> first | rfl | omega | (simp; done))
            · rw [if_neg h6] at hm
              refine W_condf rfl (decide_eq_false h6) ?_
              refine W_regF [19, 27, 28] fun k kp hk hp => ?_
              simp only [bR, bT, tab, bX, reduceIte, ↓reduceIte, reduceCtorEq, Int.reduceToNat, Nat.reduceDiv, Nat.reduceMod, Nat.reduceLT, Nat.reduceLeDiff, Nat.reduceAdd, Nat.reduceSub, Nat.reduceMul, Nat.reduceEqDiff, Nat.reduceBEq, Nat.reduceBNe, Nat.reduceGT]
              repeat refine ⟨by first | omega | assumption | decide | exact all_len fun _ => rfl | (intro _; omega) | rfl | (and_intros <;> first | omega | assumption | decide | exact all_len fun _ => rfl), ?_⟩
              refine hk _ _ ?_
              clear hk hp k kp
              by_cases h7 : p1 = 13
              · rw [if_pos h7] at hm
                refine W_condt rfl (beq_iff_eq.2 h7) ?_
                refine W_regF [0, 26] fun k kp hk hp => ?_
                simp only [bR, bT, tab, bX, reduceIte, ↓reduceIte, reduceCtorEq, Int.reduceToNat, Nat.reduceDiv, Nat.reduceMod, Nat.reduceLT, Nat.reduceLeDiff, Nat.reduceAdd, Nat.reduceSub, Nat.reduceMul, Nat.reduceEqDiff, Nat.reduceBEq, Nat.reduceBNe, Nat.reduceGT]
                repeat refine ⟨by first | omega | assumption | decide | exact all_len fun _ => rfl | (intro _; omega) | rfl | (and_intros <;> first | omega | assumption | decide | exact all_len fun _ => rfl), ?_⟩
                refine hk _ _ ?_
                clear hk hp k kp
                refine W_ret ?_
                refine KBlock_r ?_
                refine KThen_r ?_
                refine KBody_ret [] ?_
                obtain rfl := Option.some.inj hm
                simp only [bF, bT, tab, bX, reduceIte, ↓reduceIte, reduceCtorEq, Int.reduceToNat, Nat.reduceDiv, Nat.reduceMod, Nat.reduceLT, Nat.reduceLeDiff, Nat.reduceAdd, Nat.reduceSub, Nat.reduceMul, Nat.reduceEqDiff, Nat.reduceBEq, Nat.reduceBNe, Nat.reduceGT] <;> first | done | rfl | (and_intros <;> first | rfl | omega | (simp; done))
              · rw [if_neg h7] at hm
                refine W_condf rfl (beq_eq_false_iff_ne.2 h7) ?_
                refine W_regF [0, 26, 30, 31] fun k kp hk hp => ?_
                simp only [bR, bT, tab, bX, reduceIte, ↓reduceIte, reduceCtorEq, Int.reduceToNat, Nat.reduceDiv, Nat.reduceMod, Nat.reduceLT, Nat.reduceLeDiff, Nat.reduceAdd, Nat.reduceSub, Nat.reduceMul, Nat.reduceEqDiff, Nat.reduceBEq, Nat.reduceBNe, Nat.reduceGT]
                repeat refine ⟨by first | omega | assumption | decide | exact all_len fun _ => rfl | (intro _; omega) | rfl | (and_intros <;> first | omega | assumption | decide | exact all_len fun _ => rfl), ?_⟩
                refine hk _ _ ?_
                clear hk hp k kp
                by_cases h8 : p1 = 14
                · rw [if_pos h8] at hm
                  refine W_condt rfl (beq_iff_eq.2 h8) ?_
                  refine W_regF [29] fun k kp hk hp => ?_
                  simp only [bR, bT, tab, bX, reduceIte, ↓reduceIte, reduceCtorEq, Int.reduceToNat, Nat.reduceDiv, Nat.reduceMod, Nat.reduceLT, Nat.reduceLeDiff, Nat.reduceAdd, Nat.reduceSub, Nat.reduceMul, Nat.reduceEqDiff, Nat.reduceBEq, Nat.reduceBNe, Nat.reduceGT]
                  repeat refine ⟨by first | omega | assumption | decide | exact all_len fun _ => rfl | (intro _; omega) | rfl | (and_intros <;> first | omega | assumption | decide | exact all_len fun _ => rfl), ?_⟩
                  refine hk _ _ ?_
                  clear hk hp k kp
                  refine W_ret ?_
                  refine KBlock_r ?_
                  refine KThen_r ?_
                  refine KBody_ret [] ?_
                  obtain rfl := Option.some.inj hm
                  simp only [bF, bT, tab, bX, reduceIte, ↓reduceIte, reduceCtorEq, Int.reduceToNat, Nat.reduceDiv, Nat.reduceMod, Nat.reduceLT, Nat.reduceLeDiff, Nat.reduceAdd, Nat.reduceSub, Nat.reduceMul, Nat.reduceEqDiff, Nat.reduceBEq, Nat.reduceBNe, Nat.reduceGT] <;> first | done | rfl | (and_intros <;> first | rfl | omega | (simp; done))
                · rw [if_neg h8] at hm
                  refine W_condf rfl (beq_eq_false_iff_ne.2 h8) ?_
                  refine W_skip ?_
                  refine KBlock_n ?_
                  refine KThen_n (hk1 _ _ ?_)
                  refine W_regF [29] fun k kp hk hp => ?_
                  simp only [bR, bT, tab, bX, reduceIte, ↓reduceIte, reduceCtorEq, Int.reduceToNat, Nat.reduceDiv, Nat.reduceMod, Nat.reduceLT, Nat.reduceLeDiff, Nat.reduceAdd, Nat.reduceSub, Nat.reduceMul, Nat.reduceEqDiff, Nat.reduceBEq, Nat.reduceBNe, Nat.reduceGT]
                  repeat refine ⟨by first | omega | assumption | decide | exact all_len fun _ => rfl | (intro _; omega) | rfl | (and_intros <;> first | omega | assumption | decide | exact all_len fun _ => rfl), ?_⟩
                  refine hk _ _ ?_
                  clear hk hp k kp
                  refine W_ret ?_
                  refine KBody_ret [] ?_
                  obtain rfl := Option.some.inj hm
                  simp only [bF, bT, tab, bX, reduceIte, ↓reduceIte, reduceCtorEq, Int.reduceToNat, Nat.reduceDiv, Nat.reduceMod, Nat.reduceLT, Nat.reduceLeDiff, Nat.reduceAdd, Nat.reduceSub, Nat.reduceMul, Nat.reduceEqDiff, Nat.reduceBEq, Nat.reduceBNe, Nat.reduceGT] <;> first | done | rfl | (and_intros <;> first | rfl | omega | (simp; done))
          · rw [if_neg h5] at hm
            have h5b : decide (p1 ≥ 10) = false := decide_eq_false h5
            refine W_regF [12, 20, 21, 22, 23, 24, 25] fun k kp hk hp => ?_
            simp only [bR, bT, tab, bX, reduceIte, ↓reduceIte, reduceCtorEq, Int.reduceToNat, Nat.reduceDiv, Nat.reduceMod, Nat.reduceLT, Nat.reduceLeDiff, Nat.reduceAdd, Nat.reduceSub, Nat.reduceMul, Nat.reduceEqDiff, Nat.reduceBEq, Nat.reduceBNe, Nat.reduceGT, h5b]
            repeat refine ⟨by first | omega | assumption | decide | exact all_len fun _ => rfl | (intro _; omega) | rfl | (and_intros <;> first | omega | assumption | decide | exact all_len fun _ => rfl), ?_⟩
            refine hk _ _ ?_
            clear hk hp k kp
            refine W_condf rfl rfl ?_
            refine W_regF [19, 27, 28] fun k kp hk hp => ?_
            simp only [bR, bT, tab, bX, reduceIte, ↓reduceIte, reduceCtorEq, Int.reduceToNat, Nat.reduceDiv, Nat.reduceMod, Nat.reduceLT, Nat.reduceLeDiff, Nat.reduceAdd, Nat.reduceSub, Nat.reduceMul, Nat.reduceEqDiff, Nat.reduceBEq, Nat.reduceBNe, Nat.reduceGT]
            repeat refine ⟨by first | omega | assumption | decide | exact all_len fun _ => rfl | (intro _; omega) | rfl | (and_intros <;> first | omega | assumption | decide | exact all_len fun _ => rfl), ?_⟩
            refine hk _ _ ?_
            clear hk hp k kp
            by_cases h9 : p1 = 13
            · rw [if_pos h9] at hm
              refine W_condt rfl (beq_iff_eq.2 h9) ?_
              refine W_regF [0, 26] fun k kp hk hp => ?_
              simp only [bR, bT, tab, bX, reduceIte, ↓reduceIte, reduceCtorEq, Int.reduceToNat, Nat.reduceDiv, Nat.reduceMod, Nat.reduceLT, Nat.reduceLeDiff, Nat.reduceAdd, Nat.reduceSub, Nat.reduceMul, Nat.reduceEqDiff, Nat.reduceBEq, Nat.reduceBNe, Nat.reduceGT]
              repeat refine ⟨by first | omega | assumption | decide | exact all_len fun _ => rfl | (intro _; omega) | rfl | (and_intros <;> first | omega | assumption | decide | exact all_len fun _ => rfl), ?_⟩
              refine hk _ _ ?_
              clear hk hp k kp
              refine W_ret ?_
              refine KBlock_r ?_
              refine KThen_r ?_
              refine KBody_ret [] ?_
              obtain rfl := Option.some.inj hm
              simp only [bF, bT, tab, bX, reduceIte, ↓reduceIte, reduceCtorEq, Int.reduceToNat, Nat.reduceDiv, Nat.reduceMod, Nat.reduceLT, Nat.reduceLeDiff, Nat.reduceAdd, Nat.reduceSub, Nat.reduceMul, Nat.reduceEqDiff, Nat.reduceBEq, Nat.reduceBNe, Nat.reduceGT] <;> first | done | rfl | (and_intros <;> first | rfl | omega | (simp; done))
            · rw [if_neg h9] at hm
              refine W_condf rfl (beq_eq_false_iff_ne.2 h9) ?_
              refine W_regF [0, 26, 30, 31] fun k kp hk hp => ?_
              simp only [bR, bT, tab, bX, reduceIte, ↓reduceIte, reduceCtorEq, Int.reduceToNat, Nat.reduceDiv, Nat.reduceMod, Nat.reduceLT, Nat.reduceLeDiff, Nat.reduceAdd, Nat.reduceSub, Nat.reduceMul, Nat.reduceEqDiff, Nat.reduceBEq, Nat.reduceBNe, Nat.reduceGT]
              repeat refine ⟨by first | omega | assumption | decide | exact all_len fun _ => rfl | (intro _; omega) | rfl | (and_intros <;> first | omega | assumption | decide | exact all_len fun _ => rfl), ?_⟩
              refine hk _ _ ?_
              clear hk hp k kp
              by_cases h10 : p1 = 14
              · rw [if_pos h10] at hm
                refine W_condt rfl (beq_iff_eq.2 h10) ?_
                refine W_regF [29] fun k kp hk hp => ?_
                simp only [bR, bT, tab, bX, reduceIte, ↓reduceIte, reduceCtorEq, Int.reduceToNat, Nat.reduceDiv, Nat.reduceMod, Nat.reduceLT, Nat.reduceLeDiff, Nat.reduceAdd, Nat.reduceSub, Nat.reduceMul, Nat.reduceEqDiff, Nat.reduceBEq, Nat.reduceBNe, Nat.reduceGT]
                repeat refine ⟨by first | omega | assumption | decide | exact all_len fun _ => rfl | (intro _; omega) | rfl | (and_intros <;> first | omega | assumption | decide | exact all_len fun _ => rfl), ?_⟩
                refine hk _ _ ?_
                clear hk hp k kp
                refine W_ret ?_
                refine KBlock_r ?_
                refine KThen_r ?_
                refine KBody_ret [] ?_
                obtain rfl := Option.some.inj hm
                simp only [bF, bT, tab, bX, reduceIte, ↓reduceIte, reduceCtorEq, Int.reduceToNat, Nat.reduceDiv, Nat.reduceMod, Nat.reduceLT, Nat.reduceLeDiff, Nat.reduceAdd, Nat.reduceSub, Nat.reduceMul, Nat.reduceEqDiff, Nat.reduceBEq, Nat.reduceBNe, Nat.reduceGT] <;> first | done | rfl | (and_intros <;> first | rfl | omega | (simp; done))
              · rw [if_neg h10] at hm
                refine W_condf rfl (beq_eq_false_iff_ne.2 h10) ?_
                refine W_skip ?_
                refine KBlock_n ?_
                refine KThen_n (hk1 _ _ ?_)
                refine W_regF [29] fun k kp hk hp => ?_
                simp only [bR, bT, tab, bX, reduceIte, ↓reduceIte, reduceCtorEq, Int.reduceToNat, Nat.reduceDiv, Nat.reduceMod, Nat.reduceLT, Nat.reduceLeDiff, Nat.reduceAdd, Nat.reduceSub, Nat.reduceMul, Nat.reduceEqDiff, Nat.reduceBEq, Nat.reduceBNe, Nat.reduceGT]
                repeat refine ⟨by first | omega | assumption | decide | exact all_len fun _ => rfl | (intro _; omega) | rfl | (and_intros <;> first | omega | assumption | decide | exact all_len fun _ => rfl), ?_⟩
                refine hk _ _ ?_
                clear hk hp k kp
                refine W_ret ?_
                refine KBody_ret [] ?_
                obtain rfl := Option.some.inj hm
                simp only [bF, bT, tab, bX, reduceIte, ↓reduceIte, reduceCtorEq, Int.reduceToNat, Nat.reduceDiv, Nat.reduceMod, Nat.reduceLT, Nat.reduceLeDiff, Nat.reduceAdd, Nat.reduceSub, Nat.reduceMul, Nat.reduceEqDiff, Nat.reduceBEq, Nat.reduceBNe, Nat.reduceGT] <;> first | done | rfl | (and_intros <;> first | rfl | omega | (simp; done))
  · rw [if_neg h1] at hm
    have h1b : decide (p1 ≥ 1) = false := decide_eq_false h1
    refine W_regF [6, 7, 8, 9, 10, 11] fun k kp hk hp => ?_
    simp only [bR, bT, tab, bX, reduceIte, ↓reduceIte, reduceCtorEq, Int.reduceToNat, Nat.reduceDiv, Nat.reduceMod, Nat.reduceLT, Nat.reduceLeDiff, Nat.reduceAdd, Nat.reduceSub, Nat.reduceMul, Nat.reduceEqDiff, Nat.reduceBEq, Nat.reduceBNe, Nat.reduceGT, h1b]
    repeat refine ⟨by first | omega | assumption | decide | exact all_len fun _ => rfl | (intro _; omega) | rfl | (and_intros <;> first | omega | assumption | decide | exact all_len fun _ => rfl), ?_⟩
    refine hk _ _ ?_
    clear hk hp k kp
    refine W_condf rfl rfl ?_
    by_cases h11 : p1 = 8
    · rw [if_pos h11] at hm
      have h11b : (p1 == 8) = true := beq_iff_eq.2 h11
      refine W_regF [5, 13, 14, 15, 16, 17, 18] fun k kp hk hp => ?_
      simp only [bR, bT, tab, bX, reduceIte, ↓reduceIte, reduceCtorEq, Int.reduceToNat, Nat.reduceDiv, Nat.reduceMod, Nat.reduceLT, Nat.reduceLeDiff, Nat.reduceAdd, Nat.reduceSub, Nat.reduceMul, Nat.reduceEqDiff, Nat.reduceBEq, Nat.reduceBNe, Nat.reduceGT, h11b]
      repeat refine ⟨by first | omega | assumption | decide | exact all_len fun _ => rfl | (intro _; omega) | rfl | (and_intros <;> first | omega | assumption | decide | exact all_len fun _ => rfl), ?_⟩
      refine hk _ _ ?_
      clear hk hp k kp
      refine W_condt rfl rfl ?_
      refine W_regF [0, 12] fun k kp hk hp => ?_
      simp only [bR, bT, tab, bX, reduceIte, ↓reduceIte, reduceCtorEq, Int.reduceToNat, Nat.reduceDiv, Nat.reduceMod, Nat.reduceLT, Nat.reduceLeDiff, Nat.reduceAdd, Nat.reduceSub, Nat.reduceMul, Nat.reduceEqDiff, Nat.reduceBEq, Nat.reduceBNe, Nat.reduceGT]
      repeat refine ⟨by first | omega | assumption | decide | exact all_len fun _ => rfl | (intro _; omega) | rfl | (and_intros <;> first | omega | assumption | decide | exact all_len fun _ => rfl), ?_⟩
      refine hk _ _ ?_
      clear hk hp k kp
      refine W_ret ?_
      refine KBlock_r ?_
      refine KThen_r ?_
      refine KBody_ret [] ?_
      obtain rfl := Option.some.inj hm
      simp only [bF, bT, tab, bX, reduceIte, ↓reduceIte, reduceCtorEq, Int.reduceToNat, Nat.reduceDiv, Nat.reduceMod, Nat.reduceLT, Nat.reduceLeDiff, Nat.reduceAdd, Nat.reduceSub, Nat.reduceMul, Nat.reduceEqDiff, Nat.reduceBEq, Nat.reduceBNe, Nat.reduceGT] <;> first | done | rfl | (and_intros <;> first | rfl | omega | (simp; done))
    · rw [if_neg h11] at hm
      have h11b : (p1 == 8) = false := beq_eq_false_iff_ne.2 h11
      refine W_regF [5, 13, 14, 15, 16, 17, 18] fun k kp hk hp => ?_
      simp only [bR, bT, tab, bX, reduceIte, ↓reduceIte, reduceCtorEq, Int.reduceToNat, Nat.reduceDiv, Nat.reduceMod, Nat.reduceLT, Nat.reduceLeDiff, Nat.reduceAdd, Nat.reduceSub, Nat.reduceMul, Nat.reduceEqDiff, Nat.reduceBEq, Nat.reduceBNe, Nat.reduceGT, h11b]
      repeat refine ⟨by first | omega | assumption | decide | exact all_len fun _ => rfl | (intro _; omega) | rfl | (and_intros <;> first | omega | assumption | decide | exact all_len fun _ => rfl), ?_⟩
      refine hk _ _ ?_
      clear hk hp k kp
      by_cases h12 : p1 = 9
      · rw [if_pos h12] at hm
        refine W_condt rfl (beq_iff_eq.2 h12) ?_
        refine W_regF [0, 12] fun k kp hk hp => ?_
        simp only [bR, bT, tab, bX, reduceIte, ↓reduceIte, reduceCtorEq, Int.reduceToNat, Nat.reduceDiv, Nat.reduceMod, Nat.reduceLT, Nat.reduceLeDiff, Nat.reduceAdd, Nat.reduceSub, Nat.reduceMul, Nat.reduceEqDiff, Nat.reduceBEq, Nat.reduceBNe, Nat.reduceGT]
        repeat refine ⟨by first | omega | assumption | decide | exact all_len fun _ => rfl | (intro _; omega) | rfl | (and_intros <;> first | omega | assumption | decide | exact all_len fun _ => rfl), ?_⟩
        refine hk _ _ ?_
        clear hk hp k kp
        refine W_ret ?_
        refine KBlock_r ?_
        refine KThen_r ?_
        refine KBody_ret [] ?_
        obtain rfl := Option.some.inj hm
        simp only [bF, bT, tab, bX, reduceIte, ↓reduceIte, reduceCtorEq, Int.reduceToNat, Nat.reduceDiv, Nat.reduceMod, Nat.reduceLT, Nat.reduceLeDiff, Nat.reduceAdd, Nat.reduceSub, Nat.reduceMul, Nat.reduceEqDiff, Nat.reduceBEq, Nat.reduceBNe, Nat.reduceGT] <;> first | done | rfl | (and_intros <;> first | rfl | omega | (simp; done))
      · rw [if_neg h12] at hm
        refine W_condf rfl (beq_eq_false_iff_ne.2 h12) ?_
        by_cases h13 : p1 ≥ 10
        · rw [if_pos h13] at hm
          have h13b : decide (p1 ≥ 10) = true := decide_eq_true h13
          refine W_regF [12, 20, 21, 22, 23, 24, 25] fun k kp hk hp => ?_
          simp only [bR, bT, tab, bX, reduceIte, ↓reduceIte, reduceCtorEq, Int.reduceToNat, Nat.reduceDiv, Nat.reduceMod, Nat.reduceLT, Nat.reduceLeDiff, Nat.reduceAdd, Nat.reduceSub, Nat.reduceMul, Nat.reduceEqDiff, Nat.reduceBEq, Nat.reduceBNe, Nat.reduceGT, h13b]
          repeat refine ⟨by first | omega | assumption | decide | exact all_len fun _ => rfl | (intro _; omega) | rfl | (and_intros <;> first | omega | assumption | decide | exact all_len fun _ => rfl), ?_⟩
          refine hk _ _ ?_
          clear hk hp k kp
          by_cases h14 : p1 ≤ 12
          · rw [if_pos h14] at hm
            refine W_condt rfl (decide_eq_true h14) ?_
            refine W_regF [0, 19] fun k kp hk hp => ?_
            simp only [bR, bT, tab, bX, reduceIte, ↓reduceIte, reduceCtorEq, Int.reduceToNat, Nat.reduceDiv, Nat.reduceMod, Nat.reduceLT, Nat.reduceLeDiff, Nat.reduceAdd, Nat.reduceSub, Nat.reduceMul, Nat.reduceEqDiff, Nat.reduceBEq, Nat.reduceBNe, Nat.reduceGT]
            repeat refine ⟨by first | omega | assumption | decide | exact all_len fun _ => rfl | (intro _; omega) | rfl | (and_intros <;> first | omega | assumption | decide | exact all_len fun _ => rfl), ?_⟩
            refine hk _ _ ?_
            clear hk hp k kp
            refine W_ret ?_
            refine KBlock_r ?_
            refine KThen_r ?_
            refine KBody_ret [] ?_
            obtain rfl := Option.some.inj hm
            simp only [bF, bT, tab, bX, reduceIte, ↓reduceIte, reduceCtorEq, Int.reduceToNat, Nat.reduceDiv, Nat.reduceMod, Nat.reduceLT, Nat.reduceLeDiff, Nat.reduceAdd, Nat.reduceSub, Nat.reduceMul, Nat.reduceEqDiff, Nat.reduceBEq, Nat.reduceBNe, Nat.reduceGT] <;> first | done | rfl | (and_intros <;> first | rfl | omega | (simp; done))
          · rw [if_neg h14] at hm
            refine W_condf rfl (decide_eq_false h14) ?_
            refine W_regF [19, 27, 28] fun k kp hk hp => ?_
            simp only [bR, bT, tab, bX, reduceIte, ↓reduceIte, reduceCtorEq, Int.reduceToNat, Nat.reduceDiv, Nat.reduceMod, Nat.reduceLT, Nat.reduceLeDiff, Nat.reduceAdd, Nat.reduceSub, Nat.reduceMul, Nat.reduceEqDiff, Nat.reduceBEq, Nat.reduceBNe, Nat.reduceGT]
            repeat refine ⟨by first | omega | assumption | decide | exact all_len fun _ => rfl | (intro _; omega) | rfl | (and_intros <;> first | omega | assumption | decide | exact all_len fun _ => rfl), ?_⟩
            refine hk _ _ ?_
            clear hk hp k kp
            by_cases h15 : p1 = 13
            · rw [if_pos h15] at hm
              refine W_condt rfl (beq_iff_eq.2 h15) ?_
              refine W_regF [0, 26] fun k kp hk hp => ?_
              simp only [bR, bT, tab, bX, reduceIte, ↓reduceIte, reduceCtorEq, Int.reduceToNat, Nat.reduceDiv, Nat.reduceMod, Nat.reduceLT, Nat.reduceLeDiff, Nat.reduceAdd, Nat.reduceSub, Nat.reduceMul, Nat.reduceEqDiff, Nat.reduceBEq, Nat.reduceBNe, Nat.reduceGT]
              repeat refine ⟨by first | omega | assumption | decide | exact all_len fun _ => rfl | (intro _; omega) | rfl | (and_intros <;> first | omega | assumption | decide | exact all_len fun _ => rfl), ?_⟩
              refine hk _ _ ?_
              clear hk hp k kp
              refine W_ret ?_
              refine KBlock_r ?_
              refine KThen_r ?_
              refine KBody_ret [] ?_
              obtain rfl := Option.some.inj hm
              simp only [bF, bT, tab, bX, reduceIte, ↓reduceIte, reduceCtorEq, Int.reduceToNat, Nat.reduceDiv, Nat.reduceMod, Nat.reduceLT, Nat.reduceLeDiff, Nat.reduceAdd, Nat.reduceSub, Nat.reduceMul, Nat.reduceEqDiff, Nat.reduceBEq, Nat.reduceBNe, Nat.reduceGT] <;> first | done | rfl | (and_intros <;> first | rfl | omega | (simp; done))
            · rw [if_neg h15] at hm
              refine W_condf rfl (beq_eq_false_iff_ne.2 h15) ?_
              refine W_regF [0, 26, 30, 31] fun k kp hk hp => ?_
              simp only [bR, bT, tab, bX, reduceIte, ↓reduceIte, reduceCtorEq, Int.reduceToNat, Nat.reduceDiv, Nat.reduceMod, Nat.reduceLT, Nat.reduceLeDiff, Nat.reduceAdd, Nat.reduceSub, Nat.reduceMul, Nat.reduceEqDiff, Nat.reduceBEq, Nat.reduceBNe, Nat.reduceGT]
              repeat refine ⟨by first | omega | assumption | decide | exact all_len fun _ => rfl | (intro _; omega) | rfl | (and_intros <;> first | omega | assumption | decide | exact all_len fun _ => rfl), ?_⟩
              refine hk _ _ ?_
              clear hk hp k kp
              by_cases h16 : p1 = 14
              · rw [if_pos h16] at hm
                refine W_condt rfl (beq_iff_eq.2 h16) ?_
                refine W_regF [29] fun k kp hk hp => ?_
                simp only [bR, bT, tab, bX, reduceIte, ↓reduceIte, reduceCtorEq, Int.reduceToNat, Nat.reduceDiv, Nat.reduceMod, Nat.reduceLT, Nat.reduceLeDiff, Nat.reduceAdd, Nat.reduceSub, Nat.reduceMul, Nat.reduceEqDiff, Nat.reduceBEq, Nat.reduceBNe, Nat.reduceGT]
                repeat refine ⟨by first | omega | assumption | decide | exact all_len fun _ => rfl | (intro _; omega) | rfl | (and_intros <;> first | omega | assumption | decide | exact all_len fun _ => rfl), ?_⟩
                refine hk _ _ ?_
                clear hk hp k kp
                refine W_ret ?_
                refine KBlock_r ?_
                refine KThen_r ?_
                refine KBody_ret [] ?_
                obtain rfl := Option.some.inj hm
                simp only [bF, bT, tab, bX, reduceIte, ↓reduceIte, reduceCtorEq, Int.reduceToNat, Nat.reduceDiv, Nat.reduceMod, Nat.reduceLT, Nat.reduceLeDiff, Nat.reduceAdd, Nat.reduceSub, Nat.reduceMul, Nat.reduceEqDiff, Nat.reduceBEq, Nat.reduceBNe, Nat.reduceGT] <;> first | done | rfl | (and_intros <;> first | rfl | omega | (simp; done))
              · rw [if_neg h16] at hm
                refine W_condf rfl (beq_eq_false_iff_ne.2 h16) ?_
                refine W_skip ?_
                refine KBlock_n ?_
                refine KThen_n (hk1 _ _ ?_)
                refine W_regF [29] fun k kp hk hp => ?_
                simp only [bR, bT, tab, bX, reduceIte, ↓reduceIte, reduceCtorEq, Int.reduceToNat, Nat.reduceDiv, Nat.reduceMod, Nat.reduceLT, Nat.reduceLeDiff, Nat.reduceAdd, Nat.reduceSub, Nat.reduceMul, Nat.reduceEqDiff, Nat.reduceBEq, Nat.reduceBNe, Nat.reduceGT]
                repeat refine ⟨by first | omega | assumption | decide | exact all_len fun _ => rfl | (intro _; omega) | rfl | (and_intros <;> first | omega | assumption | decide | exact all_len fun _ => rfl), ?_⟩
                refine hk _ _ ?_
                clear hk hp k kp
                refine W_ret ?_
                refine KBody_ret [] ?_
                obtain rfl := Option.some.inj hm
                simp only [bF, bT, tab, bX, reduceIte, ↓reduceIte, reduceCtorEq, Int.reduceToNat, Nat.reduceDiv, Nat.reduceMod, Nat.reduceLT, Nat.reduceLeDiff, Nat.reduceAdd, Nat.reduceSub, Nat.reduceMul, Nat.reduceEqDiff, Nat.reduceBEq, Nat.reduceBNe, Nat.reduceGT] <;> first | done | rfl | (and_intros <;> first | rfl | omega | (simp; done))
        · rw [if_neg h13] at hm
          have h13b : decide (p1 ≥ 10) = false := decide_eq_false h13
          refine W_regF [12, 20, 21, 22, 23, 24, 25] fun k kp hk hp => ?_
          simp only [bR, bT, tab, bX, reduceIte, ↓reduceIte, reduceCtorEq, Int.reduceToNat, Nat.reduceDiv, Nat.reduceMod, Nat.reduceLT, Nat.reduceLeDiff, Nat.reduceAdd, Nat.reduceSub, Nat.reduceMul, Nat.reduceEqDiff, Nat.reduceBEq, Nat.reduceBNe, Nat.reduceGT, h13b]
          repeat refine ⟨by first | omega | assumption | decide | exact all_len fun _ => rfl | (intro _; omega) | rfl | (and_intros <;> first | omega | assumption | decide | exact all_len fun _ => rfl), ?_⟩
          refine hk _ _ ?_
          clear hk hp k kp
          refine W_condf rfl rfl ?_
          refine W_regF [19, 27, 28] fun k kp hk hp => ?_
          simp only [bR, bT, tab, bX, reduceIte, ↓reduceIte, reduceCtorEq, Int.reduceToNat, Nat.reduceDiv, Nat.reduceMod, Nat.reduceLT, Nat.reduceLeDiff, Nat.reduceAdd, Nat.reduceSub, Nat.reduceMul, Nat.reduceEqDiff, Nat.reduceBEq, Nat.reduceBNe, Nat.reduceGT]
          repeat refine ⟨by first | omega | assumption | decide | exact all_len fun _ => rfl | (intro _; omega) | rfl | (and_intros <;> first | omega | assumption | decide | exact all_len fun _ => rfl), ?_⟩
          refine hk _ _ ?_
          clear hk hp k kp
          by_cases h17 : p1 = 13
          · rw [if_pos h17] at hm
            refine W_condt rfl (beq_iff_eq.2 h17) ?_
            refine W_regF [0, 26] fun k kp hk hp => ?_
            simp only [bR, bT, tab, bX, reduceIte, ↓reduceIte, reduceCtorEq, Int.reduceToNat, Nat.reduceDiv, Nat.reduceMod, Nat.reduceLT, Nat.reduceLeDiff, Nat.reduceAdd, Nat.reduceSub, Nat.reduceMul, Nat.reduceEqDiff, Nat.reduceBEq, Nat.reduceBNe, Nat.reduceGT]
            repeat refine ⟨by first | omega | assumption | decide | exact all_len fun _ => rfl | (intro _; omega) | rfl | (and_intros <;> first | omega | assumption | decide | exact all_len fun _ => rfl), ?_⟩
            refine hk _ _ ?_
            clear hk hp k kp
            refine W_ret ?_
            refine KBlock_r ?_
            refine KThen_r ?_
            refine KBody_ret [] ?_
            obtain rfl := Option.some.inj hm
            simp only [bF, bT, tab, bX, reduceIte, ↓reduceIte, reduceCtorEq, Int.reduceToNat, Nat.reduceDiv, Nat.reduceMod, Nat.reduceLT, Nat.reduceLeDiff, Nat.reduceAdd, Nat.reduceSub, Nat.reduceMul, Nat.reduceEqDiff, Nat.reduceBEq, Nat.reduceBNe, Nat.reduceGT] <;> first | done | rfl | (and_intros <;> first | rfl | omega | (simp; done))
          · rw [if_neg h17] at hm
            refine W_condf rfl (beq_eq_false_iff_ne.2 h17) ?_
            refine W_regF [0, 26, 30, 31] fun k kp hk hp => ?_
            simp only [bR, bT, tab, bX, reduceIte, ↓reduceIte, reduceCtorEq, Int.reduceToNat, Nat.reduceDiv, Nat.reduceMod, Nat.reduceLT, Nat.reduceLeDiff, Nat.reduceAdd, Nat.reduceSub, Nat.reduceMul, Nat.reduceEqDiff, Nat.reduceBEq, Nat.reduceBNe, Nat.reduceGT]
            repeat refine ⟨by first | omega | assumption | decide | exact all_len fun _ => rfl | (intro _; omega) | rfl | (and_intros <;> first | omega | assumption | decide | exact all_len fun _ => rfl), ?_⟩
            refine hk _ _ ?_
            clear hk hp k kp
            by_cases h18 : p1 = 14
            · rw [if_pos h18] at hm
              refine W_condt rfl (beq_iff_eq.2 h18) ?_
              refine W_regF [29] fun k kp hk hp => ?_
              simp only [bR, bT, tab, bX, reduceIte, ↓reduceIte, reduceCtorEq, Int.reduceToNat, Nat.reduceDiv, Nat.reduceMod, Nat.reduceLT, Nat.reduceLeDiff, Nat.reduceAdd, Nat.reduceSub, Nat.reduceMul, Nat.reduceEqDiff, Nat.reduceBEq, Nat.reduceBNe, Nat.reduceGT]
              repeat refine ⟨by first | omega | assumption | decide | exact all_len fun _ => rfl | (intro _; omega) | rfl | (and_intros <;> first | omega | assumption | decide | exact all_len fun _ => rfl), ?_⟩
              refine hk _ _ ?_
              clear hk hp k kp
              refine W_ret ?_
              refine KBlock_r ?_
              refine KThen_r ?_
              refine KBody_ret [] ?_
              obtain rfl := Option.some.inj hm
              simp only [bF, bT, tab, bX, reduceIte, ↓reduceIte, reduceCtorEq, Int.reduceToNat, Nat.reduceDiv, Nat.reduceMod, Nat.reduceLT, Nat.reduceLeDiff, Nat.reduceAdd, Nat.reduceSub, Nat.reduceMul, Nat.reduceEqDiff, Nat.reduceBEq, Nat.reduceBNe, Nat.reduceGT] <;> first | done | rfl | (and_intros <;> first | rfl | omega | (simp; done))
            · rw [if_neg h18] at hm
              refine W_condf rfl (beq_eq_false_iff_ne.2 h18) ?_
              refine W_skip ?_
              refine KBlock_n ?_
              refine KThen_n (hk1 _ _ ?_)
              refine W_regF [29] fun k kp hk hp => ?_
              simp only [bR, bT, tab, bX, reduceIte, ↓reduceIte, reduceCtorEq, Int.reduceToNat, Nat.reduceDiv, Nat.reduceMod, Nat.reduceLT, Nat.reduceLeDiff, Nat.reduceAdd, Nat.reduceSub, Nat.reduceMul, Nat.reduceEqDiff, Nat.reduceBEq, Nat.reduceBNe, Nat.reduceGT]
              repeat refine ⟨by first | omega | assumption | decide | exact all_len fun _ => rfl | (intro _; omega) | rfl | (and_intros <;> first | omega | assumption | decide | exact all_len fun _ => rfl), ?_⟩
              refine hk _ _ ?_
              clear hk hp k kp
              refine W_ret ?_
              refine KBody_ret [] ?_
              obtain rfl := Option.some.inj hm
              simp only [bF, bT, tab, bX, reduceIte, ↓reduceIte, reduceCtorEq, Int.reduceToNat, Nat.reduceDiv, Nat.reduceMod, Nat.reduceLT, Nat.reduceLeDiff, Nat.reduceAdd, Nat.reduceSub, Nat.reduceMul, Nat.reduceEqDiff, Nat.reduceBEq, Nat.reduceBNe, Nat.reduceGT] <;> first | done | rfl | (and_intros <;> first | rfl | omega | (simp; done))
end Pam

/- the walk of code_judge_reg_1, printed by a program of ours -/
namespace Pam
open Go Go.Proofs
set_option maxRecDepth 100000 in
set_option maxHeartbeats 1000000 in
theorem code_judge_reg_1_ok (p1 : Int) (p2 : Tjudge) (r : Bool) (hm : code_judge_reg_1 p1 p2 = some r) : Spec Try.prog 129 [.c (.int .i64 p1), .c (.optr 0 0)] [.box [.int .i64 p2.m_.cells, .int .i64 p2.m_.regs, .int .i64 p2.m_.cost, .tree 1 (p2.m_.put.map (eK .i64)), .tree 1 (p2.m_.bools.map (eK .i64)), .tree 1 (p2.m_.get.map (eK .i64)), .tree 6 (p2.m_.code.map TIns.enc)]] (fun p σ => (p = .c (.bool r) ∧ σ = [.box [.int .i64 p2.m_.cells, .int .i64 p2.m_.regs, .int .i64 p2.m_.cost, .tree 1 (p2.m_.put.map (eK .i64)), .tree 1 (p2.m_.bools.map (eK .i64)), .tree 1 (p2.m_.get.map (eK .i64)), .tree 6 (p2.m_.code.map TIns.enc)]])) (fun _ _ => False) := by
  refine Spec_ofD 13 [.tmp 3] Try.func129 rfl rfl rfl (by kernel_rfl) (by simp) ?_
  refine W_eqE (by simp only [argSlots, Env.ofList, List.length_nil, List.length_cons, bE, Nat.reduceDiv, Nat.reduceMod, Nat.reduceLT, Nat.reduceLeDiff, Nat.reduceAdd, Nat.reduceSub, Nat.reduceMul, Nat.reduceEqDiff, Nat.reduceBEq, Nat.reduceBNe, Nat.reduceGT, Int.reduceToNat]; rfl) rfl ?_
  unfold code_judge_reg_1 at hm
  refine W_regF [3] fun k kp hk hp => ?_
  simp only [bR, bT, tab, bX, reduceIte, ↓reduceIte, reduceCtorEq, Int.reduceToNat, Nat.reduceDiv, Nat.reduceMod, Nat.reduceLT, Nat.reduceLeDiff, Nat.reduceAdd, Nat.reduceSub, Nat.reduceMul, Nat.reduceEqDiff, Nat.reduceBEq, Nat.reduceBNe, Nat.reduceGT]
  repeat refine ⟨by first | omega | assumption | decide | exact all_len fun _ => rfl | (intro _; omega) | rfl | (and_intros <;> first | omega | assumption | decide | exact all_len fun _ => rfl), ?_⟩
  refine hk _ _ ?_
  clear hk hp k kp
  by_cases h1 : p1 < 0
  · rw [if_pos h1] at hm
    have h1b : decide (p1 < 0) = true := decide_eq_true h1
    refine W_regF [0, 1, 4, 5, 6, 7, 8, 9, 10, 11, 12] fun k kp hk hp => ?_
    simp only [bR, bT, tab, bX, reduceIte, ↓reduceIte, reduceCtorEq, Int.reduceToNat, Nat.reduceDiv, Nat.reduceMod, Nat.reduceLT, Nat.reduceLeDiff, Nat.reduceAdd, Nat.reduceSub, Nat.reduceMul, Nat.reduceEqDiff, Nat.reduceBEq, Nat.reduceBNe, Nat.reduceGT, h1b]
    repeat refine ⟨by first | omega | assumption | decide | exact all_len fun _ => rfl | (intro _; omega) | rfl | (and_intros <;> first | omega | assumption | decide | exact all_len fun _ => rfl), ?_⟩
    refine hk _ _ ?_
    clear hk hp k kp
    refine W_ret ?_
    refine KBody_ret [.box [.int .i64 p2.m_.cells, .int .i64 p2.m_.regs, .int .i64 p2.m_.cost, .tree 1 (p2.m_.put.map (eK .i64)), .tree 1 (p2.m_.bools.map (eK .i64)), .tree 1 (p2.m_.get.map (eK .i64)), .tree 6 (p2.m_.code.map TIns.enc)]] ?_
    obtain rfl := Option.some.inj hm
    simp only [bF, bT, tab, bX, reduceIte, ↓reduceIte, reduceCtorEq, Int.reduceToNat, Nat.reduceDiv, Nat.reduceMod, Nat.reduceLT, Nat.reduceLeDiff, Nat.reduceAdd, Nat.reduceSub, Nat.reduceMul, Nat.reduceEqDiff, Nat.reduceBEq, Nat.reduceBNe, Nat.reduceGT] <;> first | done | rfl | (and_intros <;> first | rfl | omega | (simp; done))
  · rw [if_neg h1] at hm
    have h1b : decide (p1 < 0) = false := decide_eq_false h1
    refine W_regF [0, 1, 4, 5, 6, 7, 8, 9, 10, 11, 12] fun k kp hk hp => ?_
    simp only [bR, bT, tab, bX, reduceIte, ↓reduceIte, reduceCtorEq, Int.reduceToNat, Nat.reduceDiv, Nat.reduceMod, Nat.reduceLT, Nat.reduceLeDiff, Nat.reduceAdd, Nat.reduceSub, Nat.reduceMul, Nat.reduceEqDiff, Nat.reduceBEq, Nat.reduceBNe, Nat.reduceGT, h1b]
    repeat refine ⟨by first | omega | assumption | decide | exact all_len fun _ => rfl | (intro _; omega) | rfl | (and_intros <;> first | omega | assumption | decide | exact all_len fun _ => rfl), ?_⟩
    refine hk _ _ ?_
    clear hk hp k kp
    refine W_ret ?_
    refine KBody_ret [.box [.int .i64 p2.m_.cells, .int .i64 p2.m_.regs, .int .i64 p2.m_.cost, .tree 1 (p2.m_.put.map (eK .i64)), .tree 1 (p2.m_.bools.map (eK .i64)), .tree 1 (p2.m_.get.map (eK .i64)), .tree 6 (p2.m_.code.map TIns.enc)]] ?_
    obtain rfl := Option.some.inj hm
    simp only [bF, bT, tab, bX, reduceIte, ↓reduceIte, reduceCtorEq, Int.reduceToNat, Nat.reduceDiv, Nat.reduceMod, Nat.reduceLT, Nat.reduceLeDiff, Nat.reduceAdd, Nat.reduceSub, Nat.reduceMul, Nat.reduceEqDiff, Nat.reduceBEq, Nat.reduceBNe, Nat.reduceGT] <;> first | done | rfl | (and_intros <;> first | rfl | omega | (simp; done))
end Pam

/- the walk of slices_IndexFunc_int_int, printed by a program of ours -/
namespace Pam
open Go Go.Proofs
set_option maxRecDepth 100000 in
set_option maxHeartbeats 1000000 in
theorem slices_IndexFunc_int_int_ok (p1 : List Int) (p2 : Tjudge) (r : Int) (hm : slices_IndexFunc_int_int p1 p2 = some r) : Spec Try.prog 136 [.c (.tree 1 (p1.map (eK .i64))), .c (.fn 129 [.optr 0 0])] [.box [.int .i64 p2.m_.cells, .int .i64 p2.m_.regs, .int .i64 p2.m_.cost, .tree 1 (p2.m_.put.map (eK .i64)), .tree 1 (p2.m_.bools.map (eK .i64)), .tree 1 (p2.m_.get.map (eK .i64)), .tree 6 (p2.m_.code.map TIns.enc)]] (fun p σ => (p = .c (.int .i64 r) ∧ σ = [.box [.int .i64 p2.m_.cells, .int .i64 p2.m_.regs, .int .i64 p2.m_.cost, .tree 1 (p2.m_.put.map (eK .i64)), .tree 1 (p2.m_.bools.map (eK .i64)), .tree 1 (p2.m_.get.map (eK .i64)), .tree 6 (p2.m_.code.map TIns.enc)]])) (fun _ _ => False) := by
  refine Spec_ofD 19 [.tmp 4] Try.func136 rfl rfl rfl (by kernel_rfl) (by simp) ?_
  refine W_eqE (by simp only [argSlots, Env.ofList, List.length_nil, List.length_cons, bE, Nat.reduceDiv, Nat.reduceMod, Nat.reduceLT, Nat.reduceLeDiff, Nat.reduceAdd, Nat.reduceSub, Nat.reduceMul, Nat.reduceEqDiff, Nat.reduceBEq, Nat.reduceBNe, Nat.reduceGT, Int.reduceToNat]; rfl) rfl ?_
  unfold slices_IndexFunc_int_int at hm
  refine W_regF [4] fun k kp hk hp => ?_
  simp only [bR, bT, tab, bX, reduceIte, ↓reduceIte, reduceCtorEq, Int.reduceToNat, Nat.reduceDiv, Nat.reduceMod, Nat.reduceLT, Nat.reduceLeDiff, Nat.reduceAdd, Nat.reduceSub, Nat.reduceMul, Nat.reduceEqDiff, Nat.reduceBEq, Nat.reduceBNe, Nat.reduceGT]
  repeat refine ⟨by first | omega | assumption | decide | exact all_len fun _ => rfl | (intro _; omega) | rfl | (and_intros <;> first | omega | assumption | decide | exact all_len fun _ => rfl), ?_⟩
  refine hk _ _ ?_
  clear hk hp k kp
  refine W_joinM (S := Unit) (V := Unit) [0, 1, 4, 5, 6, 7, 8, 9, 10, 11, 12, 13, 14, 15, 16, 17, 18] (fun _ _ => []) (fun _ _ => [.box [.int .i64 p2.m_.cells, .int .i64 p2.m_.regs, .int .i64 p2.m_.cost, .tree 1 (p2.m_.put.map (eK .i64)), .tree 1 (p2.m_.bools.map (eK .i64)), .tree 1 (p2.m_.get.map (eK .i64)), .tree 6 (p2.m_.code.map TIns.enc)]]) (fun _ => slices_IndexFunc_int_int_j1 = some r) ?_ ?_
  · skip
    refine W_regF [6] fun k kp hk hp => ?_
    simp only [bR, bT, tab, bX, reduceIte, ↓reduceIte, reduceCtorEq, Int.reduceToNat, Nat.reduceDiv, Nat.reduceMod, Nat.reduceLT, Nat.reduceLeDiff, Nat.reduceAdd, Nat.reduceSub, Nat.reduceMul, Nat.reduceEqDiff, Nat.reduceBEq, Nat.reduceBNe, Nat.reduceGT]
    repeat refine ⟨by first | omega | assumption | decide | exact all_len fun _ => rfl | (intro _; omega) | rfl | (and_intros <;> first | omega | assumption | decide | exact all_len fun _ => rfl), ?_⟩
    refine hk _ _ ?_
    clear hk hp k kp
    refine W_block ?_
    obtain ⟨o1, hl1, hm1⟩ := bd hm
    refine W_loopM (S := Int) (V := Unit) (O := Unit ⊕ Int) [4, 5, 8, 9, 10, 11, 12, 13, 14, 15, 16, 17, 18] (fun x3 _ => [(8, .c (.int .i64 x3))]) (fun x3 _ => [.box [.int .i64 p2.m_.cells, .int .i64 p2.m_.regs, .int .i64 p2.m_.cost, .tree 1 (p2.m_.put.map (eK .i64)), .tree 1 (p2.m_.bools.map (eK .i64)), .tree 1 (p2.m_.get.map (eK .i64)), .tree 6 (p2.m_.code.map TIns.enc)]]) _ _ () hl1 ?_ ?_
    · simp only [bS, bX, reduceIte, ↓reduceIte, reduceCtorEq, Int.reduceToNat, Nat.reduceDiv, Nat.reduceMod, Nat.reduceLT, Nat.reduceLeDiff, Nat.reduceAdd, Nat.reduceSub, Nat.reduceMul, Nat.reduceEqDiff, Nat.reduceBEq, Nat.reduceBNe, Nat.reduceGT] <;> first | done | (and_intros <;> first | rfl | (simp; done) | omega | done)
    · rintro x3 _ r1 hm hr1
      replace hm : slices_IndexFunc_int_int_l1 p1 p2 x3 = some r1 := hm
      refine W_eqE (by simp only [bE, Nat.reduceDiv, Nat.reduceMod, Nat.reduceLT, Nat.reduceLeDiff, Nat.reduceAdd, Nat.reduceSub, Nat.reduceMul, Nat.reduceEqDiff, Nat.reduceBEq, Nat.reduceBNe, Nat.reduceGT, Int.reduceToNat]; rfl) (by first | (dsimp only; rfl) | rfl) ?_
      unfold slices_IndexFunc_int_int_l1 at hm
      refine W_regF [] fun k kp hk hp => ?_
      simp only [bR, bT, tab, bX, reduceIte, ↓reduceIte, reduceCtorEq, Int.reduceToNat, Nat.reduceDiv, Nat.reduceMod, Nat.reduceLT, Nat.reduceLeDiff, Nat.reduceAdd, Nat.reduceSub, Nat.reduceMul, Nat.reduceEqDiff, Nat.reduceBEq, Nat.reduceBNe, Nat.reduceGT]
      repeat refine ⟨by first | omega | assumption | decide | exact all_len fun _ => rfl | (intro _; omega) | rfl | (and_intros <;> first | omega | assumption | decide | exact all_len fun _ => rfl), ?_⟩
      refine hk _ _ ?_
      clear hk hp k kp
      refine W_seq_k fun k1 hk1 => ?_
      by_cases h1 : x3 < (p1.length : Int)
      · rw [if_pos h1] at hm
        refine W_condt rfl (decide_eq_true h1) ?_
        refine W_skip ?_
        refine KThen_n (hk1 _ _ ?_)
        refine W_seq_k fun k2 hk2 => ?_
        refine W_block ?_
        refine W_regF [9, 10] fun k kp hk hp => ?_
        simp only [bR, bT, tab, bX, reduceIte, ↓reduceIte, reduceCtorEq, Int.reduceToNat, Nat.reduceDiv, Nat.reduceMod, Nat.reduceLT, Nat.reduceLeDiff, Nat.reduceAdd, Nat.reduceSub, Nat.reduceMul, Nat.reduceEqDiff, Nat.reduceBEq, Nat.reduceBNe, Nat.reduceGT]
        repeat refine ⟨by first | omega | assumption | decide | exact all_len fun _ => rfl | (intro _; omega) | rfl | (and_intros <;> first | omega | assumption | decide | exact all_len fun _ => rfl), ?_⟩
        refine hk _ _ ?_
        clear hk hp k kp
        obtain ⟨hg2a, hm⟩ := gd hm
        refine W_regF [11, 12, 13, 14, 15] fun k kp hk hp => ?_
        simp only [bR, bT, tab, bX, reduceIte, ↓reduceIte, reduceCtorEq, Int.reduceToNat, Nat.reduceDiv, Nat.reduceMod, Nat.reduceLT, Nat.reduceLeDiff, Nat.reduceAdd, Nat.reduceSub, Nat.reduceMul, Nat.reduceEqDiff, Nat.reduceBEq, Nat.reduceBNe, Nat.reduceGT, elt_map (eK .i64) p1 x3.toNat (by first | omega | (simp only [len_lit, List.length_cons, List.length_nil, List.length_append, List.length_set, List.length_replicate, List.length_map, List.length_take, List.length_drop]; omega))]
        repeat refine ⟨by first | omega | assumption | decide | exact all_len fun _ => rfl | (intro _; omega) | rfl | (and_intros <;> first | omega | assumption | decide | exact all_len fun _ => rfl), ?_⟩
        obtain ⟨y4, hc3, hm⟩ := bd hm
        refine RunCall_at (code_judge_reg_1_ok (p1.getD x3.toNat default) p2  _ hc3) [0] (by first | trivial | exact dst_ok rfl) (by first | trivial | (intro _; first | trivial | simp [need]) | simp [need]) (by simp) (by simp) rfl rfl (by first | trivial | (simp [bX, eK, eB, eS, eL, s_cap, psUnder, PV.under, CV.under, obsBelow, OB.under, cvsBelow]; done)) (by first | trivial | (simp [bX, eK, eB, eS, eL, s_cap, psUnder, PV.under, CV.under, obsBelow, OB.under, cvsBelow]; done)) ?_ (fun _ _ h _ => h.elim)
        rintro p σ' ⟨rfl, rfl⟩ _
        simp only [bR, bT, tab, bX, reduceIte, ↓reduceIte, reduceCtorEq, Int.reduceToNat, Nat.reduceDiv, Nat.reduceMod, Nat.reduceLT, Nat.reduceLeDiff, Nat.reduceAdd, Nat.reduceSub, Nat.reduceMul, Nat.reduceEqDiff, Nat.reduceBEq, Nat.reduceBNe, Nat.reduceGT, elt_map (eK .i64) p1 x3.toNat (by first | omega | (simp only [len_lit, List.length_cons, List.length_nil, List.length_append, List.length_set, List.length_replicate, List.length_map, List.length_take, List.length_drop]; omega))]
        repeat refine ⟨by first | omega | assumption | decide | exact all_len fun _ => rfl | (intro _; omega) | rfl | (and_intros <;> first | omega | assumption | decide | exact all_len fun _ => rfl), ?_⟩
        refine hk _ _ ?_
        clear hk hp k kp
        by_cases h4 : y4 = true
        · rw [if_pos h4] at hm
          refine W_condt rfl (h4) ?_
          refine W_regF [0, 1, 5, 7, 8, 16, 17] fun k kp hk hp => ?_
          simp only [bR, bT, tab, bX, reduceIte, ↓reduceIte, reduceCtorEq, Int.reduceToNat, Nat.reduceDiv, Nat.reduceMod, Nat.reduceLT, Nat.reduceLeDiff, Nat.reduceAdd, Nat.reduceSub, Nat.reduceMul, Nat.reduceEqDiff, Nat.reduceBEq, Nat.reduceBNe, Nat.reduceGT]
          repeat refine ⟨by first | omega | assumption | decide | exact all_len fun _ => rfl | (intro _; omega) | rfl | (and_intros <;> first | omega | assumption | decide | exact all_len fun _ => rfl), ?_⟩
          refine hk _ _ ?_
          clear hk hp k kp
          have ho5 := out_eq hm hr1
          subst ho5
          replace hm : some x3 = some r := hm1
          refine W_ret ?_
          refine KBlock_r ?_
          refine KThen_r ?_
          refine KLoopM_r ?_
          refine KBlock_r ?_
          refine KJoinM_r ?_
          refine KBody_ret [.box [.int .i64 p2.m_.cells, .int .i64 p2.m_.regs, .int .i64 p2.m_.cost, .tree 1 (p2.m_.put.map (eK .i64)), .tree 1 (p2.m_.bools.map (eK .i64)), .tree 1 (p2.m_.get.map (eK .i64)), .tree 6 (p2.m_.code.map TIns.enc)]] ?_
          obtain rfl := Option.some.inj hm
          simp only [bF, bT, tab, bX, reduceIte, ↓reduceIte, reduceCtorEq, Int.reduceToNat, Nat.reduceDiv, Nat.reduceMod, Nat.reduceLT, Nat.reduceLeDiff, Nat.reduceAdd, Nat.reduceSub, Nat.reduceMul, Nat.reduceEqDiff, Nat.reduceBEq, Nat.reduceBNe, Nat.reduceGT] <;> first | done | rfl | (and_intros <;> first | rfl | omega | (simp; done))
        · rw [if_neg h4] at hm
          refine W_condf rfl (Bool.eq_false_iff.2 h4) ?_
          refine W_skip ?_
          refine KBlock_n ?_
          refine KThen_n (hk2 _ _ ?_)
          refine W_region fun k kp hk hp => ?_
          simp only [bR, bT, tab, bX, reduceIte, ↓reduceIte, reduceCtorEq, Int.reduceToNat, Nat.reduceDiv, Nat.reduceMod, Nat.reduceLT, Nat.reduceLeDiff, Nat.reduceAdd, Nat.reduceSub, Nat.reduceMul, Nat.reduceEqDiff, Nat.reduceBEq, Nat.reduceBNe, Nat.reduceGT]
          repeat refine ⟨by first | omega | assumption | decide | exact all_len fun _ => rfl | (intro _; omega) | rfl | (and_intros <;> first | omega | assumption | decide | exact all_len fun _ => rfl), ?_⟩
          refine hk _ _ ?_
          clear hk hp k kp
          refine KLoopM_n (IntKind.wrap .i64 (x3 + 1)) () hm ?_
          simp only [bS, bX, reduceIte, ↓reduceIte, reduceCtorEq, Int.reduceToNat, Nat.reduceDiv, Nat.reduceMod, Nat.reduceLT, Nat.reduceLeDiff, Nat.reduceAdd, Nat.reduceSub, Nat.reduceMul, Nat.reduceEqDiff, Nat.reduceBEq, Nat.reduceBNe, Nat.reduceGT] <;> first | done | (and_intros <;> first | rfl | (simp; done) | omega | done)
      · rw [if_neg h1] at hm
        refine W_condf rfl (decide_eq_false h1) ?_
        refine W_exit ?_
        have ho6 := out_eq hm hr1
        subst ho6
        replace hm : slices_IndexFunc_int_int_j1 = some r := hm1
        refine KThen_x ?_
        refine KLoopM_x ?_
        refine KBlock_hit ?_
        refine KJoinM_n () () hm ?_
        simp only [bS, bX, reduceIte, ↓reduceIte, reduceCtorEq, Int.reduceToNat, Nat.reduceDiv, Nat.reduceMod, Nat.reduceLT, Nat.reduceLeDiff, Nat.reduceAdd, Nat.reduceSub, Nat.reduceMul, Nat.reduceEqDiff, Nat.reduceBEq, Nat.reduceBNe, Nat.reduceGT] <;> first | done | (and_intros <;> first | rfl | (simp; done) | omega | done)
  · rintro _ _ hm
    replace hm : slices_IndexFunc_int_int_j1 = some r := hm
    refine W_eqE (by simp only [bE, Nat.reduceDiv, Nat.reduceMod, Nat.reduceLT, Nat.reduceLeDiff, Nat.reduceAdd, Nat.reduceSub, Nat.reduceMul, Nat.reduceEqDiff, Nat.reduceBEq, Nat.reduceBNe, Nat.reduceGT, Int.reduceToNat]; rfl) (by first | (dsimp only; rfl) | rfl) ?_
    unfold slices_IndexFunc_int_int_j1 at hm
    refine W_regF [] fun k kp hk hp => ?_
    simp only [bR, bT, tab, bX, reduceIte, ↓reduceIte, reduceCtorEq, Int.reduceToNat, Nat.reduceDiv, Nat.reduceMod, Nat.reduceLT, Nat.reduceLeDiff, Nat.reduceAdd, Nat.reduceSub, Nat.reduceMul, Nat.reduceEqDiff, Nat.reduceBEq, Nat.reduceBNe, Nat.reduceGT]
    repeat refine ⟨by first | omega | assumption | decide | exact all_len fun _ => rfl | (intro _; omega) | rfl | (and_intros <;> first | omega | assumption | decide | exact all_len fun _ => rfl), ?_⟩
    refine hk _ _ ?_
    clear hk hp k kp
    refine W_ret ?_
    refine KBody_ret [.box [.int .i64 p2.m_.cells, .int .i64 p2.m_.regs, .int .i64 p2.m_.cost, .tree 1 (p2.m_.put.map (eK .i64)), .tree 1 (p2.m_.bools.map (eK .i64)), .tree 1 (p2.m_.get.map (eK .i64)), .tree 6 (p2.m_.code.map TIns.enc)]] ?_
    obtain rfl := Option.some.inj hm
    simp only [bF, bT, tab, bX, reduceIte, ↓reduceIte, reduceCtorEq, Int.reduceToNat, Nat.reduceDiv, Nat.reduceMod, Nat.reduceLT, Nat.reduceLeDiff, Nat.reduceAdd, Nat.reduceSub, Nat.reduceMul, Nat.reduceEqDiff, Nat.reduceBEq, Nat.reduceBNe, Nat.reduceGT] <;> first | done | rfl | (and_intros <;> first | rfl | omega | (simp; done))
end Pam

/- the walk of slices_ContainsFunc_int_int, printed by a program of ours -/
namespace Pam
open Go Go.Proofs
set_option maxRecDepth 100000 in
set_option maxHeartbeats 1000000 in
theorem slices_ContainsFunc_int_int_ok (p1 : List Int) (p2 : Tjudge) (r : Bool) (hm : slices_ContainsFunc_int_int p1 p2 = some r) : Spec Try.prog 128 [.c (.tree 1 (p1.map (eK .i64))), .c (.fn 129 [.optr 0 0])] [.box [.int .i64 p2.m_.cells, .int .i64 p2.m_.regs, .int .i64 p2.m_.cost, .tree 1 (p2.m_.put.map (eK .i64)), .tree 1 (p2.m_.bools.map (eK .i64)), .tree 1 (p2.m_.get.map (eK .i64)), .tree 6 (p2.m_.code.map TIns.enc)]] (fun p σ => (p = .c (.bool r) ∧ σ = [.box [.int .i64 p2.m_.cells, .int .i64 p2.m_.regs, .int .i64 p2.m_.cost, .tree 1 (p2.m_.put.map (eK .i64)), .tree 1 (p2.m_.bools.map (eK .i64)), .tree 1 (p2.m_.get.map (eK .i64)), .tree 6 (p2.m_.code.map TIns.enc)]])) (fun _ _ => False) := by
  refine Spec_ofD 9 [.tmp 4] Try.func128 rfl rfl rfl (by kernel_rfl) (by simp) ?_
  refine W_eqE (by simp only [argSlots, Env.ofList, List.length_nil, List.length_cons, bE, Nat.reduceDiv, Nat.reduceMod, Nat.reduceLT, Nat.reduceLeDiff, Nat.reduceAdd, Nat.reduceSub, Nat.reduceMul, Nat.reduceEqDiff, Nat.reduceBEq, Nat.reduceBNe, Nat.reduceGT, Int.reduceToNat]; rfl) rfl ?_
  unfold slices_ContainsFunc_int_int at hm
  refine W_regF [4] fun k kp hk hp => ?_
  simp only [bR, bT, tab, bX, reduceIte, ↓reduceIte, reduceCtorEq, Int.reduceToNat, Nat.reduceDiv, Nat.reduceMod, Nat.reduceLT, Nat.reduceLeDiff, Nat.reduceAdd, Nat.reduceSub, Nat.reduceMul, Nat.reduceEqDiff, Nat.reduceBEq, Nat.reduceBNe, Nat.reduceGT]
  repeat refine ⟨by first | omega | assumption | decide | exact all_len fun _ => rfl | (intro _; omega) | rfl | (and_intros <;> first | omega | assumption | decide | exact all_len fun _ => rfl), ?_⟩
  refine hk _ _ ?_
  clear hk hp k kp
  refine W_regF [0, 1, 5, 6, 7, 8] fun k kp hk hp => ?_
  simp only [bR, bT, tab, bX, reduceIte, ↓reduceIte, reduceCtorEq, Int.reduceToNat, Nat.reduceDiv, Nat.reduceMod, Nat.reduceLT, Nat.reduceLeDiff, Nat.reduceAdd, Nat.reduceSub, Nat.reduceMul, Nat.reduceEqDiff, Nat.reduceBEq, Nat.reduceBNe, Nat.reduceGT]
  repeat refine ⟨by first | omega | assumption | decide | exact all_len fun _ => rfl | (intro _; omega) | rfl | (and_intros <;> first | omega | assumption | decide | exact all_len fun _ => rfl), ?_⟩
  obtain ⟨y1, hc1, hm⟩ := bd hm
  refine RunCall_at (slices_IndexFunc_int_int_ok p1 p2  _ hc1) [0] (by first | trivial | exact dst_ok rfl) (by first | trivial | (intro _; first | trivial | simp [need]) | simp [need]) (by simp) (by simp) rfl rfl (by first | trivial | (simp [bX, eK, eB, eS, eL, s_cap, psUnder, PV.under, CV.under, obsBelow, OB.under, cvsBelow]; done)) (by first | trivial | (simp [bX, eK, eB, eS, eL, s_cap, psUnder, PV.under, CV.under, obsBelow, OB.under, cvsBelow]; done)) ?_ (fun _ _ h _ => h.elim)
  rintro p σ' ⟨rfl, rfl⟩ _
  simp only [bR, bT, tab, bX, reduceIte, ↓reduceIte, reduceCtorEq, Int.reduceToNat, Nat.reduceDiv, Nat.reduceMod, Nat.reduceLT, Nat.reduceLeDiff, Nat.reduceAdd, Nat.reduceSub, Nat.reduceMul, Nat.reduceEqDiff, Nat.reduceBEq, Nat.reduceBNe, Nat.reduceGT]
  repeat refine ⟨by first | omega | assumption | decide | exact all_len fun _ => rfl | (intro _; omega) | rfl | (and_intros <;> first | omega | assumption | decide | exact all_len fun _ => rfl), ?_⟩
  refine hk _ _ ?_
  clear hk hp k kp
  refine W_ret ?_
  refine KBody_ret [.box [.int .i64 p2.m_.cells, .int .i64 p2.m_.regs, .int .i64 p2.m_.cost, .tree 1 (p2.m_.put.map (eK .i64)), .tree 1 (p2.m_.bools.map (eK .i64)), .tree 1 (p2.m_.get.map (eK .i64)), .tree 6 (p2.m_.code.map TIns.enc)]] ?_
  obtain rfl := Option.some.inj hm
  simp only [bF, bT, tab, bX, reduceIte, ↓reduceIte, reduceCtorEq, Int.reduceToNat, Nat.reduceDiv, Nat.reduceMod, Nat.reduceLT, Nat.reduceLeDiff, Nat.reduceAdd, Nat.reduceSub, Nat.reduceMul, Nat.reduceEqDiff, Nat.reduceBEq, Nat.reduceBNe, Nat.reduceGT] <;> first | done | rfl | (and_intros <;> first | rfl | omega | (simp; done))
end Pam

/- the walk of code_judge_reg, printed by a program of ours -/
namespace Pam
open Go Go.Proofs
set_option maxRecDepth 100000 in
set_option maxHeartbeats 1000000 in
theorem code_judge_reg_ok (p1 : Tjudge) (p2 : List Int) (r : Bool) (hm : code_judge_reg p1 p2 = some r) : SpecF Try.prog 106 [.a [.int .i64 p1.m_.cells, .int .i64 p1.m_.regs, .int .i64 p1.m_.cost, .tree 1 (p1.m_.put.map (eK .i64)), .tree 1 (p1.m_.bools.map (eK .i64)), .tree 1 (p1.m_.get.map (eK .i64)), .tree 6 (p1.m_.code.map TIns.enc)], .c (.tree 1 (p2.map (eK .i64)))] (.c (.bool r)) := by
  refine Spec_ofD 9 [.tmp 4] Try.func106 rfl rfl rfl (by kernel_rfl) (by simp) ?_
  refine W_eqE (by simp only [argSlots, Env.ofList, List.length_nil, List.length_cons, bE, Nat.reduceDiv, Nat.reduceMod, Nat.reduceLT, Nat.reduceLeDiff, Nat.reduceAdd, Nat.reduceSub, Nat.reduceMul, Nat.reduceEqDiff, Nat.reduceBEq, Nat.reduceBNe, Nat.reduceGT, Int.reduceToNat]; rfl) rfl ?_
  unfold code_judge_reg at hm
  refine W_regF [0, 4] fun k kp hk hp => ?_
  simp only [bR, bT, tab, bX, reduceIte, ↓reduceIte, reduceCtorEq, Int.reduceToNat, Nat.reduceDiv, Nat.reduceMod, Nat.reduceLT, Nat.reduceLeDiff, Nat.reduceAdd, Nat.reduceSub, Nat.reduceMul, Nat.reduceEqDiff, Nat.reduceBEq, Nat.reduceBNe, Nat.reduceGT]
  repeat refine ⟨by first | omega | assumption | decide | exact all_len fun _ => rfl | (intro _; omega) | rfl | (and_intros <;> first | omega | assumption | decide | exact all_len fun _ => rfl), ?_⟩
  refine hk _ _ ?_
  clear hk hp k kp
  refine W_regF [1, 2, 5, 6, 7, 8] fun k kp hk hp => ?_
  simp only [bR, bT, tab, bX, reduceIte, ↓reduceIte, reduceCtorEq, Int.reduceToNat, Nat.reduceDiv, Nat.reduceMod, Nat.reduceLT, Nat.reduceLeDiff, Nat.reduceAdd, Nat.reduceSub, Nat.reduceMul, Nat.reduceEqDiff, Nat.reduceBEq, Nat.reduceBNe, Nat.reduceGT]
  repeat refine ⟨by first | omega | assumption | decide | exact all_len fun _ => rfl | (intro _; omega) | rfl | (and_intros <;> first | omega | assumption | decide | exact all_len fun _ => rfl), ?_⟩
  obtain ⟨y1, hc1, hm⟩ := bd hm
  refine RunCall_at (slices_ContainsFunc_int_int_ok p2 p1  _ hc1) [0] (by first | trivial | exact dst_ok rfl) (by first | trivial | (intro _; first | trivial | simp [need]) | simp [need]) (by simp) (by simp) rfl rfl (by first | trivial | (simp [bX, eK, eB, eS, eL, s_cap, psUnder, PV.under, CV.under, obsBelow, OB.under, cvsBelow]; done)) (by first | trivial | (simp [bX, eK, eB, eS, eL, s_cap, psUnder, PV.under, CV.under, obsBelow, OB.under, cvsBelow]; done)) ?_ (fun _ _ h _ => h.elim)
  rintro p σ' ⟨rfl, rfl⟩ _
  simp only [bR, bT, tab, bX, reduceIte, ↓reduceIte, reduceCtorEq, Int.reduceToNat, Nat.reduceDiv, Nat.reduceMod, Nat.reduceLT, Nat.reduceLeDiff, Nat.reduceAdd, Nat.reduceSub, Nat.reduceMul, Nat.reduceEqDiff, Nat.reduceBEq, Nat.reduceBNe, Nat.reduceGT]
  repeat refine ⟨by first | omega | assumption | decide | exact all_len fun _ => rfl | (intro _; omega) | rfl | (and_intros <;> first | omega | assumption | decide | exact all_len fun _ => rfl), ?_⟩
  refine hk _ _ ?_
  clear hk hp k kp
  refine W_ret ?_
  refine KBody_ret [] ?_
  obtain rfl := Option.some.inj hm
  simp only [bF, bT, tab, bX, reduceIte, ↓reduceIte, reduceCtorEq, Int.reduceToNat, Nat.reduceDiv, Nat.reduceMod, Nat.reduceLT, Nat.reduceLeDiff, Nat.reduceAdd, Nat.reduceSub, Nat.reduceMul, Nat.reduceEqDiff, Nat.reduceBEq, Nat.reduceBNe, Nat.reduceGT] <;> first | done | rfl | (and_intros <;> first | rfl | omega | (simp; done))
end Pam

/- the walk of code_judge_cells, printed by a program of ours -/
namespace Pam
open Go Go.Proofs
set_option maxRecDepth 100000 in
set_option maxHeartbeats 1000000 in
theorem code_judge_cells_ok (p1 : Tjudge) (p2 : Int) (p3 : Int) (r : Bool) (hm : code_judge_cells p1 p2 p3 = some r) : SpecF Try.prog 107 [.a [.int .i64 p1.m_.cells, .int .i64 p1.m_.regs, .int .i64 p1.m_.cost, .tree 1 (p1.m_.put.map (eK .i64)), .tree 1 (p1.m_.bools.map (eK .i64)), .tree 1 (p1.m_.get.map (eK .i64)), .tree 6 (p1.m_.code.map TIns.enc)], .c (.int .i64 p2), .c (.int .i64 p3)] (.c (.bool r)) := by
  refine Spec_ofD 29 [.tmp 6] Try.func107 rfl rfl rfl (by kernel_rfl) (by simp) ?_
  refine W_eqE (by simp only [argSlots, Env.ofList, List.length_nil, List.length_cons, bE, Nat.reduceDiv, Nat.reduceMod, Nat.reduceLT, Nat.reduceLeDiff, Nat.reduceAdd, Nat.reduceSub, Nat.reduceMul, Nat.reduceEqDiff, Nat.reduceBEq, Nat.reduceBNe, Nat.reduceGT, Int.reduceToNat]; rfl) rfl ?_
  unfold code_judge_cells at hm
  refine W_regF [0, 6] fun k kp hk hp => ?_
  simp only [bR, bT, tab, bX, reduceIte, ↓reduceIte, reduceCtorEq, Int.reduceToNat, Nat.reduceDiv, Nat.reduceMod, Nat.reduceLT, Nat.reduceLeDiff, Nat.reduceAdd, Nat.reduceSub, Nat.reduceMul, Nat.reduceEqDiff, Nat.reduceBEq, Nat.reduceBNe, Nat.reduceGT]
  repeat refine ⟨by first | omega | assumption | decide | exact all_len fun _ => rfl | (intro _; omega) | rfl | (and_intros <;> first | omega | assumption | decide | exact all_len fun _ => rfl), ?_⟩
  refine hk _ _ ?_
  clear hk hp k kp
  by_cases h1 : p3 ≥ 1
  · rw [if_pos h1] at hm
    have h1b : decide (p3 ≥ 1) = true := decide_eq_true h1
    by_cases h2 : p3 ≤ p1.m_.cells
    · rw [if_pos h2] at hm
      have h2b : decide (p3 ≤ p1.m_.cells) = true := decide_eq_true h2
      by_cases h3 : p2 ≥ 0
      · rw [if_pos h3] at hm
        have h3b : decide (p2 ≥ 0) = true := decide_eq_true h3
        refine W_regF [1, 2, 3, 7, 8, 9, 10, 11, 12, 13, 14, 15, 16, 17, 18, 19, 20, 21, 22, 23, 24, 25, 26, 27, 28] fun k kp hk hp => ?_
        simp only [bR, bT, tab, bX, reduceIte, ↓reduceIte, reduceCtorEq, Int.reduceToNat, Nat.reduceDiv, Nat.reduceMod, Nat.reduceLT, Nat.reduceLeDiff, Nat.reduceAdd, Nat.reduceSub, Nat.reduceMul, Nat.reduceEqDiff, Nat.reduceBEq, Nat.reduceBNe, Nat.reduceGT, h1b, h2b, h3b]
        repeat refine ⟨by first | omega | assumption | decide | exact all_len fun _ => rfl | (intro _; omega) | rfl | (and_intros <;> first | omega | assumption | decide | exact all_len fun _ => rfl), ?_⟩
        refine hk _ _ ?_
        clear hk hp k kp
        refine W_ret ?_
        refine KBody_ret [] ?_
        obtain rfl := Option.some.inj hm
        simp only [bF, bT, tab, bX, reduceIte, ↓reduceIte, reduceCtorEq, Int.reduceToNat, Nat.reduceDiv, Nat.reduceMod, Nat.reduceLT, Nat.reduceLeDiff, Nat.reduceAdd, Nat.reduceSub, Nat.reduceMul, Nat.reduceEqDiff, Nat.reduceBEq, Nat.reduceBNe, Nat.reduceGT] <;> first | done | rfl | (and_intros <;> first | rfl | omega | (simp; done))
      · rw [if_neg h3] at hm
        have h3b : decide (p2 ≥ 0) = false := decide_eq_false h3
        refine W_regF [1, 2, 3, 7, 8, 9, 10, 11, 12, 13, 14, 15, 16, 17, 18, 19, 20, 21, 22, 23, 24, 25, 26, 27, 28] fun k kp hk hp => ?_
        simp only [bR, bT, tab, bX, reduceIte, ↓reduceIte, reduceCtorEq, Int.reduceToNat, Nat.reduceDiv, Nat.reduceMod, Nat.reduceLT, Nat.reduceLeDiff, Nat.reduceAdd, Nat.reduceSub, Nat.reduceMul, Nat.reduceEqDiff, Nat.reduceBEq, Nat.reduceBNe, Nat.reduceGT, h1b, h2b, h3b]
        repeat refine ⟨by first | omega | assumption | decide | exact all_len fun _ => rfl | (intro _; omega) | rfl | (and_intros <;> first | omega | assumption | decide | exact all_len fun _ => rfl), ?_⟩
        refine hk _ _ ?_
        clear hk hp k kp
        refine W_ret ?_
        refine KBody_ret [] ?_
        obtain rfl := Option.some.inj hm
        simp only [bF, bT, tab, bX, reduceIte, ↓reduceIte, reduceCtorEq, Int.reduceToNat, Nat.reduceDiv, Nat.reduceMod, Nat.reduceLT, Nat.reduceLeDiff, Nat.reduceAdd, Nat.reduceSub, Nat.reduceMul, Nat.reduceEqDiff, Nat.reduceBEq, Nat.reduceBNe, Nat.reduceGT] <;> first | done | rfl | (and_intros <;> first | rfl | omega | (simp; done))
    · rw [if_neg h2] at hm
      have h2b : decide (p3 ≤ p1.m_.cells) = false := decide_eq_false h2
      refine W_regF [1, 2, 3, 7, 8, 9, 10, 11, 12, 13, 14, 15, 16, 17, 18, 19, 20, 21, 22, 23, 24, 25, 26, 27, 28] fun k kp hk hp => ?_
      simp only [bR, bT, tab, bX, reduceIte, ↓reduceIte, reduceCtorEq, Int.reduceToNat, Nat.reduceDiv, Nat.reduceMod, Nat.reduceLT, Nat.reduceLeDiff, Nat.reduceAdd, Nat.reduceSub, Nat.reduceMul, Nat.reduceEqDiff, Nat.reduceBEq, Nat.reduceBNe, Nat.reduceGT, h1b, h2b]
      repeat refine ⟨by first | omega | assumption | decide | exact all_len fun _ => rfl | (intro _; omega) | rfl | (and_intros <;> first | omega | assumption | decide | exact all_len fun _ => rfl), ?_⟩
      refine hk _ _ ?_
      clear hk hp k kp
      refine W_ret ?_
      refine KBody_ret [] ?_
      obtain rfl := Option.some.inj hm
      simp only [bF, bT, tab, bX, reduceIte, ↓reduceIte, reduceCtorEq, Int.reduceToNat, Nat.reduceDiv, Nat.reduceMod, Nat.reduceLT, Nat.reduceLeDiff, Nat.reduceAdd, Nat.reduceSub, Nat.reduceMul, Nat.reduceEqDiff, Nat.reduceBEq, Nat.reduceBNe, Nat.reduceGT] <;> first | done | rfl | (and_intros <;> first | rfl | omega | (simp; done))
  · rw [if_neg h1] at hm
    have h1b : decide (p3 ≥ 1) = false := decide_eq_false h1
    refine W_regF [1, 2, 3, 7, 8, 9, 10, 11, 12, 13, 14, 15, 16, 17, 18, 19, 20, 21, 22, 23, 24, 25, 26, 27, 28] fun k kp hk hp => ?_
    simp only [bR, bT, tab, bX, reduceIte, ↓reduceIte, reduceCtorEq, Int.reduceToNat, Nat.reduceDiv, Nat.reduceMod, Nat.reduceLT, Nat.reduceLeDiff, Nat.reduceAdd, Nat.reduceSub, Nat.reduceMul, Nat.reduceEqDiff, Nat.reduceBEq, Nat.reduceBNe, Nat.reduceGT, h1b]
    repeat refine ⟨by first | omega | assumption | decide | exact all_len fun _ => rfl | (intro _; omega) | rfl | (and_intros <;> first | omega | assumption | decide | exact all_len fun _ => rfl), ?_⟩
    refine hk _ _ ?_
    clear hk hp k kp
    refine W_ret ?_
    refine KBody_ret [] ?_
    obtain rfl := Option.some.inj hm
    simp only [bF, bT, tab, bX, reduceIte, ↓reduceIte, reduceCtorEq, Int.reduceToNat, Nat.reduceDiv, Nat.reduceMod, Nat.reduceLT, Nat.reduceLeDiff, Nat.reduceAdd, Nat.reduceSub, Nat.reduceMul, Nat.reduceEqDiff, Nat.reduceBEq, Nat.reduceBNe, Nat.reduceGT] <;> first | done | rfl | (and_intros <;> first | rfl | omega | (simp; done))
end Pam

/- the walk of code_judge_fits, printed by a program of ours -/
namespace Pam
open Go Go.Proofs
set_option maxRecDepth 100000 in
set_option maxHeartbeats 1000000 in
theorem code_judge_fits_ok (p1 : Tjudge) (p2 : TIns) (r : Bool) (hm : code_judge_fits p1 p2 = some r) : SpecF Try.prog 64 [.a [.int .i64 p1.m_.cells, .int .i64 p1.m_.regs, .int .i64 p1.m_.cost, .tree 1 (p1.m_.put.map (eK .i64)), .tree 1 (p1.m_.bools.map (eK .i64)), .tree 1 (p1.m_.get.map (eK .i64)), .tree 6 (p1.m_.code.map TIns.enc)], .a [.int .i64 p2.op, .int .i64 p2.k, .int .i64 p2.r_, .int .i64 p2.a, .int .i64 p2.b, .int .i64 p2.n]] (.c (.bool r)) := by
  refine Spec_ofD 124 [.tmp 4] Try.func64 rfl rfl rfl (by kernel_rfl) (by simp) ?_
  refine W_eqE (by simp only [argSlots, Env.ofList, List.length_nil, List.length_cons, bE, Nat.reduceDiv, Nat.reduceMod, Nat.reduceLT, Nat.reduceLeDiff, Nat.reduceAdd, Nat.reduceSub, Nat.reduceMul, Nat.reduceEqDiff, Nat.reduceBEq, Nat.reduceBNe, Nat.reduceGT, Int.reduceToNat]; rfl) rfl ?_
  unfold code_judge_fits at hm
  refine W_regF [0, 1, 4] fun k kp hk hp => ?_
  simp only [bR, bT, tab, bX, reduceIte, ↓reduceIte, reduceCtorEq, Int.reduceToNat, Nat.reduceDiv, Nat.reduceMod, Nat.reduceLT, Nat.reduceLeDiff, Nat.reduceAdd, Nat.reduceSub, Nat.reduceMul, Nat.reduceEqDiff, Nat.reduceBEq, Nat.reduceBNe, Nat.reduceGT]
  repeat refine ⟨by first | omega | assumption | decide | exact all_len fun _ => rfl | (intro _; omega) | rfl | (and_intros <;> first | omega | assumption | decide | exact all_len fun _ => rfl), ?_⟩
  refine hk _ _ ?_
  clear hk hp k kp
  refine W_regF [5, 6, 8, 9, 10, 11, 12, 13, 14] fun k kp hk hp => ?_
  simp only [bR, bT, tab, bX, reduceIte, ↓reduceIte, reduceCtorEq, Int.reduceToNat, Nat.reduceDiv, Nat.reduceMod, Nat.reduceLT, Nat.reduceLeDiff, Nat.reduceAdd, Nat.reduceSub, Nat.reduceMul, Nat.reduceEqDiff, Nat.reduceBEq, Nat.reduceBNe, Nat.reduceGT]
  repeat refine ⟨by first | omega | assumption | decide | exact all_len fun _ => rfl | (intro _; omega) | rfl | (and_intros <;> first | omega | assumption | decide | exact all_len fun _ => rfl), ?_⟩
  obtain ⟨y1, hc1, hm⟩ := bd hm
  refine RunCall_pure (fun _ => kinds_Op_ok p2.k _ hc1) (by first | trivial | exact dst_ok rfl) (by first | trivial | (intro _; first | trivial | simp [need]) | simp [need]) rfl rfl ?_
  simp only [bR, bT, tab, bX, reduceIte, ↓reduceIte, reduceCtorEq, Int.reduceToNat, Nat.reduceDiv, Nat.reduceMod, Nat.reduceLT, Nat.reduceLeDiff, Nat.reduceAdd, Nat.reduceSub, Nat.reduceMul, Nat.reduceEqDiff, Nat.reduceBEq, Nat.reduceBNe, Nat.reduceGT]
  repeat refine ⟨by first | omega | assumption | decide | exact all_len fun _ => rfl | (intro _; omega) | rfl | (and_intros <;> first | omega | assumption | decide | exact all_len fun _ => rfl), ?_⟩
  refine hk _ _ ?_
  clear hk hp k kp
  refine W_seq_k fun k1 hk1 => ?_
  refine W_regF [15] fun k kp hk hp => ?_
  simp only [bR, bT, tab, bX, reduceIte, ↓reduceIte, reduceCtorEq, Int.reduceToNat, Nat.reduceDiv, Nat.reduceMod, Nat.reduceLT, Nat.reduceLeDiff, Nat.reduceAdd, Nat.reduceSub, Nat.reduceMul, Nat.reduceEqDiff, Nat.reduceBEq, Nat.reduceBNe, Nat.reduceGT]
  repeat refine ⟨by first | omega | assumption | decide | exact all_len fun _ => rfl | (intro _; omega) | rfl | (and_intros <;> first | omega | assumption | decide | exact all_len fun _ => rfl), ?_⟩
  refine hk _ _ ?_
  clear hk hp k kp
  refine W_block ?_
  refine W_regF [18] fun k kp hk hp => ?_
  simp only [bR, bT, tab, bX, reduceIte, ↓reduceIte, reduceCtorEq, Int.reduceToNat, Nat.reduceDiv, Nat.reduceMod, Nat.reduceLT, Nat.reduceLeDiff, Nat.reduceAdd, Nat.reduceSub, Nat.reduceMul, Nat.reduceEqDiff, Nat.reduceBEq, Nat.reduceBNe, Nat.reduceGT]
  repeat refine ⟨by first | omega | assumption | decide | exact all_len fun _ => rfl | (intro _; omega) | rfl | (and_intros <;> first | omega | assumption | decide | exact all_len fun _ => rfl), ?_⟩
  refine hk _ _ ?_
  clear hk hp k kp
  by_cases h2 : p2.op = 1
  · rw [if_pos h2] at hm
    refine W_condt rfl (beq_iff_eq.2 h2) ?_
    refine W_regF [2, 3, 7, 16, 17, 19, 20, 21, 22, 23] fun k kp hk hp => ?_
    simp only [bR, bT, tab, bX, reduceIte, ↓reduceIte, reduceCtorEq, Int.reduceToNat, Nat.reduceDiv, Nat.reduceMod, Nat.reduceLT, Nat.reduceLeDiff, Nat.reduceAdd, Nat.reduceSub, Nat.reduceMul, Nat.reduceEqDiff, Nat.reduceBEq, Nat.reduceBNe, Nat.reduceGT, List.replicate, List.foldr]
    repeat refine ⟨by first | omega | assumption | decide | exact all_len fun _ => rfl | (intro _; omega) | rfl | (and_intros <;> first | omega | assumption | decide | exact all_len fun _ => rfl), ?_⟩
    refine RunCall_turn (Ghost_fr 2 rfl) ?_
    simp only [bR, bT, tab, bX, reduceIte, ↓reduceIte, reduceCtorEq, Int.reduceToNat, Nat.reduceDiv, Nat.reduceMod, Nat.reduceLT, Nat.reduceLeDiff, Nat.reduceAdd, Nat.reduceSub, Nat.reduceMul, Nat.reduceEqDiff, Nat.reduceBEq, Nat.reduceBNe, Nat.reduceGT, bZ, List.replicate, List.foldr]
    repeat refine ⟨by first | omega | assumption | decide | exact all_len fun _ => rfl | (intro _; omega) | rfl | (and_intros <;> first | omega | assumption | decide | exact all_len fun _ => rfl), ?_⟩
    obtain ⟨y2, hc3, hm⟩ := bd hm
    refine RunCall_pure (fun _ => code_judge_reg_ok p1 (lit ([p2.r_] : List Int)) _ hc3) (by first | trivial | exact dst_ok rfl) (by first | trivial | (intro _; first | trivial | simp [need]) | simp [need]) rfl rfl ?_
    simp only [bR, bT, tab, bX, reduceIte, ↓reduceIte, reduceCtorEq, Int.reduceToNat, Nat.reduceDiv, Nat.reduceMod, Nat.reduceLT, Nat.reduceLeDiff, Nat.reduceAdd, Nat.reduceSub, Nat.reduceMul, Nat.reduceEqDiff, Nat.reduceBEq, Nat.reduceBNe, Nat.reduceGT]
    repeat refine ⟨by first | omega | assumption | decide | exact all_len fun _ => rfl | (intro _; omega) | rfl | (and_intros <;> first | omega | assumption | decide | exact all_len fun _ => rfl), ?_⟩
    refine hk _ _ ?_
    clear hk hp k kp
    refine W_ret ?_
    refine KBlock_r ?_
    refine KThen_r ?_
    refine KBody_ret [] ?_
    obtain rfl := Option.some.inj hm
    simp only [bF, bT, tab, bX, reduceIte, ↓reduceIte, reduceCtorEq, Int.reduceToNat, Nat.reduceDiv, Nat.reduceMod, Nat.reduceLT, Nat.reduceLeDiff, Nat.reduceAdd, Nat.reduceSub, Nat.reduceMul, Nat.reduceEqDiff, Nat.reduceBEq, Nat.reduceBNe, Nat.reduceGT] <;> first | done | rfl | (and_intros <;> first | rfl | omega | (simp; done))
  · rw [if_neg h2] at hm
    refine W_condf rfl (beq_eq_false_iff_ne.2 h2) ?_
    refine W_joinM (S := Bool) (V := Unit) [17, 24, 25, 26] (fun b3 _ => [(24, .c (.bool b3))]) (fun b3 _ => [.box [.int .i64 p1.m_.cells, .int .i64 p1.m_.regs, .int .i64 p1.m_.cost, .tree 1 (p1.m_.put.map (eK .i64)), .tree 1 (p1.m_.bools.map (eK .i64)), .tree 1 (p1.m_.get.map (eK .i64)), .tree 6 (p1.m_.code.map TIns.enc)], .box [.int .i64 p2.op, .int .i64 p2.k, .int .i64 p2.r_, .int .i64 p2.a, .int .i64 p2.b, .int .i64 p2.n]]) (fun b3 => code_judge_fits_j1 p1 p2 y1 b3 = some r) ?_ ?_
    · skip
      refine W_regF [17, 25] fun k kp hk hp => ?_
      simp only [bR, bT, tab, bX, reduceIte, ↓reduceIte, reduceCtorEq, Int.reduceToNat, Nat.reduceDiv, Nat.reduceMod, Nat.reduceLT, Nat.reduceLeDiff, Nat.reduceAdd, Nat.reduceSub, Nat.reduceMul, Nat.reduceEqDiff, Nat.reduceBEq, Nat.reduceBNe, Nat.reduceGT]
      repeat refine ⟨by first | omega | assumption | decide | exact all_len fun _ => rfl | (intro _; omega) | rfl | (and_intros <;> first | omega | assumption | decide | exact all_len fun _ => rfl), ?_⟩
      refine hk _ _ ?_
      clear hk hp k kp
      by_cases h27 : p2.op = 2
      · rw [if_pos h27] at hm
        refine W_condt rfl (beq_iff_eq.2 h27) ?_
        refine W_skip ?_
        refine KJoinM_n (p2.op == 2) () hm ?_
        simp only [bS, bX, reduceIte, ↓reduceIte, reduceCtorEq, Int.reduceToNat, Nat.reduceDiv, Nat.reduceMod, Nat.reduceLT, Nat.reduceLeDiff, Nat.reduceAdd, Nat.reduceSub, Nat.reduceMul, Nat.reduceEqDiff, Nat.reduceBEq, Nat.reduceBNe, Nat.reduceGT] <;> first | done | (and_intros <;> first | rfl | (simp; done) | omega | done)
      · rw [if_neg h27] at hm
        refine W_condf rfl (beq_eq_false_iff_ne.2 h27) ?_
        refine W_region fun k kp hk hp => ?_
        simp only [bR, bT, tab, bX, reduceIte, ↓reduceIte, reduceCtorEq, Int.reduceToNat, Nat.reduceDiv, Nat.reduceMod, Nat.reduceLT, Nat.reduceLeDiff, Nat.reduceAdd, Nat.reduceSub, Nat.reduceMul, Nat.reduceEqDiff, Nat.reduceBEq, Nat.reduceBNe, Nat.reduceGT]
        repeat refine ⟨by first | omega | assumption | decide | exact all_len fun _ => rfl | (intro _; omega) | rfl | (and_intros <;> first | omega | assumption | decide | exact all_len fun _ => rfl), ?_⟩
        refine hk _ _ ?_
        clear hk hp k kp
        refine KJoinM_n (p2.op == 4) () hm ?_
        simp only [bS, bX, reduceIte, ↓reduceIte, reduceCtorEq, Int.reduceToNat, Nat.reduceDiv, Nat.reduceMod, Nat.reduceLT, Nat.reduceLeDiff, Nat.reduceAdd, Nat.reduceSub, Nat.reduceMul, Nat.reduceEqDiff, Nat.reduceBEq, Nat.reduceBNe, Nat.reduceGT] <;> first | done | (and_intros <;> first | rfl | (simp; done) | omega | done)
    · rintro b3 _ hm
      replace hm : code_judge_fits_j1 p1 p2 y1 b3 = some r := hm
      refine W_eqE (by simp only [bE, Nat.reduceDiv, Nat.reduceMod, Nat.reduceLT, Nat.reduceLeDiff, Nat.reduceAdd, Nat.reduceSub, Nat.reduceMul, Nat.reduceEqDiff, Nat.reduceBEq, Nat.reduceBNe, Nat.reduceGT, Int.reduceToNat]; rfl) (by first | (dsimp only; rfl) | rfl) ?_
      unfold code_judge_fits_j1 at hm
      by_cases h4 : b3 = true
      · rw [if_pos h4] at hm
        refine W_condt rfl (h4) ?_
        refine W_regF [2, 3, 7, 16, 24, 27, 28, 29, 30, 31, 32, 33, 34, 35, 36, 37] fun k kp hk hp => ?_
        simp only [bR, bT, tab, bX, reduceIte, ↓reduceIte, reduceCtorEq, Int.reduceToNat, Nat.reduceDiv, Nat.reduceMod, Nat.reduceLT, Nat.reduceLeDiff, Nat.reduceAdd, Nat.reduceSub, Nat.reduceMul, Nat.reduceEqDiff, Nat.reduceBEq, Nat.reduceBNe, Nat.reduceGT, List.replicate, List.foldr]
        repeat refine ⟨by first | omega | assumption | decide | exact all_len fun _ => rfl | (intro _; omega) | rfl | (and_intros <;> first | omega | assumption | decide | exact all_len fun _ => rfl), ?_⟩
        refine RunCall_turn (Ghost_fr 2 rfl) ?_
        simp only [bR, bT, tab, bX, reduceIte, ↓reduceIte, reduceCtorEq, Int.reduceToNat, Nat.reduceDiv, Nat.reduceMod, Nat.reduceLT, Nat.reduceLeDiff, Nat.reduceAdd, Nat.reduceSub, Nat.reduceMul, Nat.reduceEqDiff, Nat.reduceBEq, Nat.reduceBNe, Nat.reduceGT, bZ, List.replicate, List.foldr]
        repeat refine ⟨by first | omega | assumption | decide | exact all_len fun _ => rfl | (intro _; omega) | rfl | (and_intros <;> first | omega | assumption | decide | exact all_len fun _ => rfl), ?_⟩
        obtain ⟨y4, hc5, hm⟩ := bd hm
        refine RunCall_pure (fun _ => code_judge_reg_ok p1 (lit ([p2.r_] : List Int)) _ hc5) (by first | trivial | exact dst_ok rfl) (by first | trivial | (intro _; first | trivial | simp [need]) | simp [need]) rfl rfl ?_
        by_cases h6 : y4 = true
        · rw [if_pos h6] at hm
          have h6b : y4 = true := h6
          simp only [bR, bT, tab, bX, reduceIte, ↓reduceIte, reduceCtorEq, Int.reduceToNat, Nat.reduceDiv, Nat.reduceMod, Nat.reduceLT, Nat.reduceLeDiff, Nat.reduceAdd, Nat.reduceSub, Nat.reduceMul, Nat.reduceEqDiff, Nat.reduceBEq, Nat.reduceBNe, Nat.reduceGT, h6b]
          repeat refine ⟨by first | omega | assumption | decide | exact all_len fun _ => rfl | (intro _; omega) | rfl | (and_intros <;> first | omega | assumption | decide | exact all_len fun _ => rfl), ?_⟩
          obtain ⟨y5, hc7, hm⟩ := bd hm
          refine RunCall_pure (fun _ => code_judge_cells_ok p1 p2.n 1 _ hc7) (by first | trivial | exact dst_ok rfl) (by first | trivial | (intro _; first | trivial | simp [need]) | simp [need]) rfl rfl ?_
          simp only [bR, bT, tab, bX, reduceIte, ↓reduceIte, reduceCtorEq, Int.reduceToNat, Nat.reduceDiv, Nat.reduceMod, Nat.reduceLT, Nat.reduceLeDiff, Nat.reduceAdd, Nat.reduceSub, Nat.reduceMul, Nat.reduceEqDiff, Nat.reduceBEq, Nat.reduceBNe, Nat.reduceGT, h6b]
          repeat refine ⟨by first | omega | assumption | decide | exact all_len fun _ => rfl | (intro _; omega) | rfl | (and_intros <;> first | omega | assumption | decide | exact all_len fun _ => rfl), ?_⟩
          refine hk _ _ ?_
          clear hk hp k kp
          refine W_ret ?_
          refine KBlock_r ?_
          refine KThen_r ?_
          refine KBody_ret [] ?_
          obtain rfl := Option.some.inj hm
          simp only [bF, bT, tab, bX, reduceIte, ↓reduceIte, reduceCtorEq, Int.reduceToNat, Nat.reduceDiv, Nat.reduceMod, Nat.reduceLT, Nat.reduceLeDiff, Nat.reduceAdd, Nat.reduceSub, Nat.reduceMul, Nat.reduceEqDiff, Nat.reduceBEq, Nat.reduceBNe, Nat.reduceGT] <;> first | done | rfl | (and_intros <;> first | rfl | omega | (simp; done))
        · rw [if_neg h6] at hm
          have h6b : y4 = false := Bool.eq_false_iff.2 h6
          simp only [bR, bT, tab, bX, reduceIte, ↓reduceIte, reduceCtorEq, Int.reduceToNat, Nat.reduceDiv, Nat.reduceMod, Nat.reduceLT, Nat.reduceLeDiff, Nat.reduceAdd, Nat.reduceSub, Nat.reduceMul, Nat.reduceEqDiff, Nat.reduceBEq, Nat.reduceBNe, Nat.reduceGT, h6b]
          repeat refine ⟨by first | omega | assumption | decide | exact all_len fun _ => rfl | (intro _; omega) | rfl | (and_intros <;> first | omega | assumption | decide | exact all_len fun _ => rfl), ?_⟩
          refine hk _ _ ?_
          clear hk hp k kp
          refine W_ret ?_
          refine KBlock_r ?_
          refine KThen_r ?_
          refine KBody_ret [] ?_
          obtain rfl := Option.some.inj hm
          simp only [bF, bT, tab, bX, reduceIte, ↓reduceIte, reduceCtorEq, Int.reduceToNat, Nat.reduceDiv, Nat.reduceMod, Nat.reduceLT, Nat.reduceLeDiff, Nat.reduceAdd, Nat.reduceSub, Nat.reduceMul, Nat.reduceEqDiff, Nat.reduceBEq, Nat.reduceBNe, Nat.reduceGT] <;> first | done | rfl | (and_intros <;> first | rfl | omega | (simp; done))
      · rw [if_neg h4] at hm
        refine W_condf rfl (Bool.eq_false_iff.2 h4) ?_
        refine W_joinM (S := Bool) (V := Unit) [24, 38, 39, 40] (fun b6 _ => [(38, .c (.bool b6))]) (fun b6 _ => [.box [.int .i64 p1.m_.cells, .int .i64 p1.m_.regs, .int .i64 p1.m_.cost, .tree 1 (p1.m_.put.map (eK .i64)), .tree 1 (p1.m_.bools.map (eK .i64)), .tree 1 (p1.m_.get.map (eK .i64)), .tree 6 (p1.m_.code.map TIns.enc)], .box [.int .i64 p2.op, .int .i64 p2.k, .int .i64 p2.r_, .int .i64 p2.a, .int .i64 p2.b, .int .i64 p2.n]]) (fun b6 => code_judge_fits_j2 p1 p2 y1 b6 = some r) ?_ ?_
        · skip
          refine W_regF [24, 39] fun k kp hk hp => ?_
          simp only [bR, bT, tab, bX, reduceIte, ↓reduceIte, reduceCtorEq, Int.reduceToNat, Nat.reduceDiv, Nat.reduceMod, Nat.reduceLT, Nat.reduceLeDiff, Nat.reduceAdd, Nat.reduceSub, Nat.reduceMul, Nat.reduceEqDiff, Nat.reduceBEq, Nat.reduceBNe, Nat.reduceGT]
          repeat refine ⟨by first | omega | assumption | decide | exact all_len fun _ => rfl | (intro _; omega) | rfl | (and_intros <;> first | omega | assumption | decide | exact all_len fun _ => rfl), ?_⟩
          refine hk _ _ ?_
          clear hk hp k kp
          by_cases h26 : p2.op = 3
          · rw [if_pos h26] at hm
            refine W_condt rfl (beq_iff_eq.2 h26) ?_
            refine W_skip ?_
            refine KJoinM_n (p2.op == 3) () hm ?_
            simp only [bS, bX, reduceIte, ↓reduceIte, reduceCtorEq, Int.reduceToNat, Nat.reduceDiv, Nat.reduceMod, Nat.reduceLT, Nat.reduceLeDiff, Nat.reduceAdd, Nat.reduceSub, Nat.reduceMul, Nat.reduceEqDiff, Nat.reduceBEq, Nat.reduceBNe, Nat.reduceGT] <;> first | done | (and_intros <;> first | rfl | (simp; done) | omega | done)
          · rw [if_neg h26] at hm
            refine W_condf rfl (beq_eq_false_iff_ne.2 h26) ?_
            refine W_region fun k kp hk hp => ?_
            simp only [bR, bT, tab, bX, reduceIte, ↓reduceIte, reduceCtorEq, Int.reduceToNat, Nat.reduceDiv, Nat.reduceMod, Nat.reduceLT, Nat.reduceLeDiff, Nat.reduceAdd, Nat.reduceSub, Nat.reduceMul, Nat.reduceEqDiff, Nat.reduceBEq, Nat.reduceBNe, Nat.reduceGT]
            repeat refine ⟨by first | omega | assumption | decide | exact all_len fun _ => rfl | (intro _; omega) | rfl | (and_intros <;> first | omega | assumption | decide | exact all_len fun _ => rfl), ?_⟩
            refine hk _ _ ?_
            clear hk hp k kp
            refine KJoinM_n (p2.op == 5) () hm ?_
            simp only [bS, bX, reduceIte, ↓reduceIte, reduceCtorEq, Int.reduceToNat, Nat.reduceDiv, Nat.reduceMod, Nat.reduceLT, Nat.reduceLeDiff, Nat.reduceAdd, Nat.reduceSub, Nat.reduceMul, Nat.reduceEqDiff, Nat.reduceBEq, Nat.reduceBNe, Nat.reduceGT] <;> first | done | (and_intros <;> first | rfl | (simp; done) | omega | done)
        · rintro b6 _ hm
          replace hm : code_judge_fits_j2 p1 p2 y1 b6 = some r := hm
          refine W_eqE (by simp only [bE, Nat.reduceDiv, Nat.reduceMod, Nat.reduceLT, Nat.reduceLeDiff, Nat.reduceAdd, Nat.reduceSub, Nat.reduceMul, Nat.reduceEqDiff, Nat.reduceBEq, Nat.reduceBNe, Nat.reduceGT, Int.reduceToNat]; rfl) (by first | (dsimp only; rfl) | rfl) ?_
          unfold code_judge_fits_j2 at hm
          by_cases h8 : b6 = true
          · rw [if_pos h8] at hm
            refine W_condt rfl (h8) ?_
            refine W_regF [2, 3, 7, 16, 38, 41, 42, 43, 44, 45, 46, 47, 48, 49, 50, 51, 52, 53, 54, 55] fun k kp hk hp => ?_
            simp only [bR, bT, tab, bX, reduceIte, ↓reduceIte, reduceCtorEq, Int.reduceToNat, Nat.reduceDiv, Nat.reduceMod, Nat.reduceLT, Nat.reduceLeDiff, Nat.reduceAdd, Nat.reduceSub, Nat.reduceMul, Nat.reduceEqDiff, Nat.reduceBEq, Nat.reduceBNe, Nat.reduceGT, List.replicate, List.foldr]
            repeat refine ⟨by first | omega | assumption | decide | exact all_len fun _ => rfl | (intro _; omega) | rfl | (and_intros <;> first | omega | assumption | decide | exact all_len fun _ => rfl), ?_⟩
            refine RunCall_turn (Ghost_fr 2 rfl) ?_
            simp only [bR, bT, tab, bX, reduceIte, ↓reduceIte, reduceCtorEq, Int.reduceToNat, Nat.reduceDiv, Nat.reduceMod, Nat.reduceLT, Nat.reduceLeDiff, Nat.reduceAdd, Nat.reduceSub, Nat.reduceMul, Nat.reduceEqDiff, Nat.reduceBEq, Nat.reduceBNe, Nat.reduceGT, bZ, List.replicate, List.foldr]
            repeat refine ⟨by first | omega | assumption | decide | exact all_len fun _ => rfl | (intro _; omega) | rfl | (and_intros <;> first | omega | assumption | decide | exact all_len fun _ => rfl), ?_⟩
            obtain ⟨y7, hc9, hm⟩ := bd hm
            refine RunCall_pure (fun _ => code_judge_reg_ok p1 (lit ([p2.r_, p2.a] : List Int)) _ hc9) (by first | trivial | exact dst_ok rfl) (by first | trivial | (intro _; first | trivial | simp [need]) | simp [need]) rfl rfl ?_
            by_cases h10 : y7 = true
            · rw [if_pos h10] at hm
              have h10b : y7 = true := h10
              simp only [bR, bT, tab, bX, reduceIte, ↓reduceIte, reduceCtorEq, Int.reduceToNat, Nat.reduceDiv, Nat.reduceMod, Nat.reduceLT, Nat.reduceLeDiff, Nat.reduceAdd, Nat.reduceSub, Nat.reduceMul, Nat.reduceEqDiff, Nat.reduceBEq, Nat.reduceBNe, Nat.reduceGT, h10b]
              repeat refine ⟨by first | omega | assumption | decide | exact all_len fun _ => rfl | (intro _; omega) | rfl | (and_intros <;> first | omega | assumption | decide | exact all_len fun _ => rfl), ?_⟩
              obtain ⟨y8, hc11, hm⟩ := bd hm
              refine RunCall_pure (fun _ => code_judge_cells_ok p1 p2.n p2.b _ hc11) (by first | trivial | exact dst_ok rfl) (by first | trivial | (intro _; first | trivial | simp [need]) | simp [need]) rfl rfl ?_
              simp only [bR, bT, tab, bX, reduceIte, ↓reduceIte, reduceCtorEq, Int.reduceToNat, Nat.reduceDiv, Nat.reduceMod, Nat.reduceLT, Nat.reduceLeDiff, Nat.reduceAdd, Nat.reduceSub, Nat.reduceMul, Nat.reduceEqDiff, Nat.reduceBEq, Nat.reduceBNe, Nat.reduceGT, h10b]
              repeat refine ⟨by first | omega | assumption | decide | exact all_len fun _ => rfl | (intro _; omega) | rfl | (and_intros <;> first | omega | assumption | decide | exact all_len fun _ => rfl), ?_⟩
              refine hk _ _ ?_
              clear hk hp k kp
              refine W_ret ?_
              refine KBlock_r ?_
              refine KThen_r ?_
              refine KBody_ret [] ?_
              obtain rfl := Option.some.inj hm
              simp only [bF, bT, tab, bX, reduceIte, ↓reduceIte, reduceCtorEq, Int.reduceToNat, Nat.reduceDiv, Nat.reduceMod, Nat.reduceLT, Nat.reduceLeDiff, Nat.reduceAdd, Nat.reduceSub, Nat.reduceMul, Nat.reduceEqDiff, Nat.reduceBEq, Nat.reduceBNe, Nat.reduceGT] <;> first | done | rfl | (and_intros <;> first | rfl | omega | (simp; done))
            · rw [if_neg h10] at hm
              have h10b : y7 = false := Bool.eq_false_iff.2 h10
              simp only [bR, bT, tab, bX, reduceIte, ↓reduceIte, reduceCtorEq, Int.reduceToNat, Nat.reduceDiv, Nat.reduceMod, Nat.reduceLT, Nat.reduceLeDiff, Nat.reduceAdd, Nat.reduceSub, Nat.reduceMul, Nat.reduceEqDiff, Nat.reduceBEq, Nat.reduceBNe, Nat.reduceGT, h10b]
              repeat refine ⟨by first | omega | assumption | decide | exact all_len fun _ => rfl | (intro _; omega) | rfl | (and_intros <;> first | omega | assumption | decide | exact all_len fun _ => rfl), ?_⟩
              refine hk _ _ ?_
              clear hk hp k kp
              refine W_ret ?_
              refine KBlock_r ?_
              refine KThen_r ?_
              refine KBody_ret [] ?_
              obtain rfl := Option.some.inj hm
              simp only [bF, bT, tab, bX, reduceIte, ↓reduceIte, reduceCtorEq, Int.reduceToNat, Nat.reduceDiv, Nat.reduceMod, Nat.reduceLT, Nat.reduceLeDiff, Nat.reduceAdd, Nat.reduceSub, Nat.reduceMul, Nat.reduceEqDiff, Nat.reduceBEq, Nat.reduceBNe, Nat.reduceGT] <;> first | done | rfl | (and_intros <;> first | rfl | omega | (simp; done))
          · rw [if_neg h8] at hm
            refine W_condf rfl (Bool.eq_false_iff.2 h8) ?_
            refine W_regF [38, 57] fun k kp hk hp => ?_
            simp only [bR, bT, tab, bX, reduceIte, ↓reduceIte, reduceCtorEq, Int.reduceToNat, Nat.reduceDiv, Nat.reduceMod, Nat.reduceLT, Nat.reduceLeDiff, Nat.reduceAdd, Nat.reduceSub, Nat.reduceMul, Nat.reduceEqDiff, Nat.reduceBEq, Nat.reduceBNe, Nat.reduceGT]
            repeat refine ⟨by first | omega | assumption | decide | exact all_len fun _ => rfl | (intro _; omega) | rfl | (and_intros <;> first | omega | assumption | decide | exact all_len fun _ => rfl), ?_⟩
            refine hk _ _ ?_
            clear hk hp k kp
            by_cases h12 : p2.op = 6
            · rw [if_pos h12] at hm
              refine W_condt rfl (beq_iff_eq.2 h12) ?_
              refine W_regF [2, 3, 7, 16, 56, 58, 59, 60, 61, 62, 63, 64, 65, 66, 67, 68] fun k kp hk hp => ?_
              simp only [bR, bT, tab, bX, reduceIte, ↓reduceIte, reduceCtorEq, Int.reduceToNat, Nat.reduceDiv, Nat.reduceMod, Nat.reduceLT, Nat.reduceLeDiff, Nat.reduceAdd, Nat.reduceSub, Nat.reduceMul, Nat.reduceEqDiff, Nat.reduceBEq, Nat.reduceBNe, Nat.reduceGT, List.replicate, List.foldr]
              repeat refine ⟨by first | omega | assumption | decide | exact all_len fun _ => rfl | (intro _; omega) | rfl | (and_intros <;> first | omega | assumption | decide | exact all_len fun _ => rfl), ?_⟩
              refine RunCall_turn (Ghost_fr 2 rfl) ?_
              simp only [bR, bT, tab, bX, reduceIte, ↓reduceIte, reduceCtorEq, Int.reduceToNat, Nat.reduceDiv, Nat.reduceMod, Nat.reduceLT, Nat.reduceLeDiff, Nat.reduceAdd, Nat.reduceSub, Nat.reduceMul, Nat.reduceEqDiff, Nat.reduceBEq, Nat.reduceBNe, Nat.reduceGT, bZ, List.replicate, List.foldr]
              repeat refine ⟨by first | omega | assumption | decide | exact all_len fun _ => rfl | (intro _; omega) | rfl | (and_intros <;> first | omega | assumption | decide | exact all_len fun _ => rfl), ?_⟩
              obtain ⟨y9, hc13, hm⟩ := bd hm
              refine RunCall_pure (fun _ => code_judge_reg_ok p1 (lit ([p2.r_, p2.a] : List Int)) _ hc13) (by first | trivial | exact dst_ok rfl) (by first | trivial | (intro _; first | trivial | simp [need]) | simp [need]) rfl rfl ?_
              by_cases h14 : y9 = true
              · rw [if_pos h14] at hm
                have h14b : y9 = true := h14
                simp only [bR, bT, tab, bX, reduceIte, ↓reduceIte, reduceCtorEq, Int.reduceToNat, Nat.reduceDiv, Nat.reduceMod, Nat.reduceLT, Nat.reduceLeDiff, Nat.reduceAdd, Nat.reduceSub, Nat.reduceMul, Nat.reduceEqDiff, Nat.reduceBEq, Nat.reduceBNe, Nat.reduceGT, h14b]
                repeat refine ⟨by first | omega | assumption | decide | exact all_len fun _ => rfl | (intro _; omega) | rfl | (and_intros <;> first | omega | assumption | decide | exact all_len fun _ => rfl), ?_⟩
                refine hk _ _ ?_
                clear hk hp k kp
                refine W_ret ?_
                refine KBlock_r ?_
                refine KThen_r ?_
                refine KBody_ret [] ?_
                obtain rfl := Option.some.inj hm
                simp only [bF, bT, tab, bX, reduceIte, ↓reduceIte, reduceCtorEq, Int.reduceToNat, Nat.reduceDiv, Nat.reduceMod, Nat.reduceLT, Nat.reduceLeDiff, Nat.reduceAdd, Nat.reduceSub, Nat.reduceMul, Nat.reduceEqDiff, Nat.reduceBEq, Nat.reduceBNe, Nat.reduceGT] <;> first | done | rfl | (and_intros <;> first | rfl | omega | (simp; done))
              · rw [if_neg h14] at hm
                have h14b : y9 = false := Bool.eq_false_iff.2 h14
                simp only [bR, bT, tab, bX, reduceIte, ↓reduceIte, reduceCtorEq, Int.reduceToNat, Nat.reduceDiv, Nat.reduceMod, Nat.reduceLT, Nat.reduceLeDiff, Nat.reduceAdd, Nat.reduceSub, Nat.reduceMul, Nat.reduceEqDiff, Nat.reduceBEq, Nat.reduceBNe, Nat.reduceGT, h14b]
                repeat refine ⟨by first | omega | assumption | decide | exact all_len fun _ => rfl | (intro _; omega) | rfl | (and_intros <;> first | omega | assumption | decide | exact all_len fun _ => rfl), ?_⟩
                refine hk _ _ ?_
                clear hk hp k kp
                refine W_ret ?_
                refine KBlock_r ?_
                refine KThen_r ?_
                refine KBody_ret [] ?_
                obtain rfl := Option.some.inj hm
                simp only [bF, bT, tab, bX, reduceIte, ↓reduceIte, reduceCtorEq, Int.reduceToNat, Nat.reduceDiv, Nat.reduceMod, Nat.reduceLT, Nat.reduceLeDiff, Nat.reduceAdd, Nat.reduceSub, Nat.reduceMul, Nat.reduceEqDiff, Nat.reduceBEq, Nat.reduceBNe, Nat.reduceGT] <;> first | done | rfl | (and_intros <;> first | rfl | omega | (simp; done))
            · rw [if_neg h12] at hm
              refine W_condf rfl (beq_eq_false_iff_ne.2 h12) ?_
              refine W_regF [56, 70] fun k kp hk hp => ?_
              simp only [bR, bT, tab, bX, reduceIte, ↓reduceIte, reduceCtorEq, Int.reduceToNat, Nat.reduceDiv, Nat.reduceMod, Nat.reduceLT, Nat.reduceLeDiff, Nat.reduceAdd, Nat.reduceSub, Nat.reduceMul, Nat.reduceEqDiff, Nat.reduceBEq, Nat.reduceBNe, Nat.reduceGT]
              repeat refine ⟨by first | omega | assumption | decide | exact all_len fun _ => rfl | (intro _; omega) | rfl | (and_intros <;> first | omega | assumption | decide | exact all_len fun _ => rfl), ?_⟩
              refine hk _ _ ?_
              clear hk hp k kp
              by_cases h15 : p2.op = 7
              · rw [if_pos h15] at hm
                refine W_condt rfl (beq_iff_eq.2 h15) ?_
                refine W_regF [2, 3, 7, 16, 69, 71, 72, 73, 74, 75, 76, 77, 78, 79, 80, 81, 82, 83] fun k kp hk hp => ?_
                simp only [bR, bT, tab, bX, reduceIte, ↓reduceIte, reduceCtorEq, Int.reduceToNat, Nat.reduceDiv, Nat.reduceMod, Nat.reduceLT, Nat.reduceLeDiff, Nat.reduceAdd, Nat.reduceSub, Nat.reduceMul, Nat.reduceEqDiff, Nat.reduceBEq, Nat.reduceBNe, Nat.reduceGT, List.replicate, List.foldr]
                repeat refine ⟨by first | omega | assumption | decide | exact all_len fun _ => rfl | (intro _; omega) | rfl | (and_intros <;> first | omega | assumption | decide | exact all_len fun _ => rfl), ?_⟩
                refine RunCall_turn (Ghost_fr 2 rfl) ?_
                simp only [bR, bT, tab, bX, reduceIte, ↓reduceIte, reduceCtorEq, Int.reduceToNat, Nat.reduceDiv, Nat.reduceMod, Nat.reduceLT, Nat.reduceLeDiff, Nat.reduceAdd, Nat.reduceSub, Nat.reduceMul, Nat.reduceEqDiff, Nat.reduceBEq, Nat.reduceBNe, Nat.reduceGT, bZ, List.replicate, List.foldr]
                repeat refine ⟨by first | omega | assumption | decide | exact all_len fun _ => rfl | (intro _; omega) | rfl | (and_intros <;> first | omega | assumption | decide | exact all_len fun _ => rfl), ?_⟩
                obtain ⟨y10, hc16, hm⟩ := bd hm
                refine RunCall_pure (fun _ => code_judge_reg_ok p1 (lit ([p2.r_, p2.a, p2.b] : List Int)) _ hc16) (by first | trivial | exact dst_ok rfl) (by first | trivial | (intro _; first | trivial | simp [need]) | simp [need]) rfl rfl ?_
                by_cases h17 : y10 = true
                · rw [if_pos h17] at hm
                  have h17b : y10 = true := h17
                  simp only [bR, bT, tab, bX, reduceIte, ↓reduceIte, reduceCtorEq, Int.reduceToNat, Nat.reduceDiv, Nat.reduceMod, Nat.reduceLT, Nat.reduceLeDiff, Nat.reduceAdd, Nat.reduceSub, Nat.reduceMul, Nat.reduceEqDiff, Nat.reduceBEq, Nat.reduceBNe, Nat.reduceGT, h17b]
                  repeat refine ⟨by first | omega | assumption | decide | exact all_len fun _ => rfl | (intro _; omega) | rfl | (and_intros <;> first | omega | assumption | decide | exact all_len fun _ => rfl), ?_⟩
                  refine hk _ _ ?_
                  clear hk hp k kp
                  refine W_ret ?_
                  refine KBlock_r ?_
                  refine KThen_r ?_
                  refine KBody_ret [] ?_
                  obtain rfl := Option.some.inj hm
                  simp only [bF, bT, tab, bX, reduceIte, ↓reduceIte, reduceCtorEq, Int.reduceToNat, Nat.reduceDiv, Nat.reduceMod, Nat.reduceLT, Nat.reduceLeDiff, Nat.reduceAdd, Nat.reduceSub, Nat.reduceMul, Nat.reduceEqDiff, Nat.reduceBEq, Nat.reduceBNe, Nat.reduceGT] <;> first | done | rfl | (and_intros <;> first | rfl | omega | (simp; done))
                · rw [if_neg h17] at hm
                  have h17b : y10 = false := Bool.eq_false_iff.2 h17
                  simp only [bR, bT, tab, bX, reduceIte, ↓reduceIte, reduceCtorEq, Int.reduceToNat, Nat.reduceDiv, Nat.reduceMod, Nat.reduceLT, Nat.reduceLeDiff, Nat.reduceAdd, Nat.reduceSub, Nat.reduceMul, Nat.reduceEqDiff, Nat.reduceBEq, Nat.reduceBNe, Nat.reduceGT, h17b]
                  repeat refine ⟨by first | omega | assumption | decide | exact all_len fun _ => rfl | (intro _; omega) | rfl | (and_intros <;> first | omega | assumption | decide | exact all_len fun _ => rfl), ?_⟩
                  refine hk _ _ ?_
                  clear hk hp k kp
                  refine W_ret ?_
                  refine KBlock_r ?_
                  refine KThen_r ?_
                  refine KBody_ret [] ?_
                  obtain rfl := Option.some.inj hm
                  simp only [bF, bT, tab, bX, reduceIte, ↓reduceIte, reduceCtorEq, Int.reduceToNat, Nat.reduceDiv, Nat.reduceMod, Nat.reduceLT, Nat.reduceLeDiff, Nat.reduceAdd, Nat.reduceSub, Nat.reduceMul, Nat.reduceEqDiff, Nat.reduceBEq, Nat.reduceBNe, Nat.reduceGT] <;> first | done | rfl | (and_intros <;> first | rfl | omega | (simp; done))
              · rw [if_neg h15] at hm
                refine W_condf rfl (beq_eq_false_iff_ne.2 h15) ?_
                refine W_regF [7, 69, 85] fun k kp hk hp => ?_
                simp only [bR, bT, tab, bX, reduceIte, ↓reduceIte, reduceCtorEq, Int.reduceToNat, Nat.reduceDiv, Nat.reduceMod, Nat.reduceLT, Nat.reduceLeDiff, Nat.reduceAdd, Nat.reduceSub, Nat.reduceMul, Nat.reduceEqDiff, Nat.reduceBEq, Nat.reduceBNe, Nat.reduceGT]
                repeat refine ⟨by first | omega | assumption | decide | exact all_len fun _ => rfl | (intro _; omega) | rfl | (and_intros <;> first | omega | assumption | decide | exact all_len fun _ => rfl), ?_⟩
                refine hk _ _ ?_
                clear hk hp k kp
                by_cases h18 : p2.op = 8
                · rw [if_pos h18] at hm
                  refine W_condt rfl (beq_iff_eq.2 h18) ?_
                  refine W_regF [2, 3, 16, 84, 86, 87, 88, 89, 90, 91, 92, 93, 94] fun k kp hk hp => ?_
                  simp only [bR, bT, tab, bX, reduceIte, ↓reduceIte, reduceCtorEq, Int.reduceToNat, Nat.reduceDiv, Nat.reduceMod, Nat.reduceLT, Nat.reduceLeDiff, Nat.reduceAdd, Nat.reduceSub, Nat.reduceMul, Nat.reduceEqDiff, Nat.reduceBEq, Nat.reduceBNe, Nat.reduceGT, List.replicate, List.foldr]
                  repeat refine ⟨by first | omega | assumption | decide | exact all_len fun _ => rfl | (intro _; omega) | rfl | (and_intros <;> first | omega | assumption | decide | exact all_len fun _ => rfl), ?_⟩
                  refine RunCall_turn (Ghost_fr 2 rfl) ?_
                  simp only [bR, bT, tab, bX, reduceIte, ↓reduceIte, reduceCtorEq, Int.reduceToNat, Nat.reduceDiv, Nat.reduceMod, Nat.reduceLT, Nat.reduceLeDiff, Nat.reduceAdd, Nat.reduceSub, Nat.reduceMul, Nat.reduceEqDiff, Nat.reduceBEq, Nat.reduceBNe, Nat.reduceGT, bZ, List.replicate, List.foldr]
                  repeat refine ⟨by first | omega | assumption | decide | exact all_len fun _ => rfl | (intro _; omega) | rfl | (and_intros <;> first | omega | assumption | decide | exact all_len fun _ => rfl), ?_⟩
                  obtain ⟨y11, hc19, hm⟩ := bd hm
                  refine RunCall_pure (fun _ => code_judge_reg_ok p1 (lit ([p2.r_, p2.a, p2.b] : List Int)) _ hc19) (by first | trivial | exact dst_ok rfl) (by first | trivial | (intro _; first | trivial | simp [need]) | simp [need]) rfl rfl ?_
                  simp only [bR, bT, tab, bX, reduceIte, ↓reduceIte, reduceCtorEq, Int.reduceToNat, Nat.reduceDiv, Nat.reduceMod, Nat.reduceLT, Nat.reduceLeDiff, Nat.reduceAdd, Nat.reduceSub, Nat.reduceMul, Nat.reduceEqDiff, Nat.reduceBEq, Nat.reduceBNe, Nat.reduceGT]
                  repeat refine ⟨by first | omega | assumption | decide | exact all_len fun _ => rfl | (intro _; omega) | rfl | (and_intros <;> first | omega | assumption | decide | exact all_len fun _ => rfl), ?_⟩
                  refine hk _ _ ?_
                  clear hk hp k kp
                  refine W_ret ?_
                  refine KBlock_r ?_
                  refine KThen_r ?_
                  refine KBody_ret [] ?_
                  obtain rfl := Option.some.inj hm
                  simp only [bF, bT, tab, bX, reduceIte, ↓reduceIte, reduceCtorEq, Int.reduceToNat, Nat.reduceDiv, Nat.reduceMod, Nat.reduceLT, Nat.reduceLeDiff, Nat.reduceAdd, Nat.reduceSub, Nat.reduceMul, Nat.reduceEqDiff, Nat.reduceBEq, Nat.reduceBNe, Nat.reduceGT] <;> first | done | rfl | (and_intros <;> first | rfl | omega | (simp; done))
                · rw [if_neg h18] at hm
                  refine W_condf rfl (beq_eq_false_iff_ne.2 h18) ?_
                  refine W_regF [84, 96] fun k kp hk hp => ?_
                  simp only [bR, bT, tab, bX, reduceIte, ↓reduceIte, reduceCtorEq, Int.reduceToNat, Nat.reduceDiv, Nat.reduceMod, Nat.reduceLT, Nat.reduceLeDiff, Nat.reduceAdd, Nat.reduceSub, Nat.reduceMul, Nat.reduceEqDiff, Nat.reduceBEq, Nat.reduceBNe, Nat.reduceGT]
                  repeat refine ⟨by first | omega | assumption | decide | exact all_len fun _ => rfl | (intro _; omega) | rfl | (and_intros <;> first | omega | assumption | decide | exact all_len fun _ => rfl), ?_⟩
                  refine hk _ _ ?_
                  clear hk hp k kp
                  by_cases h20 : p2.op = 9
                  · rw [if_pos h20] at hm
                    refine W_condt rfl (beq_iff_eq.2 h20) ?_
                    refine W_regF [2, 3, 16, 95, 97, 98, 99, 100, 101, 102, 103] fun k kp hk hp => ?_
                    simp only [bR, bT, tab, bX, reduceIte, ↓reduceIte, reduceCtorEq, Int.reduceToNat, Nat.reduceDiv, Nat.reduceMod, Nat.reduceLT, Nat.reduceLeDiff, Nat.reduceAdd, Nat.reduceSub, Nat.reduceMul, Nat.reduceEqDiff, Nat.reduceBEq, Nat.reduceBNe, Nat.reduceGT, List.replicate, List.foldr]
                    repeat refine ⟨by first | omega | assumption | decide | exact all_len fun _ => rfl | (intro _; omega) | rfl | (and_intros <;> first | omega | assumption | decide | exact all_len fun _ => rfl), ?_⟩
                    refine RunCall_turn (Ghost_fr 2 rfl) ?_
                    simp only [bR, bT, tab, bX, reduceIte, ↓reduceIte, reduceCtorEq, Int.reduceToNat, Nat.reduceDiv, Nat.reduceMod, Nat.reduceLT, Nat.reduceLeDiff, Nat.reduceAdd, Nat.reduceSub, Nat.reduceMul, Nat.reduceEqDiff, Nat.reduceBEq, Nat.reduceBNe, Nat.reduceGT, bZ, List.replicate, List.foldr]
                    repeat refine ⟨by first | omega | assumption | decide | exact all_len fun _ => rfl | (intro _; omega) | rfl | (and_intros <;> first | omega | assumption | decide | exact all_len fun _ => rfl), ?_⟩
                    obtain ⟨y12, hc21, hm⟩ := bd hm
                    refine RunCall_pure (fun _ => code_judge_reg_ok p1 (lit ([p2.r_, p2.a] : List Int)) _ hc21) (by first | trivial | exact dst_ok rfl) (by first | trivial | (intro _; first | trivial | simp [need]) | simp [need]) rfl rfl ?_
                    simp only [bR, bT, tab, bX, reduceIte, ↓reduceIte, reduceCtorEq, Int.reduceToNat, Nat.reduceDiv, Nat.reduceMod, Nat.reduceLT, Nat.reduceLeDiff, Nat.reduceAdd, Nat.reduceSub, Nat.reduceMul, Nat.reduceEqDiff, Nat.reduceBEq, Nat.reduceBNe, Nat.reduceGT]
                    repeat refine ⟨by first | omega | assumption | decide | exact all_len fun _ => rfl | (intro _; omega) | rfl | (and_intros <;> first | omega | assumption | decide | exact all_len fun _ => rfl), ?_⟩
                    refine hk _ _ ?_
                    clear hk hp k kp
                    refine W_ret ?_
                    refine KBlock_r ?_
                    refine KThen_r ?_
                    refine KBody_ret [] ?_
                    obtain rfl := Option.some.inj hm
                    simp only [bF, bT, tab, bX, reduceIte, ↓reduceIte, reduceCtorEq, Int.reduceToNat, Nat.reduceDiv, Nat.reduceMod, Nat.reduceLT, Nat.reduceLeDiff, Nat.reduceAdd, Nat.reduceSub, Nat.reduceMul, Nat.reduceEqDiff, Nat.reduceBEq, Nat.reduceBNe, Nat.reduceGT] <;> first | done | rfl | (and_intros <;> first | rfl | omega | (simp; done))
                  · rw [if_neg h20] at hm
                    refine W_condf rfl (beq_eq_false_iff_ne.2 h20) ?_
                    refine W_regF [16, 95, 105] fun k kp hk hp => ?_
                    simp only [bR, bT, tab, bX, reduceIte, ↓reduceIte, reduceCtorEq, Int.reduceToNat, Nat.reduceDiv, Nat.reduceMod, Nat.reduceLT, Nat.reduceLeDiff, Nat.reduceAdd, Nat.reduceSub, Nat.reduceMul, Nat.reduceEqDiff, Nat.reduceBEq, Nat.reduceBNe, Nat.reduceGT]
                    repeat refine ⟨by first | omega | assumption | decide | exact all_len fun _ => rfl | (intro _; omega) | rfl | (and_intros <;> first | omega | assumption | decide | exact all_len fun _ => rfl), ?_⟩
                    refine hk _ _ ?_
                    clear hk hp k kp
                    by_cases h22 : p2.op = 10
                    · rw [if_pos h22] at hm
                      refine W_condt rfl (beq_iff_eq.2 h22) ?_
                      refine W_regF [2, 3, 104, 106, 107, 108, 109, 110, 111, 112, 113, 114, 115, 116, 117, 118, 119, 120] fun k kp hk hp => ?_
                      simp only [bR, bT, tab, bX, reduceIte, ↓reduceIte, reduceCtorEq, Int.reduceToNat, Nat.reduceDiv, Nat.reduceMod, Nat.reduceLT, Nat.reduceLeDiff, Nat.reduceAdd, Nat.reduceSub, Nat.reduceMul, Nat.reduceEqDiff, Nat.reduceBEq, Nat.reduceBNe, Nat.reduceGT, List.replicate, List.foldr]
                      repeat refine ⟨by first | omega | assumption | decide | exact all_len fun _ => rfl | (intro _; omega) | rfl | (and_intros <;> first | omega | assumption | decide | exact all_len fun _ => rfl), ?_⟩
                      refine RunCall_turn (Ghost_fr 2 rfl) ?_
                      simp only [bR, bT, tab, bX, reduceIte, ↓reduceIte, reduceCtorEq, Int.reduceToNat, Nat.reduceDiv, Nat.reduceMod, Nat.reduceLT, Nat.reduceLeDiff, Nat.reduceAdd, Nat.reduceSub, Nat.reduceMul, Nat.reduceEqDiff, Nat.reduceBEq, Nat.reduceBNe, Nat.reduceGT, bZ, List.replicate, List.foldr]
                      repeat refine ⟨by first | omega | assumption | decide | exact all_len fun _ => rfl | (intro _; omega) | rfl | (and_intros <;> first | omega | assumption | decide | exact all_len fun _ => rfl), ?_⟩
                      obtain ⟨y13, hc23, hm⟩ := bd hm
                      refine RunCall_pure (fun _ => code_judge_reg_ok p1 (lit ([p2.r_] : List Int)) _ hc23) (by first | trivial | exact dst_ok rfl) (by first | trivial | (intro _; first | trivial | simp [need]) | simp [need]) rfl rfl ?_
                      by_cases h24 : y13 = true
                      · rw [if_pos h24] at hm
                        have h24b : y13 = true := h24
                        by_cases h25 : p2.n ≥ 1
                        · rw [if_pos h25] at hm
                          have h25b : decide (p2.n ≥ 1) = true := decide_eq_true h25
                          simp only [bR, bT, tab, bX, reduceIte, ↓reduceIte, reduceCtorEq, Int.reduceToNat, Nat.reduceDiv, Nat.reduceMod, Nat.reduceLT, Nat.reduceLeDiff, Nat.reduceAdd, Nat.reduceSub, Nat.reduceMul, Nat.reduceEqDiff, Nat.reduceBEq, Nat.reduceBNe, Nat.reduceGT, h24b, h25b]
                          repeat refine ⟨by first | omega | assumption | decide | exact all_len fun _ => rfl | (intro _; omega) | rfl | (and_intros <;> first | omega | assumption | decide | exact all_len fun _ => rfl), ?_⟩
                          refine hk _ _ ?_
                          clear hk hp k kp
                          refine W_ret ?_
                          refine KBlock_r ?_
                          refine KThen_r ?_
                          refine KBody_ret [] ?_
                          obtain rfl := Option.some.inj hm
                          simp only [bF, bT, tab, bX, reduceIte, ↓reduceIte, reduceCtorEq, Int.reduceToNat, Nat.reduceDiv, Nat.reduceMod, Nat.reduceLT, Nat.reduceLeDiff, Nat.reduceAdd, Nat.reduceSub, Nat.reduceMul, Nat.reduceEqDiff, Nat.reduceBEq, Nat.reduceBNe, Nat.reduceGT] <;> first | done | rfl | (and_intros <;> first | rfl | omega | (simp; done))
                        · rw [if_neg h25] at hm
                          have h25b : decide (p2.n ≥ 1) = false := decide_eq_false h25
                          simp only [bR, bT, tab, bX, reduceIte, ↓reduceIte, reduceCtorEq, Int.reduceToNat, Nat.reduceDiv, Nat.reduceMod, Nat.reduceLT, Nat.reduceLeDiff, Nat.reduceAdd, Nat.reduceSub, Nat.reduceMul, Nat.reduceEqDiff, Nat.reduceBEq, Nat.reduceBNe, Nat.reduceGT, h24b, h25b]
                          repeat refine ⟨by first | omega | assumption | decide | exact all_len fun _ => rfl | (intro _; omega) | rfl | (and_intros <;> first | omega | assumption | decide | exact all_len fun _ => rfl), ?_⟩
                          refine hk _ _ ?_
                          clear hk hp k kp
                          refine W_ret ?_
                          refine KBlock_r ?_
                          refine KThen_r ?_
                          refine KBody_ret [] ?_
                          obtain rfl := Option.some.inj hm
                          simp only [bF, bT, tab, bX, reduceIte, ↓reduceIte, reduceCtorEq, Int.reduceToNat, Nat.reduceDiv, Nat.reduceMod, Nat.reduceLT, Nat.reduceLeDiff, Nat.reduceAdd, Nat.reduceSub, Nat.reduceMul, Nat.reduceEqDiff, Nat.reduceBEq, Nat.reduceBNe, Nat.reduceGT] <;> first | done | rfl | (and_intros <;> first | rfl | omega | (simp; done))
                      · rw [if_neg h24] at hm
                        have h24b : y13 = false := Bool.eq_false_iff.2 h24
                        simp only [bR, bT, tab, bX, reduceIte, ↓reduceIte, reduceCtorEq, Int.reduceToNat, Nat.reduceDiv, Nat.reduceMod, Nat.reduceLT, Nat.reduceLeDiff, Nat.reduceAdd, Nat.reduceSub, Nat.reduceMul, Nat.reduceEqDiff, Nat.reduceBEq, Nat.reduceBNe, Nat.reduceGT, h24b]
                        repeat refine ⟨by first | omega | assumption | decide | exact all_len fun _ => rfl | (intro _; omega) | rfl | (and_intros <;> first | omega | assumption | decide | exact all_len fun _ => rfl), ?_⟩
                        refine hk _ _ ?_
                        clear hk hp k kp
                        refine W_ret ?_
                        refine KBlock_r ?_
                        refine KThen_r ?_
                        refine KBody_ret [] ?_
                        obtain rfl := Option.some.inj hm
                        simp only [bF, bT, tab, bX, reduceIte, ↓reduceIte, reduceCtorEq, Int.reduceToNat, Nat.reduceDiv, Nat.reduceMod, Nat.reduceLT, Nat.reduceLeDiff, Nat.reduceAdd, Nat.reduceSub, Nat.reduceMul, Nat.reduceEqDiff, Nat.reduceBEq, Nat.reduceBNe, Nat.reduceGT] <;> first | done | rfl | (and_intros <;> first | rfl | omega | (simp; done))
                    · rw [if_neg h22] at hm
                      refine W_condf rfl (beq_eq_false_iff_ne.2 h22) ?_
                      refine W_skip ?_
                      refine KBlock_n ?_
                      refine KThen_n (hk1 _ _ ?_)
                      refine W_regF [2, 3, 104, 121, 122, 123] fun k kp hk hp => ?_
                      simp only [bR, bT, tab, bX, reduceIte, ↓reduceIte, reduceCtorEq, Int.reduceToNat, Nat.reduceDiv, Nat.reduceMod, Nat.reduceLT, Nat.reduceLeDiff, Nat.reduceAdd, Nat.reduceSub, Nat.reduceMul, Nat.reduceEqDiff, Nat.reduceBEq, Nat.reduceBNe, Nat.reduceGT]
                      repeat refine ⟨by first | omega | assumption | decide | exact all_len fun _ => rfl | (intro _; omega) | rfl | (and_intros <;> first | omega | assumption | decide | exact all_len fun _ => rfl), ?_⟩
                      refine hk _ _ ?_
                      clear hk hp k kp
                      refine W_ret ?_
                      refine KBody_ret [] ?_
                      obtain rfl := Option.some.inj hm
                      simp only [bF, bT, tab, bX, reduceIte, ↓reduceIte, reduceCtorEq, Int.reduceToNat, Nat.reduceDiv, Nat.reduceMod, Nat.reduceLT, Nat.reduceLeDiff, Nat.reduceAdd, Nat.reduceSub, Nat.reduceMul, Nat.reduceEqDiff, Nat.reduceBEq, Nat.reduceBNe, Nat.reduceGT] <;> first | done | rfl | (and_intros <;> first | rfl | omega | (simp; done))
end Pam

/- the walk of code_Check, printed by a program of ours -/
namespace Pam
open Go Go.Proofs
set_option maxRecDepth 100000 in
set_option maxHeartbeats 1000000 in
theorem code_Check_ok (p1 : TImage) (r : TFault) (hm : code_Check p1 = some r) : SpecF Try.prog 18 [.a [.int .i64 p1.cells, .int .i64 p1.regs, .int .i64 p1.cost, .tree 1 (p1.put.map (eK .i64)), .tree 1 (p1.bools.map (eK .i64)), .tree 1 (p1.get.map (eK .i64)), .tree 6 (p1.code.map TIns.enc)]] (.a [.int .i64 ((r).code), .int .i64 ((r).at_)]) := by
  refine Spec_ofD 116 [.cell 2 30] Try.func18 rfl rfl rfl (by kernel_rfl) (by simp) ?_
  refine W_eqE (by simp only [argSlots, Env.ofList, List.length_nil, List.length_cons, bE, Nat.reduceDiv, Nat.reduceMod, Nat.reduceLT, Nat.reduceLeDiff, Nat.reduceAdd, Nat.reduceSub, Nat.reduceMul, Nat.reduceEqDiff, Nat.reduceBEq, Nat.reduceBNe, Nat.reduceGT, Int.reduceToNat]; rfl) rfl ?_
  unfold code_Check at hm
  refine W_regF [0] fun k kp hk hp => ?_
  simp only [bR, bT, tab, bX, reduceIte, ↓reduceIte, reduceCtorEq, Int.reduceToNat, Nat.reduceDiv, Nat.reduceMod, Nat.reduceLT, Nat.reduceLeDiff, Nat.reduceAdd, Nat.reduceSub, Nat.reduceMul, Nat.reduceEqDiff, Nat.reduceBEq, Nat.reduceBNe, Nat.reduceGT]
  repeat refine ⟨by first | omega | assumption | decide | exact all_len fun _ => rfl | (intro _; omega) | rfl | (and_intros <;> first | omega | assumption | decide | exact all_len fun _ => rfl), ?_⟩
  refine hk _ _ ?_
  clear hk hp k kp
  refine W_seq_k fun k1 hk1 => ?_
  by_cases h1 : p1.cells < 1
  · rw [if_pos h1] at hm
    have h1b : decide (p1.cells < 1) = true := decide_eq_true h1
    refine W_regF [10, 11, 12, 13, 14, 15, 16, 17, 18, 19, 20, 21, 22, 23, 24, 25, 26] fun k kp hk hp => ?_
    simp only [bR, bT, tab, bX, reduceIte, ↓reduceIte, reduceCtorEq, Int.reduceToNat, Nat.reduceDiv, Nat.reduceMod, Nat.reduceLT, Nat.reduceLeDiff, Nat.reduceAdd, Nat.reduceSub, Nat.reduceMul, Nat.reduceEqDiff, Nat.reduceBEq, Nat.reduceBNe, Nat.reduceGT, h1b]
    repeat refine ⟨by first | omega | assumption | decide | exact all_len fun _ => rfl | (intro _; omega) | rfl | (and_intros <;> first | omega | assumption | decide | exact all_len fun _ => rfl), ?_⟩
    refine hk _ _ ?_
    clear hk hp k kp
    refine W_condt rfl rfl ?_
    refine W_regF [1, 27, 28] fun k kp hk hp => ?_
    simp only [bR, bT, tab, bX, reduceIte, ↓reduceIte, reduceCtorEq, Int.reduceToNat, Nat.reduceDiv, Nat.reduceMod, Nat.reduceLT, Nat.reduceLeDiff, Nat.reduceAdd, Nat.reduceSub, Nat.reduceMul, Nat.reduceEqDiff, Nat.reduceBEq, Nat.reduceBNe, Nat.reduceGT, List.replicate, List.foldr]
    repeat refine ⟨by first | omega | assumption | decide | exact all_len fun _ => rfl | (intro _; omega) | rfl | (and_intros <;> first | omega | assumption | decide | exact all_len fun _ => rfl), ?_⟩
    refine hk _ _ ?_
    clear hk hp k kp
    refine W_ret ?_
    refine KThen_r ?_
    refine KBody_ret [] ?_
    obtain rfl := Option.some.inj hm
    simp only [bF, bT, tab, bX, reduceIte, ↓reduceIte, reduceCtorEq, Int.reduceToNat, Nat.reduceDiv, Nat.reduceMod, Nat.reduceLT, Nat.reduceLeDiff, Nat.reduceAdd, Nat.reduceSub, Nat.reduceMul, Nat.reduceEqDiff, Nat.reduceBEq, Nat.reduceBNe, Nat.reduceGT] <;> first | done | rfl | (and_intros <;> first | rfl | omega | (simp; done))
  · rw [if_neg h1] at hm
    have h1b : decide (p1.cells < 1) = false := decide_eq_false h1
    by_cases h2 : p1.cells > 6000
    · rw [if_pos h2] at hm
      have h2b : decide (p1.cells > 6000) = true := decide_eq_true h2
      refine W_regF [10, 11, 12, 13, 14, 15, 16, 17, 18, 19, 20, 21, 22, 23, 24, 25, 26] fun k kp hk hp => ?_
      simp only [bR, bT, tab, bX, reduceIte, ↓reduceIte, reduceCtorEq, Int.reduceToNat, Nat.reduceDiv, Nat.reduceMod, Nat.reduceLT, Nat.reduceLeDiff, Nat.reduceAdd, Nat.reduceSub, Nat.reduceMul, Nat.reduceEqDiff, Nat.reduceBEq, Nat.reduceBNe, Nat.reduceGT, h1b, h2b]
      repeat refine ⟨by first | omega | assumption | decide | exact all_len fun _ => rfl | (intro _; omega) | rfl | (and_intros <;> first | omega | assumption | decide | exact all_len fun _ => rfl), ?_⟩
      refine hk _ _ ?_
      clear hk hp k kp
      refine W_condt rfl rfl ?_
      refine W_regF [1, 27, 28] fun k kp hk hp => ?_
      simp only [bR, bT, tab, bX, reduceIte, ↓reduceIte, reduceCtorEq, Int.reduceToNat, Nat.reduceDiv, Nat.reduceMod, Nat.reduceLT, Nat.reduceLeDiff, Nat.reduceAdd, Nat.reduceSub, Nat.reduceMul, Nat.reduceEqDiff, Nat.reduceBEq, Nat.reduceBNe, Nat.reduceGT, List.replicate, List.foldr]
      repeat refine ⟨by first | omega | assumption | decide | exact all_len fun _ => rfl | (intro _; omega) | rfl | (and_intros <;> first | omega | assumption | decide | exact all_len fun _ => rfl), ?_⟩
      refine hk _ _ ?_
      clear hk hp k kp
      refine W_ret ?_
      refine KThen_r ?_
      refine KBody_ret [] ?_
      obtain rfl := Option.some.inj hm
      simp only [bF, bT, tab, bX, reduceIte, ↓reduceIte, reduceCtorEq, Int.reduceToNat, Nat.reduceDiv, Nat.reduceMod, Nat.reduceLT, Nat.reduceLeDiff, Nat.reduceAdd, Nat.reduceSub, Nat.reduceMul, Nat.reduceEqDiff, Nat.reduceBEq, Nat.reduceBNe, Nat.reduceGT] <;> first | done | rfl | (and_intros <;> first | rfl | omega | (simp; done))
    · rw [if_neg h2] at hm
      have h2b : decide (p1.cells > 6000) = false := decide_eq_false h2
      by_cases h3 : p1.regs < 1
      · rw [if_pos h3] at hm
        have h3b : decide (p1.regs < 1) = true := decide_eq_true h3
        refine W_regF [10, 11, 12, 13, 14, 15, 16, 17, 18, 19, 20, 21, 22, 23, 24, 25, 26] fun k kp hk hp => ?_
        simp only [bR, bT, tab, bX, reduceIte, ↓reduceIte, reduceCtorEq, Int.reduceToNat, Nat.reduceDiv, Nat.reduceMod, Nat.reduceLT, Nat.reduceLeDiff, Nat.reduceAdd, Nat.reduceSub, Nat.reduceMul, Nat.reduceEqDiff, Nat.reduceBEq, Nat.reduceBNe, Nat.reduceGT, h1b, h2b, h3b]
        repeat refine ⟨by first | omega | assumption | decide | exact all_len fun _ => rfl | (intro _; omega) | rfl | (and_intros <;> first | omega | assumption | decide | exact all_len fun _ => rfl), ?_⟩
        refine hk _ _ ?_
        clear hk hp k kp
        refine W_condt rfl rfl ?_
        refine W_regF [1, 27, 28] fun k kp hk hp => ?_
        simp only [bR, bT, tab, bX, reduceIte, ↓reduceIte, reduceCtorEq, Int.reduceToNat, Nat.reduceDiv, Nat.reduceMod, Nat.reduceLT, Nat.reduceLeDiff, Nat.reduceAdd, Nat.reduceSub, Nat.reduceMul, Nat.reduceEqDiff, Nat.reduceBEq, Nat.reduceBNe, Nat.reduceGT, List.replicate, List.foldr]
        repeat refine ⟨by first | omega | assumption | decide | exact all_len fun _ => rfl | (intro _; omega) | rfl | (and_intros <;> first | omega | assumption | decide | exact all_len fun _ => rfl), ?_⟩
        refine hk _ _ ?_
        clear hk hp k kp
        refine W_ret ?_
        refine KThen_r ?_
        refine KBody_ret [] ?_
        obtain rfl := Option.some.inj hm
        simp only [bF, bT, tab, bX, reduceIte, ↓reduceIte, reduceCtorEq, Int.reduceToNat, Nat.reduceDiv, Nat.reduceMod, Nat.reduceLT, Nat.reduceLeDiff, Nat.reduceAdd, Nat.reduceSub, Nat.reduceMul, Nat.reduceEqDiff, Nat.reduceBEq, Nat.reduceBNe, Nat.reduceGT] <;> first | done | rfl | (and_intros <;> first | rfl | omega | (simp; done))
      · rw [if_neg h3] at hm
        have h3b : decide (p1.regs < 1) = false := decide_eq_false h3
        refine W_regF [10, 11, 12, 13, 14, 15, 16, 17, 18, 19, 20, 21, 22, 23, 24, 25, 26] fun k kp hk hp => ?_
        simp only [bR, bT, tab, bX, reduceIte, ↓reduceIte, reduceCtorEq, Int.reduceToNat, Nat.reduceDiv, Nat.reduceMod, Nat.reduceLT, Nat.reduceLeDiff, Nat.reduceAdd, Nat.reduceSub, Nat.reduceMul, Nat.reduceEqDiff, Nat.reduceBEq, Nat.reduceBNe, Nat.reduceGT, h1b, h2b, h3b]
        repeat refine ⟨by first | omega | assumption | decide | exact all_len fun _ => rfl | (intro _; omega) | rfl | (and_intros <;> first | omega | assumption | decide | exact all_len fun _ => rfl), ?_⟩
        refine hk _ _ ?_
        clear hk hp k kp
        by_cases h4 : p1.regs > 40
        · rw [if_pos h4] at hm
          refine W_condt rfl (decide_eq_true h4) ?_
          refine W_regF [1, 27, 28] fun k kp hk hp => ?_
          simp only [bR, bT, tab, bX, reduceIte, ↓reduceIte, reduceCtorEq, Int.reduceToNat, Nat.reduceDiv, Nat.reduceMod, Nat.reduceLT, Nat.reduceLeDiff, Nat.reduceAdd, Nat.reduceSub, Nat.reduceMul, Nat.reduceEqDiff, Nat.reduceBEq, Nat.reduceBNe, Nat.reduceGT, List.replicate, List.foldr]
          repeat refine ⟨by first | omega | assumption | decide | exact all_len fun _ => rfl | (intro _; omega) | rfl | (and_intros <;> first | omega | assumption | decide | exact all_len fun _ => rfl), ?_⟩
          refine hk _ _ ?_
          clear hk hp k kp
          refine W_ret ?_
          refine KThen_r ?_
          refine KBody_ret [] ?_
          obtain rfl := Option.some.inj hm
          simp only [bF, bT, tab, bX, reduceIte, ↓reduceIte, reduceCtorEq, Int.reduceToNat, Nat.reduceDiv, Nat.reduceMod, Nat.reduceLT, Nat.reduceLeDiff, Nat.reduceAdd, Nat.reduceSub, Nat.reduceMul, Nat.reduceEqDiff, Nat.reduceBEq, Nat.reduceBNe, Nat.reduceGT] <;> first | done | rfl | (and_intros <;> first | rfl | omega | (simp; done))
        · rw [if_neg h4] at hm
          refine W_condf rfl (decide_eq_false h4) ?_
          refine W_skip ?_
          refine KThen_n (hk1 _ _ ?_)
          refine W_seq_k fun k2 hk2 => ?_
          by_cases h5 : (p1.put.length : Int) > 6000
          · rw [if_pos h5] at hm
            have h5b : decide ((p1.put.length : Int) > 6000) = true := decide_eq_true h5
            refine W_regF [27, 29, 30, 31, 32, 33, 34, 35, 36, 37, 38, 39, 40, 41, 42, 43, 44, 45, 46, 47, 48, 49] fun k kp hk hp => ?_
            simp only [bR, bT, tab, bX, reduceIte, ↓reduceIte, reduceCtorEq, Int.reduceToNat, Nat.reduceDiv, Nat.reduceMod, Nat.reduceLT, Nat.reduceLeDiff, Nat.reduceAdd, Nat.reduceSub, Nat.reduceMul, Nat.reduceEqDiff, Nat.reduceBEq, Nat.reduceBNe, Nat.reduceGT, h5b]
            repeat refine ⟨by first | omega | assumption | decide | exact all_len fun _ => rfl | (intro _; omega) | rfl | (and_intros <;> first | omega | assumption | decide | exact all_len fun _ => rfl), ?_⟩
            refine hk _ _ ?_
            clear hk hp k kp
            refine W_condt rfl rfl ?_
            refine W_regF [1, 50, 51] fun k kp hk hp => ?_
            simp only [bR, bT, tab, bX, reduceIte, ↓reduceIte, reduceCtorEq, Int.reduceToNat, Nat.reduceDiv, Nat.reduceMod, Nat.reduceLT, Nat.reduceLeDiff, Nat.reduceAdd, Nat.reduceSub, Nat.reduceMul, Nat.reduceEqDiff, Nat.reduceBEq, Nat.reduceBNe, Nat.reduceGT, List.replicate, List.foldr]
            repeat refine ⟨by first | omega | assumption | decide | exact all_len fun _ => rfl | (intro _; omega) | rfl | (and_intros <;> first | omega | assumption | decide | exact all_len fun _ => rfl), ?_⟩
            refine hk _ _ ?_
            clear hk hp k kp
            refine W_ret ?_
            refine KThen_r ?_
            refine KBody_ret [] ?_
            obtain rfl := Option.some.inj hm
            simp only [bF, bT, tab, bX, reduceIte, ↓reduceIte, reduceCtorEq, Int.reduceToNat, Nat.reduceDiv, Nat.reduceMod, Nat.reduceLT, Nat.reduceLeDiff, Nat.reduceAdd, Nat.reduceSub, Nat.reduceMul, Nat.reduceEqDiff, Nat.reduceBEq, Nat.reduceBNe, Nat.reduceGT] <;> first | done | rfl | (and_intros <;> first | rfl | omega | (simp; done))
          · rw [if_neg h5] at hm
            have h5b : decide ((p1.put.length : Int) > 6000) = false := decide_eq_false h5
            by_cases h6 : (p1.bools.length : Int) > 6000
            · rw [if_pos h6] at hm
              have h6b : decide ((p1.bools.length : Int) > 6000) = true := decide_eq_true h6
              refine W_regF [27, 29, 30, 31, 32, 33, 34, 35, 36, 37, 38, 39, 40, 41, 42, 43, 44, 45, 46, 47, 48, 49] fun k kp hk hp => ?_
              simp only [bR, bT, tab, bX, reduceIte, ↓reduceIte, reduceCtorEq, Int.reduceToNat, Nat.reduceDiv, Nat.reduceMod, Nat.reduceLT, Nat.reduceLeDiff, Nat.reduceAdd, Nat.reduceSub, Nat.reduceMul, Nat.reduceEqDiff, Nat.reduceBEq, Nat.reduceBNe, Nat.reduceGT, h5b, h6b]
              repeat refine ⟨by first | omega | assumption | decide | exact all_len fun _ => rfl | (intro _; omega) | rfl | (and_intros <;> first | omega | assumption | decide | exact all_len fun _ => rfl), ?_⟩
              refine hk _ _ ?_
              clear hk hp k kp
              refine W_condt rfl rfl ?_
              refine W_regF [1, 50, 51] fun k kp hk hp => ?_
              simp only [bR, bT, tab, bX, reduceIte, ↓reduceIte, reduceCtorEq, Int.reduceToNat, Nat.reduceDiv, Nat.reduceMod, Nat.reduceLT, Nat.reduceLeDiff, Nat.reduceAdd, Nat.reduceSub, Nat.reduceMul, Nat.reduceEqDiff, Nat.reduceBEq, Nat.reduceBNe, Nat.reduceGT, List.replicate, List.foldr]
              repeat refine ⟨by first | omega | assumption | decide | exact all_len fun _ => rfl | (intro _; omega) | rfl | (and_intros <;> first | omega | assumption | decide | exact all_len fun _ => rfl), ?_⟩
              refine hk _ _ ?_
              clear hk hp k kp
              refine W_ret ?_
              refine KThen_r ?_
              refine KBody_ret [] ?_
              obtain rfl := Option.some.inj hm
              simp only [bF, bT, tab, bX, reduceIte, ↓reduceIte, reduceCtorEq, Int.reduceToNat, Nat.reduceDiv, Nat.reduceMod, Nat.reduceLT, Nat.reduceLeDiff, Nat.reduceAdd, Nat.reduceSub, Nat.reduceMul, Nat.reduceEqDiff, Nat.reduceBEq, Nat.reduceBNe, Nat.reduceGT] <;> first | done | rfl | (and_intros <;> first | rfl | omega | (simp; done))
            · rw [if_neg h6] at hm
              have h6b : decide ((p1.bools.length : Int) > 6000) = false := decide_eq_false h6
              by_cases h7 : (p1.get.length : Int) > 120000
              · rw [if_pos h7] at hm
                have h7b : decide ((p1.get.length : Int) > 120000) = true := decide_eq_true h7
                refine W_regF [27, 29, 30, 31, 32, 33, 34, 35, 36, 37, 38, 39, 40, 41, 42, 43, 44, 45, 46, 47, 48, 49] fun k kp hk hp => ?_
                simp only [bR, bT, tab, bX, reduceIte, ↓reduceIte, reduceCtorEq, Int.reduceToNat, Nat.reduceDiv, Nat.reduceMod, Nat.reduceLT, Nat.reduceLeDiff, Nat.reduceAdd, Nat.reduceSub, Nat.reduceMul, Nat.reduceEqDiff, Nat.reduceBEq, Nat.reduceBNe, Nat.reduceGT, h5b, h6b, h7b]
                repeat refine ⟨by first | omega | assumption | decide | exact all_len fun _ => rfl | (intro _; omega) | rfl | (and_intros <;> first | omega | assumption | decide | exact all_len fun _ => rfl), ?_⟩
                refine hk _ _ ?_
                clear hk hp k kp
                refine W_condt rfl rfl ?_
                refine W_regF [1, 50, 51] fun k kp hk hp => ?_
                simp only [bR, bT, tab, bX, reduceIte, ↓reduceIte, reduceCtorEq, Int.reduceToNat, Nat.reduceDiv, Nat.reduceMod, Nat.reduceLT, Nat.reduceLeDiff, Nat.reduceAdd, Nat.reduceSub, Nat.reduceMul, Nat.reduceEqDiff, Nat.reduceBEq, Nat.reduceBNe, Nat.reduceGT, List.replicate, List.foldr]
                repeat refine ⟨by first | omega | assumption | decide | exact all_len fun _ => rfl | (intro _; omega) | rfl | (and_intros <;> first | omega | assumption | decide | exact all_len fun _ => rfl), ?_⟩
                refine hk _ _ ?_
                clear hk hp k kp
                refine W_ret ?_
                refine KThen_r ?_
                refine KBody_ret [] ?_
                obtain rfl := Option.some.inj hm
                simp only [bF, bT, tab, bX, reduceIte, ↓reduceIte, reduceCtorEq, Int.reduceToNat, Nat.reduceDiv, Nat.reduceMod, Nat.reduceLT, Nat.reduceLeDiff, Nat.reduceAdd, Nat.reduceSub, Nat.reduceMul, Nat.reduceEqDiff, Nat.reduceBEq, Nat.reduceBNe, Nat.reduceGT] <;> first | done | rfl | (and_intros <;> first | rfl | omega | (simp; done))
              · rw [if_neg h7] at hm
                have h7b : decide ((p1.get.length : Int) > 120000) = false := decide_eq_false h7
                refine W_regF [27, 29, 30, 31, 32, 33, 34, 35, 36, 37, 38, 39, 40, 41, 42, 43, 44, 45, 46, 47, 48, 49] fun k kp hk hp => ?_
                simp only [bR, bT, tab, bX, reduceIte, ↓reduceIte, reduceCtorEq, Int.reduceToNat, Nat.reduceDiv, Nat.reduceMod, Nat.reduceLT, Nat.reduceLeDiff, Nat.reduceAdd, Nat.reduceSub, Nat.reduceMul, Nat.reduceEqDiff, Nat.reduceBEq, Nat.reduceBNe, Nat.reduceGT, h5b, h6b, h7b]
                repeat refine ⟨by first | omega | assumption | decide | exact all_len fun _ => rfl | (intro _; omega) | rfl | (and_intros <;> first | omega | assumption | decide | exact all_len fun _ => rfl), ?_⟩
                refine hk _ _ ?_
                clear hk hp k kp
                by_cases h8 : (p1.code.length : Int) > 200000
                · rw [if_pos h8] at hm
                  refine W_condt rfl (decide_eq_true h8) ?_
                  refine W_regF [1, 50, 51] fun k kp hk hp => ?_
                  simp only [bR, bT, tab, bX, reduceIte, ↓reduceIte, reduceCtorEq, Int.reduceToNat, Nat.reduceDiv, Nat.reduceMod, Nat.reduceLT, Nat.reduceLeDiff, Nat.reduceAdd, Nat.reduceSub, Nat.reduceMul, Nat.reduceEqDiff, Nat.reduceBEq, Nat.reduceBNe, Nat.reduceGT, List.replicate, List.foldr]
                  repeat refine ⟨by first | omega | assumption | decide | exact all_len fun _ => rfl | (intro _; omega) | rfl | (and_intros <;> first | omega | assumption | decide | exact all_len fun _ => rfl), ?_⟩
                  refine hk _ _ ?_
                  clear hk hp k kp
                  refine W_ret ?_
                  refine KThen_r ?_
                  refine KBody_ret [] ?_
                  obtain rfl := Option.some.inj hm
                  simp only [bF, bT, tab, bX, reduceIte, ↓reduceIte, reduceCtorEq, Int.reduceToNat, Nat.reduceDiv, Nat.reduceMod, Nat.reduceLT, Nat.reduceLeDiff, Nat.reduceAdd, Nat.reduceSub, Nat.reduceMul, Nat.reduceEqDiff, Nat.reduceBEq, Nat.reduceBNe, Nat.reduceGT] <;> first | done | rfl | (and_intros <;> first | rfl | omega | (simp; done))
                · rw [if_neg h8] at hm
                  refine W_condf rfl (decide_eq_false h8) ?_
                  refine W_skip ?_
                  refine KThen_n (hk2 _ _ ?_)
                  refine W_joinM (S := Unit) (V := Unit) [4, 6, 50, 52, 53, 54, 55, 56, 57, 58, 59, 60, 61, 62, 63, 64, 65, 66, 67, 68, 69, 70, 71, 72, 73, 74, 75, 76, 77, 78, 79, 80] (fun _ _ => []) (fun _ _ => [.box [.int .i64 p1.cells, .int .i64 p1.regs, .int .i64 p1.cost, .tree 1 (p1.put.map (eK .i64)), .tree 1 (p1.bools.map (eK .i64)), .tree 1 (p1.get.map (eK .i64)), .tree 6 (p1.code.map TIns.enc)], .box [.int .i64 0, .int .i64 0]]) (fun _ => code_Check_j1 p1 = some r) ?_ ?_
                  · skip
                    refine W_regF [50, 52, 53, 54, 55, 56, 57] fun k kp hk hp => ?_
                    simp only [bR, bT, tab, bX, reduceIte, ↓reduceIte, reduceCtorEq, Int.reduceToNat, Nat.reduceDiv, Nat.reduceMod, Nat.reduceLT, Nat.reduceLeDiff, Nat.reduceAdd, Nat.reduceSub, Nat.reduceMul, Nat.reduceEqDiff, Nat.reduceBEq, Nat.reduceBNe, Nat.reduceGT, List.replicate, List.foldr]
                    repeat refine ⟨by first | omega | assumption | decide | exact all_len fun _ => rfl | (intro _; omega) | rfl | (and_intros <;> first | omega | assumption | decide | exact all_len fun _ => rfl), ?_⟩
                    refine hk _ _ ?_
                    clear hk hp k kp
                    refine W_eqE rfl (show _ = [.box [.int .i64 p1.cells, .int .i64 p1.regs, .int .i64 p1.cost, .tree 1 (p1.put.map (eK .i64)), .tree 1 (p1.bools.map (eK .i64)), .tree 1 (p1.get.map (eK .i64)), .tree 6 (p1.code.map TIns.enc)], .box [.int .i64 0, .int .i64 0], .arr 1 0 22 ((lit ([p1.put, p1.bools, p1.get] : List (List Int))).map (eL 1 (eK .i64)))] from by first | rfl | (simp only [List.take_of_length_le, List.length_map, List.length_append, List.length_cons, List.length_nil, List.length_replicate, List.length_set, List.map_append, List.map_cons, List.map_nil, List.map_replicate, List.map_set, Nat.le_refl, Nat.zero_add, List.nil_append, List.set_cons_zero, List.set_cons_succ, bX, eK, eB, eS, eL]; done) | (simp only [List.take_of_length_le, List.length_map, List.length_append, List.length_cons, List.length_nil, List.length_replicate, List.length_set, List.map_append, List.map_cons, List.map_nil, List.map_replicate, List.map_set, Nat.le_refl, Nat.zero_add, List.nil_append, List.set_cons_zero, List.set_cons_succ, bX, eK, eB, eS, eL]; rfl) | (simp; done)) ?_
                    refine W_block ?_
                    obtain ⟨o2, hl2, hm2⟩ := bd hm
                    refine W_loopM (S := Int) (V := Unit) (O := Unit ⊕ TFault) [4, 6, 60, 61, 62, 63, 64, 65, 66, 67, 68, 69, 70, 71, 72, 73, 74, 75, 76, 77, 78, 79, 80] (fun x9 _ => [(60, .c (.int .i64 x9))]) (fun x9 _ => [.box [.int .i64 p1.cells, .int .i64 p1.regs, .int .i64 p1.cost, .tree 1 (p1.put.map (eK .i64)), .tree 1 (p1.bools.map (eK .i64)), .tree 1 (p1.get.map (eK .i64)), .tree 6 (p1.code.map TIns.enc)], .box [.int .i64 0, .int .i64 0], .arr 1 0 22 ((lit ([p1.put, p1.bools, p1.get] : List (List Int))).map (eL 1 (eK .i64)))]) _ _ () hl2 ?_ ?_
                    · simp only [bS, bX, reduceIte, ↓reduceIte, reduceCtorEq, Int.reduceToNat, Nat.reduceDiv, Nat.reduceMod, Nat.reduceLT, Nat.reduceLeDiff, Nat.reduceAdd, Nat.reduceSub, Nat.reduceMul, Nat.reduceEqDiff, Nat.reduceBEq, Nat.reduceBNe, Nat.reduceGT] <;> first | done | (and_intros <;> first | rfl | (simp; done) | omega | done)
                    · rintro x9 _ r2 hm hr2
                      replace hm : code_Check_l2 p1 x9 = some r2 := hm
                      refine W_eqE (by simp only [bE, Nat.reduceDiv, Nat.reduceMod, Nat.reduceLT, Nat.reduceLeDiff, Nat.reduceAdd, Nat.reduceSub, Nat.reduceMul, Nat.reduceEqDiff, Nat.reduceBEq, Nat.reduceBNe, Nat.reduceGT, Int.reduceToNat]; rfl) (by first | (dsimp only; rfl) | rfl) ?_
                      unfold code_Check_l2 at hm
                      refine W_regF [] fun k kp hk hp => ?_
                      simp only [bR, bT, tab, bX, reduceIte, ↓reduceIte, reduceCtorEq, Int.reduceToNat, Nat.reduceDiv, Nat.reduceMod, Nat.reduceLT, Nat.reduceLeDiff, Nat.reduceAdd, Nat.reduceSub, Nat.reduceMul, Nat.reduceEqDiff, Nat.reduceBEq, Nat.reduceBNe, Nat.reduceGT]
                      repeat refine ⟨by first | omega | assumption | decide | exact all_len fun _ => rfl | (intro _; omega) | rfl | (and_intros <;> first | omega | assumption | decide | exact all_len fun _ => rfl), ?_⟩
                      refine hk _ _ ?_
                      clear hk hp k kp
                      refine W_seq_k fun k6 hk6 => ?_
                      by_cases h20 : x9 < (3 : Int)
                      · rw [if_pos h20] at hm
                        refine W_condt rfl (decide_eq_true h20) ?_
                        refine W_skip ?_
                        refine KThen_n (hk6 _ _ ?_)
                        refine W_joinM (S := Unit) (V := Unit) [4, 6, 61, 62, 63, 64, 65, 66, 67, 68, 69, 70, 71, 72, 73, 74, 75, 76, 77, 78, 79] (fun _ _ => []) (fun _ _ => [.box [.int .i64 p1.cells, .int .i64 p1.regs, .int .i64 p1.cost, .tree 1 (p1.put.map (eK .i64)), .tree 1 (p1.bools.map (eK .i64)), .tree 1 (p1.get.map (eK .i64)), .tree 6 (p1.code.map TIns.enc)], .box [.int .i64 0, .int .i64 0], .arr 1 0 22 ((lit ([p1.put, p1.bools, p1.get] : List (List Int))).map (eL 1 (eK .i64)))]) (fun _ => code_Check_j3 x9 = some r2) ?_ ?_
                        · skip
                          refine W_block ?_
                          obtain ⟨hg21a, hm⟩ := gd hm
                          refine W_regF [61, 62, 63] fun k kp hk hp => ?_
                          simp only [bR, bT, tab, bX, reduceIte, ↓reduceIte, reduceCtorEq, Int.reduceToNat, Nat.reduceDiv, Nat.reduceMod, Nat.reduceLT, Nat.reduceLeDiff, Nat.reduceAdd, Nat.reduceSub, Nat.reduceMul, Nat.reduceEqDiff, Nat.reduceBEq, Nat.reduceBNe, Nat.reduceGT, elt_map (eL 1 (eK .i64)) (lit ([p1.put, p1.bools, p1.get] : List (List Int))) x9.toNat (by first | omega | (simp only [len_lit, List.length_cons, List.length_nil, List.length_append, List.length_set, List.length_replicate, List.length_map, List.length_take, List.length_drop]; omega))]
                          repeat refine ⟨by first | omega | assumption | decide | exact all_len fun _ => rfl | (intro _; omega) | rfl | (and_intros <;> first | omega | assumption | decide | exact all_len fun _ => rfl), ?_⟩
                          refine hk _ _ ?_
                          clear hk hp k kp
                          refine W_regF [4] fun k kp hk hp => ?_
                          simp only [bR, bT, tab, bX, reduceIte, ↓reduceIte, reduceCtorEq, Int.reduceToNat, Nat.reduceDiv, Nat.reduceMod, Nat.reduceLT, Nat.reduceLeDiff, Nat.reduceAdd, Nat.reduceSub, Nat.reduceMul, Nat.reduceEqDiff, Nat.reduceBEq, Nat.reduceBNe, Nat.reduceGT]
                          repeat refine ⟨by first | omega | assumption | decide | exact all_len fun _ => rfl | (intro _; omega) | rfl | (and_intros <;> first | omega | assumption | decide | exact all_len fun _ => rfl), ?_⟩
                          refine hk _ _ ?_
                          clear hk hp k kp
                          refine W_block ?_
                          obtain ⟨o3, hl3, hm3⟩ := bd hm
                          refine W_loopM (S := Int) (V := Unit) (O := Unit ⊕ TFault) [6, 66, 67, 68, 69, 70, 71, 72, 73, 74, 75, 76, 77, 78, 79] (fun x12 _ => [(66, .c (.int .i64 x12))]) (fun x12 _ => [.box [.int .i64 p1.cells, .int .i64 p1.regs, .int .i64 p1.cost, .tree 1 (p1.put.map (eK .i64)), .tree 1 (p1.bools.map (eK .i64)), .tree 1 (p1.get.map (eK .i64)), .tree 6 (p1.code.map TIns.enc)], .box [.int .i64 0, .int .i64 0], .arr 1 0 22 ((lit ([p1.put, p1.bools, p1.get] : List (List Int))).map (eL 1 (eK .i64)))]) _ _ () hl3 ?_ ?_
                          · simp only [bS, bX, reduceIte, ↓reduceIte, reduceCtorEq, Int.reduceToNat, Nat.reduceDiv, Nat.reduceMod, Nat.reduceLT, Nat.reduceLeDiff, Nat.reduceAdd, Nat.reduceSub, Nat.reduceMul, Nat.reduceEqDiff, Nat.reduceBEq, Nat.reduceBNe, Nat.reduceGT] <;> first | done | (and_intros <;> first | rfl | (simp; done) | omega | done)
                          · rintro x12 _ r3 hm hr3
                            replace hm : code_Check_l3 p1 x9 x12 = some r3 := hm
                            refine W_eqE (by simp only [bE, Nat.reduceDiv, Nat.reduceMod, Nat.reduceLT, Nat.reduceLeDiff, Nat.reduceAdd, Nat.reduceSub, Nat.reduceMul, Nat.reduceEqDiff, Nat.reduceBEq, Nat.reduceBNe, Nat.reduceGT, Int.reduceToNat]; rfl) (by first | (dsimp only; rfl) | rfl) ?_
                            unfold code_Check_l3 at hm
                            refine W_regF [] fun k kp hk hp => ?_
                            simp only [bR, bT, tab, bX, reduceIte, ↓reduceIte, reduceCtorEq, Int.reduceToNat, Nat.reduceDiv, Nat.reduceMod, Nat.reduceLT, Nat.reduceLeDiff, Nat.reduceAdd, Nat.reduceSub, Nat.reduceMul, Nat.reduceEqDiff, Nat.reduceBEq, Nat.reduceBNe, Nat.reduceGT]
                            repeat refine ⟨by first | omega | assumption | decide | exact all_len fun _ => rfl | (intro _; omega) | rfl | (and_intros <;> first | omega | assumption | decide | exact all_len fun _ => rfl), ?_⟩
                            refine hk _ _ ?_
                            clear hk hp k kp
                            refine W_seq_k fun k7 hk7 => ?_
                            by_cases h22 : x12 < (((lit ([p1.put, p1.bools, p1.get] : List (List Int))).getD x9.toNat default).length : Int)
                            · rw [if_pos h22] at hm
                              refine W_condt rfl (decide_eq_true h22) ?_
                              refine W_skip ?_
                              refine KThen_n (hk7 _ _ ?_)
                              refine W_seq_k fun k8 hk8 => ?_
                              refine W_block ?_
                              obtain ⟨hg23a, hm⟩ := gd hm
                              refine W_regF [67, 68, 69] fun k kp hk hp => ?_
                              simp only [bR, bT, tab, bX, reduceIte, ↓reduceIte, reduceCtorEq, Int.reduceToNat, Nat.reduceDiv, Nat.reduceMod, Nat.reduceLT, Nat.reduceLeDiff, Nat.reduceAdd, Nat.reduceSub, Nat.reduceMul, Nat.reduceEqDiff, Nat.reduceBEq, Nat.reduceBNe, Nat.reduceGT, elt_map (eK .i64) ((lit ([p1.put, p1.bools, p1.get] : List (List Int))).getD x9.toNat default) x12.toNat (by first | omega | (simp only [len_lit, List.length_cons, List.length_nil, List.length_append, List.length_set, List.length_replicate, List.length_map, List.length_take, List.length_drop]; omega))]
                              repeat refine ⟨by first | omega | assumption | decide | exact all_len fun _ => rfl | (intro _; omega) | rfl | (and_intros <;> first | omega | assumption | decide | exact all_len fun _ => rfl), ?_⟩
                              refine hk _ _ ?_
                              clear hk hp k kp
                              by_cases h24 : (((lit ([p1.put, p1.bools, p1.get] : List (List Int))).getD x9.toNat default).getD x12.toNat default) < 0
                              · rw [if_pos h24] at hm
                                have h24b : decide ((((lit ([p1.put, p1.bools, p1.get] : List (List Int))).getD x9.toNat default).getD x12.toNat default) < 0) = true := decide_eq_true h24
                                refine W_regF [6, 70, 71, 72, 73, 74, 75, 76] fun k kp hk hp => ?_
                                simp only [bR, bT, tab, bX, reduceIte, ↓reduceIte, reduceCtorEq, Int.reduceToNat, Nat.reduceDiv, Nat.reduceMod, Nat.reduceLT, Nat.reduceLeDiff, Nat.reduceAdd, Nat.reduceSub, Nat.reduceMul, Nat.reduceEqDiff, Nat.reduceBEq, Nat.reduceBNe, Nat.reduceGT, h24b]
                                repeat refine ⟨by first | omega | assumption | decide | exact all_len fun _ => rfl | (intro _; omega) | rfl | (and_intros <;> first | omega | assumption | decide | exact all_len fun _ => rfl), ?_⟩
                                refine hk _ _ ?_
                                clear hk hp k kp
                                refine W_condt rfl rfl ?_
                                refine W_regF [1, 58, 59, 60, 64, 65, 66, 77, 78] fun k kp hk hp => ?_
                                simp only [bR, bT, tab, bX, reduceIte, ↓reduceIte, reduceCtorEq, Int.reduceToNat, Nat.reduceDiv, Nat.reduceMod, Nat.reduceLT, Nat.reduceLeDiff, Nat.reduceAdd, Nat.reduceSub, Nat.reduceMul, Nat.reduceEqDiff, Nat.reduceBEq, Nat.reduceBNe, Nat.reduceGT, List.replicate, List.foldr]
                                repeat refine ⟨by first | omega | assumption | decide | exact all_len fun _ => rfl | (intro _; omega) | rfl | (and_intros <;> first | omega | assumption | decide | exact all_len fun _ => rfl), ?_⟩
                                refine hk _ _ ?_
                                clear hk hp k kp
                                have ho25 := out_eq hm hr3
                                subst ho25
                                replace hm : some (.inr (.inr (TFault.mk 16 (-1)))) = some r2 := hm3
                                have ho26 := out_eq hm hr2
                                subst ho26
                                replace hm : some (TFault.mk 16 (-1)) = some r := hm2
                                refine W_ret ?_
                                refine KBlock_r ?_
                                refine KThen_r ?_
                                refine KLoopM_r ?_
                                refine KBlock_r ?_
                                refine KBlock_r ?_
                                refine KJoinM_r ?_
                                refine KLoopM_r ?_
                                refine KBlock_r ?_
                                refine KJoinM_r ?_
                                refine KBody_ret [] ?_
                                obtain rfl := Option.some.inj hm
                                simp only [bF, bT, tab, bX, reduceIte, ↓reduceIte, reduceCtorEq, Int.reduceToNat, Nat.reduceDiv, Nat.reduceMod, Nat.reduceLT, Nat.reduceLeDiff, Nat.reduceAdd, Nat.reduceSub, Nat.reduceMul, Nat.reduceEqDiff, Nat.reduceBEq, Nat.reduceBNe, Nat.reduceGT] <;> first | done | rfl | (and_intros <;> first | rfl | omega | (simp; done))
                              · rw [if_neg h24] at hm
                                have h24b : decide ((((lit ([p1.put, p1.bools, p1.get] : List (List Int))).getD x9.toNat default).getD x12.toNat default) < 0) = false := decide_eq_false h24
                                refine W_regF [6, 70, 71, 72, 73, 74, 75, 76] fun k kp hk hp => ?_
                                simp only [bR, bT, tab, bX, reduceIte, ↓reduceIte, reduceCtorEq, Int.reduceToNat, Nat.reduceDiv, Nat.reduceMod, Nat.reduceLT, Nat.reduceLeDiff, Nat.reduceAdd, Nat.reduceSub, Nat.reduceMul, Nat.reduceEqDiff, Nat.reduceBEq, Nat.reduceBNe, Nat.reduceGT, h24b]
                                repeat refine ⟨by first | omega | assumption | decide | exact all_len fun _ => rfl | (intro _; omega) | rfl | (and_intros <;> first | omega | assumption | decide | exact all_len fun _ => rfl), ?_⟩
                                refine hk _ _ ?_
                                clear hk hp k kp
                                by_cases h27 : (((lit ([p1.put, p1.bools, p1.get] : List (List Int))).getD x9.toNat default).getD x12.toNat default) ≥ p1.cells
                                · rw [if_pos h27] at hm
                                  refine W_condt rfl (decide_eq_true h27) ?_
                                  refine W_regF [1, 58, 59, 60, 64, 65, 66, 77, 78] fun k kp hk hp => ?_
                                  simp only [bR, bT, tab, bX, reduceIte, ↓reduceIte, reduceCtorEq, Int.reduceToNat, Nat.reduceDiv, Nat.reduceMod, Nat.reduceLT, Nat.reduceLeDiff, Nat.reduceAdd, Nat.reduceSub, Nat.reduceMul, Nat.reduceEqDiff, Nat.reduceBEq, Nat.reduceBNe, Nat.reduceGT, List.replicate, List.foldr]
                                  repeat refine ⟨by first | omega | assumption | decide | exact all_len fun _ => rfl | (intro _; omega) | rfl | (and_intros <;> first | omega | assumption | decide | exact all_len fun _ => rfl), ?_⟩
                                  refine hk _ _ ?_
                                  clear hk hp k kp
                                  have ho28 := out_eq hm hr3
                                  subst ho28
                                  replace hm : some (.inr (.inr (TFault.mk 16 (-1)))) = some r2 := hm3
                                  have ho29 := out_eq hm hr2
                                  subst ho29
                                  replace hm : some (TFault.mk 16 (-1)) = some r := hm2
                                  refine W_ret ?_
                                  refine KBlock_r ?_
                                  refine KThen_r ?_
                                  refine KLoopM_r ?_
                                  refine KBlock_r ?_
                                  refine KBlock_r ?_
                                  refine KJoinM_r ?_
                                  refine KLoopM_r ?_
                                  refine KBlock_r ?_
                                  refine KJoinM_r ?_
                                  refine KBody_ret [] ?_
                                  obtain rfl := Option.some.inj hm
                                  simp only [bF, bT, tab, bX, reduceIte, ↓reduceIte, reduceCtorEq, Int.reduceToNat, Nat.reduceDiv, Nat.reduceMod, Nat.reduceLT, Nat.reduceLeDiff, Nat.reduceAdd, Nat.reduceSub, Nat.reduceMul, Nat.reduceEqDiff, Nat.reduceBEq, Nat.reduceBNe, Nat.reduceGT] <;> first | done | rfl | (and_intros <;> first | rfl | omega | (simp; done))
                                · rw [if_neg h27] at hm
                                  refine W_condf rfl (decide_eq_false h27) ?_
                                  refine W_skip ?_
                                  refine KBlock_n ?_
                                  refine KThen_n (hk8 _ _ ?_)
                                  refine W_region fun k kp hk hp => ?_
                                  simp only [bR, bT, tab, bX, reduceIte, ↓reduceIte, reduceCtorEq, Int.reduceToNat, Nat.reduceDiv, Nat.reduceMod, Nat.reduceLT, Nat.reduceLeDiff, Nat.reduceAdd, Nat.reduceSub, Nat.reduceMul, Nat.reduceEqDiff, Nat.reduceBEq, Nat.reduceBNe, Nat.reduceGT]
                                  repeat refine ⟨by first | omega | assumption | decide | exact all_len fun _ => rfl | (intro _; omega) | rfl | (and_intros <;> first | omega | assumption | decide | exact all_len fun _ => rfl), ?_⟩
                                  refine hk _ _ ?_
                                  clear hk hp k kp
                                  refine KLoopM_n (IntKind.wrap .i64 (x12 + 1)) () hm ?_
                                  simp only [bS, bX, reduceIte, ↓reduceIte, reduceCtorEq, Int.reduceToNat, Nat.reduceDiv, Nat.reduceMod, Nat.reduceLT, Nat.reduceLeDiff, Nat.reduceAdd, Nat.reduceSub, Nat.reduceMul, Nat.reduceEqDiff, Nat.reduceBEq, Nat.reduceBNe, Nat.reduceGT] <;> first | done | (and_intros <;> first | rfl | (simp; done) | omega | done)
                            · rw [if_neg h22] at hm
                              refine W_condf rfl (decide_eq_false h22) ?_
                              refine W_exit ?_
                              have ho30 := out_eq hm hr3
                              subst ho30
                              replace hm : code_Check_j3 x9 = some r2 := hm3
                              refine KThen_x ?_
                              refine KLoopM_x ?_
                              refine KBlock_hit ?_
                              refine KBlock_n ?_
                              refine KJoinM_n () () hm ?_
                              simp only [bS, bX, reduceIte, ↓reduceIte, reduceCtorEq, Int.reduceToNat, Nat.reduceDiv, Nat.reduceMod, Nat.reduceLT, Nat.reduceLeDiff, Nat.reduceAdd, Nat.reduceSub, Nat.reduceMul, Nat.reduceEqDiff, Nat.reduceBEq, Nat.reduceBNe, Nat.reduceGT] <;> first | done | (and_intros <;> first | rfl | (simp; done) | omega | done)
                        · rintro _ _ hm
                          replace hm : code_Check_j3 x9 = some r2 := hm
                          refine W_eqE (by simp only [bE, Nat.reduceDiv, Nat.reduceMod, Nat.reduceLT, Nat.reduceLeDiff, Nat.reduceAdd, Nat.reduceSub, Nat.reduceMul, Nat.reduceEqDiff, Nat.reduceBEq, Nat.reduceBNe, Nat.reduceGT, Int.reduceToNat]; rfl) (by first | (dsimp only; rfl) | rfl) ?_
                          unfold code_Check_j3 at hm
                          refine W_region fun k kp hk hp => ?_
                          simp only [bR, bT, tab, bX, reduceIte, ↓reduceIte, reduceCtorEq, Int.reduceToNat, Nat.reduceDiv, Nat.reduceMod, Nat.reduceLT, Nat.reduceLeDiff, Nat.reduceAdd, Nat.reduceSub, Nat.reduceMul, Nat.reduceEqDiff, Nat.reduceBEq, Nat.reduceBNe, Nat.reduceGT]
                          repeat refine ⟨by first | omega | assumption | decide | exact all_len fun _ => rfl | (intro _; omega) | rfl | (and_intros <;> first | omega | assumption | decide | exact all_len fun _ => rfl), ?_⟩
                          refine hk _ _ ?_
                          clear hk hp k kp
                          refine KLoopM_n (IntKind.wrap .i64 (x9 + 1)) () hm ?_
                          simp only [bS, bX, reduceIte, ↓reduceIte, reduceCtorEq, Int.reduceToNat, Nat.reduceDiv, Nat.reduceMod, Nat.reduceLT, Nat.reduceLeDiff, Nat.reduceAdd, Nat.reduceSub, Nat.reduceMul, Nat.reduceEqDiff, Nat.reduceBEq, Nat.reduceBNe, Nat.reduceGT] <;> first | done | (and_intros <;> first | rfl | (simp; done) | omega | done)
                      · rw [if_neg h20] at hm
                        refine W_condf rfl (decide_eq_false h20) ?_
                        refine W_exit ?_
                        have ho31 := out_eq hm hr2
                        subst ho31
                        replace hm : code_Check_j1 p1 = some r := hm2
                        refine KThen_x ?_
                        refine KLoopM_x ?_
                        refine KBlock_hit ?_
                        refine KJoinM_n () () hm ?_
                        simp only [bS, bX, reduceIte, ↓reduceIte, reduceCtorEq, Int.reduceToNat, Nat.reduceDiv, Nat.reduceMod, Nat.reduceLT, Nat.reduceLeDiff, Nat.reduceAdd, Nat.reduceSub, Nat.reduceMul, Nat.reduceEqDiff, Nat.reduceBEq, Nat.reduceBNe, Nat.reduceGT] <;> first | done | (and_intros <;> first | rfl | (simp; done) | omega | done)
                  · rintro _ _ hm
                    replace hm : code_Check_j1 p1 = some r := hm
                    refine W_eqE (by simp only [bE, Nat.reduceDiv, Nat.reduceMod, Nat.reduceLT, Nat.reduceLeDiff, Nat.reduceAdd, Nat.reduceSub, Nat.reduceMul, Nat.reduceEqDiff, Nat.reduceBEq, Nat.reduceBNe, Nat.reduceGT, Int.reduceToNat]; rfl) (by first | (dsimp only; rfl) | rfl) ?_
                    unfold code_Check_j1 at hm
                    refine W_joinM (S := Unit) (V := Unit) [7, 8, 81, 82, 83, 84, 85, 86, 87, 88, 89, 90, 91, 92, 93, 94, 95, 96] (fun _ _ => []) (fun _ _ => [.box [.int .i64 p1.cells, .int .i64 p1.regs, .int .i64 p1.cost, .tree 1 (p1.put.map (eK .i64)), .tree 1 (p1.bools.map (eK .i64)), .tree 1 (p1.get.map (eK .i64)), .tree 6 (p1.code.map TIns.enc)], .box [.int .i64 0, .int .i64 0]]) (fun _ => code_Check_j2 p1 = some r) ?_ ?_
                    · skip
                      refine W_regF [81] fun k kp hk hp => ?_
                      simp only [bR, bT, tab, bX, reduceIte, ↓reduceIte, reduceCtorEq, Int.reduceToNat, Nat.reduceDiv, Nat.reduceMod, Nat.reduceLT, Nat.reduceLeDiff, Nat.reduceAdd, Nat.reduceSub, Nat.reduceMul, Nat.reduceEqDiff, Nat.reduceBEq, Nat.reduceBNe, Nat.reduceGT]
                      repeat refine ⟨by first | omega | assumption | decide | exact all_len fun _ => rfl | (intro _; omega) | rfl | (and_intros <;> first | omega | assumption | decide | exact all_len fun _ => rfl), ?_⟩
                      refine hk _ _ ?_
                      clear hk hp k kp
                      refine W_block ?_
                      obtain ⟨o1, hl1, hm1⟩ := bd hm
                      refine W_loopM (S := Int) (V := Unit) (O := Unit ⊕ TFault) [7, 8, 84, 85, 86, 87, 88, 89, 90, 91, 92, 93, 94, 95, 96] (fun x4 _ => [(84, .c (.int .i64 x4))]) (fun x4 _ => [.box [.int .i64 p1.cells, .int .i64 p1.regs, .int .i64 p1.cost, .tree 1 (p1.put.map (eK .i64)), .tree 1 (p1.bools.map (eK .i64)), .tree 1 (p1.get.map (eK .i64)), .tree 6 (p1.code.map TIns.enc)], .box [.int .i64 0, .int .i64 0]]) _ _ () hl1 ?_ ?_
                      · simp only [bS, bX, reduceIte, ↓reduceIte, reduceCtorEq, Int.reduceToNat, Nat.reduceDiv, Nat.reduceMod, Nat.reduceLT, Nat.reduceLeDiff, Nat.reduceAdd, Nat.reduceSub, Nat.reduceMul, Nat.reduceEqDiff, Nat.reduceBEq, Nat.reduceBNe, Nat.reduceGT] <;> first | done | (and_intros <;> first | rfl | (simp; done) | omega | done)
                      · rintro x4 _ r1 hm hr1
                        replace hm : code_Check_l1 p1 x4 = some r1 := hm
                        refine W_eqE (by simp only [bE, Nat.reduceDiv, Nat.reduceMod, Nat.reduceLT, Nat.reduceLeDiff, Nat.reduceAdd, Nat.reduceSub, Nat.reduceMul, Nat.reduceEqDiff, Nat.reduceBEq, Nat.reduceBNe, Nat.reduceGT, Int.reduceToNat]; rfl) (by first | (dsimp only; rfl) | rfl) ?_
                        unfold code_Check_l1 at hm
                        refine W_regF [] fun k kp hk hp => ?_
                        simp only [bR, bT, tab, bX, reduceIte, ↓reduceIte, reduceCtorEq, Int.reduceToNat, Nat.reduceDiv, Nat.reduceMod, Nat.reduceLT, Nat.reduceLeDiff, Nat.reduceAdd, Nat.reduceSub, Nat.reduceMul, Nat.reduceEqDiff, Nat.reduceBEq, Nat.reduceBNe, Nat.reduceGT]
                        repeat refine ⟨by first | omega | assumption | decide | exact all_len fun _ => rfl | (intro _; omega) | rfl | (and_intros <;> first | omega | assumption | decide | exact all_len fun _ => rfl), ?_⟩
                        refine hk _ _ ?_
                        clear hk hp k kp
                        refine W_seq_k fun k4 hk4 => ?_
                        by_cases h14 : x4 < (p1.code.length : Int)
                        · rw [if_pos h14] at hm
                          refine W_condt rfl (decide_eq_true h14) ?_
                          refine W_skip ?_
                          refine KThen_n (hk4 _ _ ?_)
                          refine W_seq_k fun k5 hk5 => ?_
                          refine W_block ?_
                          obtain ⟨hg15a, hm⟩ := gd hm
                          refine W_regF [85, 86, 87, 88] fun k kp hk hp => ?_
                          simp only [bR, bT, tab, bX, reduceIte, ↓reduceIte, reduceCtorEq, Int.reduceToNat, Nat.reduceDiv, Nat.reduceMod, Nat.reduceLT, Nat.reduceLeDiff, Nat.reduceAdd, Nat.reduceSub, Nat.reduceMul, Nat.reduceEqDiff, Nat.reduceBEq, Nat.reduceBNe, Nat.reduceGT, elt_map TIns.enc p1.code x4.toNat (by first | omega | (simp only [len_lit, List.length_cons, List.length_nil, List.length_append, List.length_set, List.length_replicate, List.length_map, List.length_take, List.length_drop]; omega))]
                          repeat refine ⟨by first | omega | assumption | decide | exact all_len fun _ => rfl | (intro _; omega) | rfl | (and_intros <;> first | omega | assumption | decide | exact all_len fun _ => rfl), ?_⟩
                          refine hk _ _ ?_
                          clear hk hp k kp
                          refine W_regF [8, 89, 90, 91, 92] fun k kp hk hp => ?_
                          simp only [bR, bT, tab, bX, reduceIte, ↓reduceIte, reduceCtorEq, Int.reduceToNat, Nat.reduceDiv, Nat.reduceMod, Nat.reduceLT, Nat.reduceLeDiff, Nat.reduceAdd, Nat.reduceSub, Nat.reduceMul, Nat.reduceEqDiff, Nat.reduceBEq, Nat.reduceBNe, Nat.reduceGT, List.replicate, List.foldr]
                          repeat refine ⟨by first | omega | assumption | decide | exact all_len fun _ => rfl | (intro _; omega) | rfl | (and_intros <;> first | omega | assumption | decide | exact all_len fun _ => rfl), ?_⟩
                          obtain ⟨y5, hc16, hm⟩ := bd hm
                          refine RunCall_pure (fun _ => code_judge_fits_ok (Tjudge.mk p1) (p1.code.getD x4.toNat default) _ hc16) (by first | trivial | exact dst_ok rfl) (by first | trivial | (intro _; first | trivial | simp [need]) | simp [need]) rfl rfl ?_
                          simp only [bR, bT, tab, bX, reduceIte, ↓reduceIte, reduceCtorEq, Int.reduceToNat, Nat.reduceDiv, Nat.reduceMod, Nat.reduceLT, Nat.reduceLeDiff, Nat.reduceAdd, Nat.reduceSub, Nat.reduceMul, Nat.reduceEqDiff, Nat.reduceBEq, Nat.reduceBNe, Nat.reduceGT]
                          repeat refine ⟨by first | omega | assumption | decide | exact all_len fun _ => rfl | (intro _; omega) | rfl | (and_intros <;> first | omega | assumption | decide | exact all_len fun _ => rfl), ?_⟩
                          refine hk _ _ ?_
                          clear hk hp k kp
                          by_cases h17 : y5 = true
                          · rw [if_pos h17] at hm
                            refine W_condf rfl (by rw [show y5 = true from (h17)]; rfl) ?_
                            refine W_skip ?_
                            refine KBlock_n ?_
                            refine KThen_n (hk5 _ _ ?_)
                            refine W_region fun k kp hk hp => ?_
                            simp only [bR, bT, tab, bX, reduceIte, ↓reduceIte, reduceCtorEq, Int.reduceToNat, Nat.reduceDiv, Nat.reduceMod, Nat.reduceLT, Nat.reduceLeDiff, Nat.reduceAdd, Nat.reduceSub, Nat.reduceMul, Nat.reduceEqDiff, Nat.reduceBEq, Nat.reduceBNe, Nat.reduceGT]
                            repeat refine ⟨by first | omega | assumption | decide | exact all_len fun _ => rfl | (intro _; omega) | rfl | (and_intros <;> first | omega | assumption | decide | exact all_len fun _ => rfl), ?_⟩
                            refine hk _ _ ?_
                            clear hk hp k kp
                            refine KLoopM_n (IntKind.wrap .i64 (x4 + 1)) () hm ?_
                            simp only [bS, bX, reduceIte, ↓reduceIte, reduceCtorEq, Int.reduceToNat, Nat.reduceDiv, Nat.reduceMod, Nat.reduceLT, Nat.reduceLeDiff, Nat.reduceAdd, Nat.reduceSub, Nat.reduceMul, Nat.reduceEqDiff, Nat.reduceBEq, Nat.reduceBNe, Nat.reduceGT] <;> first | done | (and_intros <;> first | rfl | (simp; done) | omega | done)
                          · rw [if_neg h17] at hm
                            refine W_condt rfl (by rw [show y5 = false from (Bool.eq_false_iff.2 h17)]; rfl) ?_
                            refine W_regF [1, 7, 82, 83, 84, 93, 94, 95] fun k kp hk hp => ?_
                            simp only [bR, bT, tab, bX, reduceIte, ↓reduceIte, reduceCtorEq, Int.reduceToNat, Nat.reduceDiv, Nat.reduceMod, Nat.reduceLT, Nat.reduceLeDiff, Nat.reduceAdd, Nat.reduceSub, Nat.reduceMul, Nat.reduceEqDiff, Nat.reduceBEq, Nat.reduceBNe, Nat.reduceGT, List.replicate, List.foldr]
                            repeat refine ⟨by first | omega | assumption | decide | exact all_len fun _ => rfl | (intro _; omega) | rfl | (and_intros <;> first | omega | assumption | decide | exact all_len fun _ => rfl), ?_⟩
                            refine hk _ _ ?_
                            clear hk hp k kp
                            have ho18 := out_eq hm hr1
                            subst ho18
                            replace hm : some (TFault.mk 4 x4) = some r := hm1
                            refine W_ret ?_
                            refine KBlock_r ?_
                            refine KThen_r ?_
                            refine KLoopM_r ?_
                            refine KBlock_r ?_
                            refine KJoinM_r ?_
                            refine KBody_ret [] ?_
                            obtain rfl := Option.some.inj hm
                            simp only [bF, bT, tab, bX, reduceIte, ↓reduceIte, reduceCtorEq, Int.reduceToNat, Nat.reduceDiv, Nat.reduceMod, Nat.reduceLT, Nat.reduceLeDiff, Nat.reduceAdd, Nat.reduceSub, Nat.reduceMul, Nat.reduceEqDiff, Nat.reduceBEq, Nat.reduceBNe, Nat.reduceGT] <;> first | done | rfl | (and_intros <;> first | rfl | omega | (simp; done))
                        · rw [if_neg h14] at hm
                          refine W_condf rfl (decide_eq_false h14) ?_
                          refine W_exit ?_
                          have ho19 := out_eq hm hr1
                          subst ho19
                          replace hm : code_Check_j2 p1 = some r := hm1
                          refine KThen_x ?_
                          refine KLoopM_x ?_
                          refine KBlock_hit ?_
                          refine KJoinM_n () () hm ?_
                          simp only [bS, bX, reduceIte, ↓reduceIte, reduceCtorEq, Int.reduceToNat, Nat.reduceDiv, Nat.reduceMod, Nat.reduceLT, Nat.reduceLeDiff, Nat.reduceAdd, Nat.reduceSub, Nat.reduceMul, Nat.reduceEqDiff, Nat.reduceBEq, Nat.reduceBNe, Nat.reduceGT] <;> first | done | (and_intros <;> first | rfl | (simp; done) | omega | done)
                    · rintro _ _ hm
                      replace hm : code_Check_j2 p1 = some r := hm
                      refine W_eqE (by simp only [bE, Nat.reduceDiv, Nat.reduceMod, Nat.reduceLT, Nat.reduceLeDiff, Nat.reduceAdd, Nat.reduceSub, Nat.reduceMul, Nat.reduceEqDiff, Nat.reduceBEq, Nat.reduceBNe, Nat.reduceGT, Int.reduceToNat]; rfl) (by first | (dsimp only; rfl) | rfl) ?_
                      unfold code_Check_j2 at hm
                      refine W_regF [97, 98, 99] fun k kp hk hp => ?_
                      simp only [bR, bT, tab, bX, reduceIte, ↓reduceIte, reduceCtorEq, Int.reduceToNat, Nat.reduceDiv, Nat.reduceMod, Nat.reduceLT, Nat.reduceLeDiff, Nat.reduceAdd, Nat.reduceSub, Nat.reduceMul, Nat.reduceEqDiff, Nat.reduceBEq, Nat.reduceBNe, Nat.reduceGT]
                      repeat refine ⟨by first | omega | assumption | decide | exact all_len fun _ => rfl | (intro _; omega) | rfl | (and_intros <;> first | omega | assumption | decide | exact all_len fun _ => rfl), ?_⟩
                      obtain ⟨y1, hc9, hm⟩ := bd hm
                      refine RunCall_pure (fun _ => code_Cost_ok p1.code _ hc9) (by first | trivial | exact dst_ok rfl) (by first | trivial | (intro _; first | trivial | simp [need]) | simp [need]) rfl rfl ?_
                      simp only [bR, bT, tab, bX, reduceIte, ↓reduceIte, reduceCtorEq, Int.reduceToNat, Nat.reduceDiv, Nat.reduceMod, Nat.reduceLT, Nat.reduceLeDiff, Nat.reduceAdd, Nat.reduceSub, Nat.reduceMul, Nat.reduceEqDiff, Nat.reduceBEq, Nat.reduceBNe, Nat.reduceGT]
                      repeat refine ⟨by first | omega | assumption | decide | exact all_len fun _ => rfl | (intro _; omega) | rfl | (and_intros <;> first | omega | assumption | decide | exact all_len fun _ => rfl), ?_⟩
                      refine hk _ _ ?_
                      clear hk hp k kp
                      refine W_seq_k fun k3 hk3 => ?_
                      by_cases h10 : y1 = 0
                      · rw [if_pos h10] at hm
                        have h10b : (y1 == 0) = true := beq_iff_eq.2 h10
                        by_cases h11 : (p1.code.length : Int) > 0
                        · rw [if_pos h11] at hm
                          have h11b : decide ((p1.code.length : Int) > 0) = true := decide_eq_true h11
                          refine W_regF [1, 9, 100, 101, 102, 103, 104, 105, 106, 107, 108, 109, 110, 111, 112] fun k kp hk hp => ?_
                          simp only [bR, bT, tab, bX, reduceIte, ↓reduceIte, reduceCtorEq, Int.reduceToNat, Nat.reduceDiv, Nat.reduceMod, Nat.reduceLT, Nat.reduceLeDiff, Nat.reduceAdd, Nat.reduceSub, Nat.reduceMul, Nat.reduceEqDiff, Nat.reduceBEq, Nat.reduceBNe, Nat.reduceGT, h10b, h11b]
                          repeat refine ⟨by first | omega | assumption | decide | exact all_len fun _ => rfl | (intro _; omega) | rfl | (and_intros <;> first | omega | assumption | decide | exact all_len fun _ => rfl), ?_⟩
                          refine hk _ _ ?_
                          clear hk hp k kp
                          refine W_condt rfl rfl ?_
                          refine W_regF [113, 114] fun k kp hk hp => ?_
                          simp only [bR, bT, tab, bX, reduceIte, ↓reduceIte, reduceCtorEq, Int.reduceToNat, Nat.reduceDiv, Nat.reduceMod, Nat.reduceLT, Nat.reduceLeDiff, Nat.reduceAdd, Nat.reduceSub, Nat.reduceMul, Nat.reduceEqDiff, Nat.reduceBEq, Nat.reduceBNe, Nat.reduceGT, List.replicate, List.foldr]
                          repeat refine ⟨by first | omega | assumption | decide | exact all_len fun _ => rfl | (intro _; omega) | rfl | (and_intros <;> first | omega | assumption | decide | exact all_len fun _ => rfl), ?_⟩
                          refine hk _ _ ?_
                          clear hk hp k kp
                          refine W_ret ?_
                          refine KThen_r ?_
                          refine KBody_ret [] ?_
                          obtain rfl := Option.some.inj hm
                          simp only [bF, bT, tab, bX, reduceIte, ↓reduceIte, reduceCtorEq, Int.reduceToNat, Nat.reduceDiv, Nat.reduceMod, Nat.reduceLT, Nat.reduceLeDiff, Nat.reduceAdd, Nat.reduceSub, Nat.reduceMul, Nat.reduceEqDiff, Nat.reduceBEq, Nat.reduceBNe, Nat.reduceGT] <;> first | done | rfl | (and_intros <;> first | rfl | omega | (simp; done))
                        · rw [if_neg h11] at hm
                          have h11b : decide ((p1.code.length : Int) > 0) = false := decide_eq_false h11
                          refine W_regF [1, 9, 100, 101, 102, 103, 104, 105, 106, 107, 108, 109, 110, 111, 112] fun k kp hk hp => ?_
                          simp only [bR, bT, tab, bX, reduceIte, ↓reduceIte, reduceCtorEq, Int.reduceToNat, Nat.reduceDiv, Nat.reduceMod, Nat.reduceLT, Nat.reduceLeDiff, Nat.reduceAdd, Nat.reduceSub, Nat.reduceMul, Nat.reduceEqDiff, Nat.reduceBEq, Nat.reduceBNe, Nat.reduceGT, h10b, h11b]
                          repeat refine ⟨by first | omega | assumption | decide | exact all_len fun _ => rfl | (intro _; omega) | rfl | (and_intros <;> first | omega | assumption | decide | exact all_len fun _ => rfl), ?_⟩
                          refine hk _ _ ?_
                          clear hk hp k kp
                          by_cases h12 : ¬ y1 = p1.cost
                          · rw [if_pos h12] at hm
                            refine W_condt rfl (bne_iff_ne.2 h12) ?_
                            refine W_regF [113, 114] fun k kp hk hp => ?_
                            simp only [bR, bT, tab, bX, reduceIte, ↓reduceIte, reduceCtorEq, Int.reduceToNat, Nat.reduceDiv, Nat.reduceMod, Nat.reduceLT, Nat.reduceLeDiff, Nat.reduceAdd, Nat.reduceSub, Nat.reduceMul, Nat.reduceEqDiff, Nat.reduceBEq, Nat.reduceBNe, Nat.reduceGT, List.replicate, List.foldr]
                            repeat refine ⟨by first | omega | assumption | decide | exact all_len fun _ => rfl | (intro _; omega) | rfl | (and_intros <;> first | omega | assumption | decide | exact all_len fun _ => rfl), ?_⟩
                            refine hk _ _ ?_
                            clear hk hp k kp
                            refine W_ret ?_
                            refine KThen_r ?_
                            refine KBody_ret [] ?_
                            obtain rfl := Option.some.inj hm
                            simp only [bF, bT, tab, bX, reduceIte, ↓reduceIte, reduceCtorEq, Int.reduceToNat, Nat.reduceDiv, Nat.reduceMod, Nat.reduceLT, Nat.reduceLeDiff, Nat.reduceAdd, Nat.reduceSub, Nat.reduceMul, Nat.reduceEqDiff, Nat.reduceBEq, Nat.reduceBNe, Nat.reduceGT] <;> first | done | rfl | (and_intros <;> first | rfl | omega | (simp; done))
                          · rw [if_neg h12] at hm
                            refine W_condf rfl (bne_eq_false_iff_eq.2 (Decidable.not_not.1 h12)) ?_
                            refine W_skip ?_
                            refine KThen_n (hk3 _ _ ?_)
                            refine W_regF [113, 115] fun k kp hk hp => ?_
                            simp only [bR, bT, tab, bX, reduceIte, ↓reduceIte, reduceCtorEq, Int.reduceToNat, Nat.reduceDiv, Nat.reduceMod, Nat.reduceLT, Nat.reduceLeDiff, Nat.reduceAdd, Nat.reduceSub, Nat.reduceMul, Nat.reduceEqDiff, Nat.reduceBEq, Nat.reduceBNe, Nat.reduceGT, List.replicate, List.foldr]
                            repeat refine ⟨by first | omega | assumption | decide | exact all_len fun _ => rfl | (intro _; omega) | rfl | (and_intros <;> first | omega | assumption | decide | exact all_len fun _ => rfl), ?_⟩
                            refine hk _ _ ?_
                            clear hk hp k kp
                            refine W_ret ?_
                            refine KBody_ret [] ?_
                            obtain rfl := Option.some.inj hm
                            simp only [bF, bT, tab, bX, reduceIte, ↓reduceIte, reduceCtorEq, Int.reduceToNat, Nat.reduceDiv, Nat.reduceMod, Nat.reduceLT, Nat.reduceLeDiff, Nat.reduceAdd, Nat.reduceSub, Nat.reduceMul, Nat.reduceEqDiff, Nat.reduceBEq, Nat.reduceBNe, Nat.reduceGT] <;> first | done | rfl | (and_intros <;> first | rfl | omega | (simp; done))
                      · rw [if_neg h10] at hm
                        have h10b : (y1 == 0) = false := beq_eq_false_iff_ne.2 h10
                        refine W_regF [1, 9, 100, 101, 102, 103, 104, 105, 106, 107, 108, 109, 110, 111, 112] fun k kp hk hp => ?_
                        simp only [bR, bT, tab, bX, reduceIte, ↓reduceIte, reduceCtorEq, Int.reduceToNat, Nat.reduceDiv, Nat.reduceMod, Nat.reduceLT, Nat.reduceLeDiff, Nat.reduceAdd, Nat.reduceSub, Nat.reduceMul, Nat.reduceEqDiff, Nat.reduceBEq, Nat.reduceBNe, Nat.reduceGT, h10b]
                        repeat refine ⟨by first | omega | assumption | decide | exact all_len fun _ => rfl | (intro _; omega) | rfl | (and_intros <;> first | omega | assumption | decide | exact all_len fun _ => rfl), ?_⟩
                        refine hk _ _ ?_
                        clear hk hp k kp
                        by_cases h13 : ¬ y1 = p1.cost
                        · rw [if_pos h13] at hm
                          refine W_condt rfl (bne_iff_ne.2 h13) ?_
                          refine W_regF [113, 114] fun k kp hk hp => ?_
                          simp only [bR, bT, tab, bX, reduceIte, ↓reduceIte, reduceCtorEq, Int.reduceToNat, Nat.reduceDiv, Nat.reduceMod, Nat.reduceLT, Nat.reduceLeDiff, Nat.reduceAdd, Nat.reduceSub, Nat.reduceMul, Nat.reduceEqDiff, Nat.reduceBEq, Nat.reduceBNe, Nat.reduceGT, List.replicate, List.foldr]
                          repeat refine ⟨by first | omega | assumption | decide | exact all_len fun _ => rfl | (intro _; omega) | rfl | (and_intros <;> first | omega | assumption | decide | exact all_len fun _ => rfl), ?_⟩
                          refine hk _ _ ?_
                          clear hk hp k kp
                          refine W_ret ?_
                          refine KThen_r ?_
                          refine KBody_ret [] ?_
                          obtain rfl := Option.some.inj hm
                          simp only [bF, bT, tab, bX, reduceIte, ↓reduceIte, reduceCtorEq, Int.reduceToNat, Nat.reduceDiv, Nat.reduceMod, Nat.reduceLT, Nat.reduceLeDiff, Nat.reduceAdd, Nat.reduceSub, Nat.reduceMul, Nat.reduceEqDiff, Nat.reduceBEq, Nat.reduceBNe, Nat.reduceGT] <;> first | done | rfl | (and_intros <;> first | rfl | omega | (simp; done))
                        · rw [if_neg h13] at hm
                          refine W_condf rfl (bne_eq_false_iff_eq.2 (Decidable.not_not.1 h13)) ?_
                          refine W_skip ?_
                          refine KThen_n (hk3 _ _ ?_)
                          refine W_regF [113, 115] fun k kp hk hp => ?_
                          simp only [bR, bT, tab, bX, reduceIte, ↓reduceIte, reduceCtorEq, Int.reduceToNat, Nat.reduceDiv, Nat.reduceMod, Nat.reduceLT, Nat.reduceLeDiff, Nat.reduceAdd, Nat.reduceSub, Nat.reduceMul, Nat.reduceEqDiff, Nat.reduceBEq, Nat.reduceBNe, Nat.reduceGT, List.replicate, List.foldr]
                          repeat refine ⟨by first | omega | assumption | decide | exact all_len fun _ => rfl | (intro _; omega) | rfl | (and_intros <;> first | omega | assumption | decide | exact all_len fun _ => rfl), ?_⟩
                          refine hk _ _ ?_
                          clear hk hp k kp
                          refine W_ret ?_
                          refine KBody_ret [] ?_
                          obtain rfl := Option.some.inj hm
                          simp only [bF, bT, tab, bX, reduceIte, ↓reduceIte, reduceCtorEq, Int.reduceToNat, Nat.reduceDiv, Nat.reduceMod, Nat.reduceLT, Nat.reduceLeDiff, Nat.reduceAdd, Nat.reduceSub, Nat.reduceMul, Nat.reduceEqDiff, Nat.reduceBEq, Nat.reduceBNe, Nat.reduceGT] <;> first | done | rfl | (and_intros <;> first | rfl | omega | (simp; done))
end Pam

/- the walk of law_codeBegun, printed by a program of ours -/
namespace Pam
open Go Go.Proofs
set_option maxRecDepth 100000 in
set_option maxHeartbeats 1000000 in
theorem law_codeBegun_ok (r : Bool) (hm : law_codeBegun  = some r) : SpecF Try.prog 15 [] (.c (.bool r)) := by
  refine Spec_ofD 18 [.tmp 0] Try.func15 rfl rfl rfl (by kernel_rfl) (by simp) ?_
  refine W_eqE (by simp only [argSlots, Env.ofList, List.length_nil, List.length_cons, bE, Nat.reduceDiv, Nat.reduceMod, Nat.reduceLT, Nat.reduceLeDiff, Nat.reduceAdd, Nat.reduceSub, Nat.reduceMul, Nat.reduceEqDiff, Nat.reduceBEq, Nat.reduceBNe, Nat.reduceGT, Int.reduceToNat]; rfl) rfl ?_
  unfold law_codeBegun at hm
  refine W_regF [0] fun k kp hk hp => ?_
  simp only [bR, bT, tab, bX, reduceIte, ↓reduceIte, reduceCtorEq, Int.reduceToNat, Nat.reduceDiv, Nat.reduceMod, Nat.reduceLT, Nat.reduceLeDiff, Nat.reduceAdd, Nat.reduceSub, Nat.reduceMul, Nat.reduceEqDiff, Nat.reduceBEq, Nat.reduceBNe, Nat.reduceGT]
  repeat refine ⟨by first | omega | assumption | decide | exact all_len fun _ => rfl | (intro _; omega) | rfl | (and_intros <;> first | omega | assumption | decide | exact all_len fun _ => rfl), ?_⟩
  refine hk _ _ ?_
  clear hk hp k kp
  refine W_regF [2, 3, 4, 5, 6, 7] fun k kp hk hp => ?_
  simp only [bR, bT, tab, bX, reduceIte, ↓reduceIte, reduceCtorEq, Int.reduceToNat, Nat.reduceDiv, Nat.reduceMod, Nat.reduceLT, Nat.reduceLeDiff, Nat.reduceAdd, Nat.reduceSub, Nat.reduceMul, Nat.reduceEqDiff, Nat.reduceBEq, Nat.reduceBNe, Nat.reduceGT, List.replicate, List.foldr]
  repeat refine ⟨by first | omega | assumption | decide | exact all_len fun _ => rfl | (intro _; omega) | rfl | (and_intros <;> first | omega | assumption | decide | exact all_len fun _ => rfl), ?_⟩
  refine hk _ _ ?_
  clear hk hp k kp
  refine W_eqE rfl (show _ = [.arr 6 0 35 ((lit ([(TIns.mk 1 0 0 0 0 0), (TIns.mk 10 0 0 0 0 3), (TIns.mk 9 0 0 0 0 0), (TIns.mk 11 0 0 0 0 0), (TIns.mk 4 0 0 0 0 0)] : List TIns)).map TIns.enc)] from by first | rfl | (simp only [List.take_of_length_le, List.length_map, List.length_append, List.length_cons, List.length_nil, List.length_replicate, List.length_set, List.map_append, List.map_cons, List.map_nil, List.map_replicate, List.map_set, Nat.le_refl, Nat.zero_add, List.nil_append, List.set_cons_zero, List.set_cons_succ, bX, eK, eB, eS, eL]; done) | (simp only [List.take_of_length_le, List.length_map, List.length_append, List.length_cons, List.length_nil, List.length_replicate, List.length_set, List.map_append, List.map_cons, List.map_nil, List.map_replicate, List.map_set, Nat.le_refl, Nat.zero_add, List.nil_append, List.set_cons_zero, List.set_cons_succ, bX, eK, eB, eS, eL]; rfl) | (simp; done)) ?_
  refine W_regF [1, 8, 9, 10, 11, 12, 13, 14, 15, 16, 17] fun k kp hk hp => ?_
  simp only [bR, bT, tab, bX, reduceIte, ↓reduceIte, reduceCtorEq, Int.reduceToNat, Nat.reduceDiv, Nat.reduceMod, Nat.reduceLT, Nat.reduceLeDiff, Nat.reduceAdd, Nat.reduceSub, Nat.reduceMul, Nat.reduceEqDiff, Nat.reduceBEq, Nat.reduceBNe, Nat.reduceGT]
  repeat refine ⟨by first | omega | assumption | decide | exact all_len fun _ => rfl | (intro _; omega) | rfl | (and_intros <;> first | omega | assumption | decide | exact all_len fun _ => rfl), ?_⟩
  refine RunCall_turn (Ghost_fr 0 rfl) ?_
  simp only [bR, bT, tab, bX, reduceIte, ↓reduceIte, reduceCtorEq, Int.reduceToNat, Nat.reduceDiv, Nat.reduceMod, Nat.reduceLT, Nat.reduceLeDiff, Nat.reduceAdd, Nat.reduceSub, Nat.reduceMul, Nat.reduceEqDiff, Nat.reduceBEq, Nat.reduceBNe, Nat.reduceGT, bZ]
  repeat refine ⟨by first | omega | assumption | decide | exact all_len fun _ => rfl | (intro _; omega) | rfl | (and_intros <;> first | omega | assumption | decide | exact all_len fun _ => rfl), ?_⟩
  obtain ⟨y1, hc1, hm⟩ := bd hm
  refine RunCall_pure (fun _ => code_Cost_ok (lit ([(TIns.mk 1 0 0 0 0 0), (TIns.mk 10 0 0 0 0 3), (TIns.mk 9 0 0 0 0 0), (TIns.mk 11 0 0 0 0 0), (TIns.mk 4 0 0 0 0 0)] : List TIns)) _ hc1) (by first | trivial | exact dst_ok rfl) (by first | trivial | (intro _; first | trivial | simp [need]) | simp [need]) rfl rfl ?_
  by_cases h2 : y1 = 9
  · rw [if_pos h2] at hm
    have h2b : (y1 == 9) = true := beq_iff_eq.2 h2
    simp only [bR, bT, tab, bX, reduceIte, ↓reduceIte, reduceCtorEq, Int.reduceToNat, Nat.reduceDiv, Nat.reduceMod, Nat.reduceLT, Nat.reduceLeDiff, Nat.reduceAdd, Nat.reduceSub, Nat.reduceMul, Nat.reduceEqDiff, Nat.reduceBEq, Nat.reduceBNe, Nat.reduceGT, List.replicate, List.foldr, h2b]
    repeat refine ⟨by first | omega | assumption | decide | exact all_len fun _ => rfl | (intro _; omega) | rfl | (and_intros <;> first | omega | assumption | decide | exact all_len fun _ => rfl), ?_⟩
    refine RunCall_turn (Ghost_ntS 13 (.a [.int .i64 1, .int .i64 1, .int .i64 9, .tree 1 ([].map (eK .i64)), .tree 1 ([].map (eK .i64)), .tree 1 ([].map (eK .i64)), .tree 6 ((lit ([(TIns.mk 1 0 0 0 0 0), (TIns.mk 10 0 0 0 0 3), (TIns.mk 9 0 0 0 0 0), (TIns.mk 11 0 0 0 0 0), (TIns.mk 4 0 0 0 0 0)] : List TIns)).map TIns.enc)]) rfl (by and_intros <;> trivial)) ?_
    simp only [bR, bT, tab, bX, reduceIte, ↓reduceIte, reduceCtorEq, Int.reduceToNat, Nat.reduceDiv, Nat.reduceMod, Nat.reduceLT, Nat.reduceLeDiff, Nat.reduceAdd, Nat.reduceSub, Nat.reduceMul, Nat.reduceEqDiff, Nat.reduceBEq, Nat.reduceBNe, Nat.reduceGT, List.replicate, List.foldr, h2b]
    repeat refine ⟨by first | omega | assumption | decide | exact all_len fun _ => rfl | (intro _; omega) | rfl | (and_intros <;> first | omega | assumption | decide | exact all_len fun _ => rfl), ?_⟩
    obtain ⟨y2, hc3, hm⟩ := bd hm
    refine RunCall_pure (fun _ => code_Check_ok (TImage.mk 1 1 9 [] [] [] (lit ([(TIns.mk 1 0 0 0 0 0), (TIns.mk 10 0 0 0 0 3), (TIns.mk 9 0 0 0 0 0), (TIns.mk 11 0 0 0 0 0), (TIns.mk 4 0 0 0 0 0)] : List TIns))) _ hc3) (by first | trivial | exact dst_ok rfl) (by first | trivial | (intro _; first | trivial | simp [need]) | simp [need]) rfl rfl ?_
    simp only [bR, bT, tab, bX, reduceIte, ↓reduceIte, reduceCtorEq, Int.reduceToNat, Nat.reduceDiv, Nat.reduceMod, Nat.reduceLT, Nat.reduceLeDiff, Nat.reduceAdd, Nat.reduceSub, Nat.reduceMul, Nat.reduceEqDiff, Nat.reduceBEq, Nat.reduceBNe, Nat.reduceGT, h2b]
    repeat refine ⟨by first | omega | assumption | decide | exact all_len fun _ => rfl | (intro _; omega) | rfl | (and_intros <;> first | omega | assumption | decide | exact all_len fun _ => rfl), ?_⟩
    refine hk _ _ ?_
    clear hk hp k kp
    refine W_ret ?_
    refine KBody_ret [] ?_
    obtain rfl := Option.some.inj hm
    simp only [bF, bT, tab, bX, reduceIte, ↓reduceIte, reduceCtorEq, Int.reduceToNat, Nat.reduceDiv, Nat.reduceMod, Nat.reduceLT, Nat.reduceLeDiff, Nat.reduceAdd, Nat.reduceSub, Nat.reduceMul, Nat.reduceEqDiff, Nat.reduceBEq, Nat.reduceBNe, Nat.reduceGT] <;> first | done | rfl | (and_intros <;> first | rfl | omega | (simp; done))
  · rw [if_neg h2] at hm
    have h2b : (y1 == 9) = false := beq_eq_false_iff_ne.2 h2
    simp only [bR, bT, tab, bX, reduceIte, ↓reduceIte, reduceCtorEq, Int.reduceToNat, Nat.reduceDiv, Nat.reduceMod, Nat.reduceLT, Nat.reduceLeDiff, Nat.reduceAdd, Nat.reduceSub, Nat.reduceMul, Nat.reduceEqDiff, Nat.reduceBEq, Nat.reduceBNe, Nat.reduceGT, List.replicate, List.foldr, h2b]
    repeat refine ⟨by first | omega | assumption | decide | exact all_len fun _ => rfl | (intro _; omega) | rfl | (and_intros <;> first | omega | assumption | decide | exact all_len fun _ => rfl), ?_⟩
    refine hk _ _ ?_
    clear hk hp k kp
    refine W_ret ?_
    refine KBody_ret [] ?_
    obtain rfl := Option.some.inj hm
    simp only [bF, bT, tab, bX, reduceIte, ↓reduceIte, reduceCtorEq, Int.reduceToNat, Nat.reduceDiv, Nat.reduceMod, Nat.reduceLT, Nat.reduceLeDiff, Nat.reduceAdd, Nat.reduceSub, Nat.reduceMul, Nat.reduceEqDiff, Nat.reduceBEq, Nat.reduceBNe, Nat.reduceGT] <;> first | done | rfl | (and_intros <;> first | rfl | omega | (simp; done))
end Pam
