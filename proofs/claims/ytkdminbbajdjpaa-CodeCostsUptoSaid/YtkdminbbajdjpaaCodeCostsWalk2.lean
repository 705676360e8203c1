/- the walk of law_CodeCosts, printed by a program of ours -/
import Derived.Test.YtkdminbbajdjpaaCodeCostsFun1
import Derived.Test.YtkdminbbajdjpaaCodeCostsWalk1
set_option linter.all false
namespace Pam
open Go Go.Proofs
set_option maxRecDepth 100000 in
set_option maxHeartbeats 1000000 in
theorem law_CodeCosts_ok (p1 : List TIns) (p2 : List TIns) (p3 : Int) (r : Bool) (hm : law_CodeCosts p1 p2 p3 = some r) : SpecF Try.prog 4 [.c (.tree 6 (p1.map TIns.enc)), .c (.tree 6 (p2.map TIns.enc)), .c (.int .i64 p3)] (.c (.bool r)) := by
  refine Spec_ofD 108 [.tmp 6] Try.func4 rfl rfl rfl (by kernel_rfl) (by simp) ?_
  refine W_eqE (by simp only [argSlots, Env.ofList, List.length_nil, List.length_cons, bE, Nat.reduceDiv, Nat.reduceMod, Nat.reduceLT, Nat.reduceLeDiff, Nat.reduceAdd, Nat.reduceSub, Nat.reduceMul, Nat.reduceEqDiff, Nat.reduceBEq, Nat.reduceBNe, Nat.reduceGT, Int.reduceToNat]; rfl) rfl ?_
  unfold law_CodeCosts at hm
  refine W_regF [6] fun k kp hk hp => ?_
  simp only [bR, bT, tab, bX, reduceIte, ↓reduceIte, reduceCtorEq, Int.reduceToNat, Nat.reduceDiv, Nat.reduceMod, Nat.reduceLT, Nat.reduceLeDiff, Nat.reduceAdd, Nat.reduceSub, Nat.reduceMul, Nat.reduceEqDiff, Nat.reduceBEq, Nat.reduceBNe, Nat.reduceGT]
  repeat refine ⟨by first | omega | assumption | decide | exact all_len fun _ => rfl | (intro _; omega) | rfl | (and_intros <;> first | omega | assumption | decide | exact all_len fun _ => rfl), ?_⟩
  refine hk _ _ ?_
  clear hk hp k kp
  refine W_seq_k fun k1 hk1 => ?_
  refine W_regF [13] fun k kp hk hp => ?_
  simp only [bR, bT, tab, bX, reduceIte, ↓reduceIte, reduceCtorEq, Int.reduceToNat, Nat.reduceDiv, Nat.reduceMod, Nat.reduceLT, Nat.reduceLeDiff, Nat.reduceAdd, Nat.reduceSub, Nat.reduceMul, Nat.reduceEqDiff, Nat.reduceBEq, Nat.reduceBNe, Nat.reduceGT]
  repeat refine ⟨by first | omega | assumption | decide | exact all_len fun _ => rfl | (intro _; omega) | rfl | (and_intros <;> first | omega | assumption | decide | exact all_len fun _ => rfl), ?_⟩
  obtain ⟨y1, hc1, hm⟩ := bd hm
  refine RunCall_pure (fun _ => law_codeBegun_ok  _ hc1) (by first | trivial | exact dst_ok rfl) (by first | trivial | (intro _; first | trivial | simp [need]) | simp [need]) rfl rfl ?_
  simp only [bR, bT, tab, bX, reduceIte, ↓reduceIte, reduceCtorEq, Int.reduceToNat, Nat.reduceDiv, Nat.reduceMod, Nat.reduceLT, Nat.reduceLeDiff, Nat.reduceAdd, Nat.reduceSub, Nat.reduceMul, Nat.reduceEqDiff, Nat.reduceBEq, Nat.reduceBNe, Nat.reduceGT]
  repeat refine ⟨by first | omega | assumption | decide | exact all_len fun _ => rfl | (intro _; omega) | rfl | (and_intros <;> first | omega | assumption | decide | exact all_len fun _ => rfl), ?_⟩
  refine hk _ _ ?_
  clear hk hp k kp
  by_cases h2 : y1 = true
  · rw [if_pos h2] at hm
    refine W_condf rfl (by rw [show y1 = true from (h2)]; rfl) ?_
    refine W_skip ?_
    refine KThen_n (hk1 _ _ ?_)
    refine W_seq_k fun k2 hk2 => ?_
    by_cases h3 : (p1.length : Int) > 5000
    · rw [if_pos h3] at hm
      have h3b : decide ((p1.length : Int) > 5000) = true := decide_eq_true h3
      refine W_regF [14, 15, 16, 17, 18, 19, 20, 21] fun k kp hk hp => ?_
      simp only [bR, bT, tab, bX, reduceIte, ↓reduceIte, reduceCtorEq, Int.reduceToNat, Nat.reduceDiv, Nat.reduceMod, Nat.reduceLT, Nat.reduceLeDiff, Nat.reduceAdd, Nat.reduceSub, Nat.reduceMul, Nat.reduceEqDiff, Nat.reduceBEq, Nat.reduceBNe, Nat.reduceGT, h3b]
      repeat refine ⟨by first | omega | assumption | decide | exact all_len fun _ => rfl | (intro _; omega) | rfl | (and_intros <;> first | omega | assumption | decide | exact all_len fun _ => rfl), ?_⟩
      refine hk _ _ ?_
      clear hk hp k kp
      refine W_condt rfl rfl ?_
      refine W_regF [0, 1, 2, 22] fun k kp hk hp => ?_
      simp only [bR, bT, tab, bX, reduceIte, ↓reduceIte, reduceCtorEq, Int.reduceToNat, Nat.reduceDiv, Nat.reduceMod, Nat.reduceLT, Nat.reduceLeDiff, Nat.reduceAdd, Nat.reduceSub, Nat.reduceMul, Nat.reduceEqDiff, Nat.reduceBEq, Nat.reduceBNe, Nat.reduceGT]
      repeat refine ⟨by first | omega | assumption | decide | exact all_len fun _ => rfl | (intro _; omega) | rfl | (and_intros <;> first | omega | assumption | decide | exact all_len fun _ => rfl), ?_⟩
      refine hk _ _ ?_
      clear hk hp k kp
      refine W_ret ?_
      refine KThen_r ?_
      refine KBody_ret [] ?_
      obtain rfl := Option.some.inj hm
      simp only [bF, bT, tab, bX, reduceIte, ↓reduceIte, reduceCtorEq, Int.reduceToNat, Nat.reduceDiv, Nat.reduceMod, Nat.reduceLT, Nat.reduceLeDiff, Nat.reduceAdd, Nat.reduceSub, Nat.reduceMul, Nat.reduceEqDiff, Nat.reduceBEq, Nat.reduceBNe, Nat.reduceGT] <;> first | done | rfl | (and_intros <;> first | rfl | omega | (simp; done))
    · rw [if_neg h3] at hm
      have h3b : decide ((p1.length : Int) > 5000) = false := decide_eq_false h3
      refine W_regF [14, 15, 16, 17, 18, 19, 20, 21] fun k kp hk hp => ?_
      simp only [bR, bT, tab, bX, reduceIte, ↓reduceIte, reduceCtorEq, Int.reduceToNat, Nat.reduceDiv, Nat.reduceMod, Nat.reduceLT, Nat.reduceLeDiff, Nat.reduceAdd, Nat.reduceSub, Nat.reduceMul, Nat.reduceEqDiff, Nat.reduceBEq, Nat.reduceBNe, Nat.reduceGT, h3b]
      repeat refine ⟨by first | omega | assumption | decide | exact all_len fun _ => rfl | (intro _; omega) | rfl | (and_intros <;> first | omega | assumption | decide | exact all_len fun _ => rfl), ?_⟩
      refine hk _ _ ?_
      clear hk hp k kp
      by_cases h4 : (p2.length : Int) > 5000
      · rw [if_pos h4] at hm
        refine W_condt rfl (decide_eq_true h4) ?_
        refine W_regF [0, 1, 2, 22] fun k kp hk hp => ?_
        simp only [bR, bT, tab, bX, reduceIte, ↓reduceIte, reduceCtorEq, Int.reduceToNat, Nat.reduceDiv, Nat.reduceMod, Nat.reduceLT, Nat.reduceLeDiff, Nat.reduceAdd, Nat.reduceSub, Nat.reduceMul, Nat.reduceEqDiff, Nat.reduceBEq, Nat.reduceBNe, Nat.reduceGT]
        repeat refine ⟨by first | omega | assumption | decide | exact all_len fun _ => rfl | (intro _; omega) | rfl | (and_intros <;> first | omega | assumption | decide | exact all_len fun _ => rfl), ?_⟩
        refine hk _ _ ?_
        clear hk hp k kp
        refine W_ret ?_
        refine KThen_r ?_
        refine KBody_ret [] ?_
        obtain rfl := Option.some.inj hm
        simp only [bF, bT, tab, bX, reduceIte, ↓reduceIte, reduceCtorEq, Int.reduceToNat, Nat.reduceDiv, Nat.reduceMod, Nat.reduceLT, Nat.reduceLeDiff, Nat.reduceAdd, Nat.reduceSub, Nat.reduceMul, Nat.reduceEqDiff, Nat.reduceBEq, Nat.reduceBNe, Nat.reduceGT] <;> first | done | rfl | (and_intros <;> first | rfl | omega | (simp; done))
      · rw [if_neg h4] at hm
        refine W_condf rfl (decide_eq_false h4) ?_
        refine W_skip ?_
        refine KThen_n (hk2 _ _ ?_)
        refine W_regF [22, 23, 24, 25, 26] fun k kp hk hp => ?_
        simp only [bR, bT, tab, bX, reduceIte, ↓reduceIte, reduceCtorEq, Int.reduceToNat, Nat.reduceDiv, Nat.reduceMod, Nat.reduceLT, Nat.reduceLeDiff, Nat.reduceAdd, Nat.reduceSub, Nat.reduceMul, Nat.reduceEqDiff, Nat.reduceBEq, Nat.reduceBNe, Nat.reduceGT]
        repeat refine ⟨by first | omega | assumption | decide | exact all_len fun _ => rfl | (intro _; omega) | rfl | (and_intros <;> first | omega | assumption | decide | exact all_len fun _ => rfl), ?_⟩
        obtain ⟨y2, hc5, hm⟩ := bd hm
        refine RunCall_pure (fun _ => code_Cost_ok p1 _ hc5) (by first | trivial | exact dst_ok rfl) (by first | trivial | (intro _; first | trivial | simp [need]) | simp [need]) rfl rfl ?_
        simp only [bR, bT, tab, bX, reduceIte, ↓reduceIte, reduceCtorEq, Int.reduceToNat, Nat.reduceDiv, Nat.reduceMod, Nat.reduceLT, Nat.reduceLeDiff, Nat.reduceAdd, Nat.reduceSub, Nat.reduceMul, Nat.reduceEqDiff, Nat.reduceBEq, Nat.reduceBNe, Nat.reduceGT]
        repeat refine ⟨by first | omega | assumption | decide | exact all_len fun _ => rfl | (intro _; omega) | rfl | (and_intros <;> first | omega | assumption | decide | exact all_len fun _ => rfl), ?_⟩
        obtain ⟨y3, hc6, hm⟩ := bd hm
        refine RunCall_pure (fun _ => code_Cost_ok p2 _ hc6) (by first | trivial | exact dst_ok rfl) (by first | trivial | (intro _; first | trivial | simp [need]) | simp [need]) rfl rfl ?_
        simp only [bR, bT, tab, bX, reduceIte, ↓reduceIte, reduceCtorEq, Int.reduceToNat, Nat.reduceDiv, Nat.reduceMod, Nat.reduceLT, Nat.reduceLeDiff, Nat.reduceAdd, Nat.reduceSub, Nat.reduceMul, Nat.reduceEqDiff, Nat.reduceBEq, Nat.reduceBNe, Nat.reduceGT]
        repeat refine ⟨by first | omega | assumption | decide | exact all_len fun _ => rfl | (intro _; omega) | rfl | (and_intros <;> first | omega | assumption | decide | exact all_len fun _ => rfl), ?_⟩
        refine hk _ _ ?_
        clear hk hp k kp
        refine W_regF [] fun k kp hk hp => ?_
        simp only [bR, bT, tab, bX, reduceIte, ↓reduceIte, reduceCtorEq, Int.reduceToNat, Nat.reduceDiv, Nat.reduceMod, Nat.reduceLT, Nat.reduceLeDiff, Nat.reduceAdd, Nat.reduceSub, Nat.reduceMul, Nat.reduceEqDiff, Nat.reduceBEq, Nat.reduceBNe, Nat.reduceGT]
        repeat refine ⟨by first | omega | assumption | decide | exact all_len fun _ => rfl | (intro _; omega) | rfl | (and_intros <;> first | omega | assumption | decide | exact all_len fun _ => rfl), ?_⟩
        refine hk _ _ ?_
        clear hk hp k kp
        obtain ⟨⟨⟨hg7ax, hg7ay⟩, ⟨hg7bx, hg7by⟩⟩, hm⟩ := gd hm
        refine W_regF [27, 28, 29, 30, 31] fun k kp hk hp => ?_
        simp only [bR, bT, tab, bX, reduceIte, ↓reduceIte, reduceCtorEq, Int.reduceToNat, Nat.reduceDiv, Nat.reduceMod, Nat.reduceLT, Nat.reduceLeDiff, Nat.reduceAdd, Nat.reduceSub, Nat.reduceMul, Nat.reduceEqDiff, Nat.reduceBEq, Nat.reduceBNe, Nat.reduceGT]
        repeat refine ⟨by first | omega | assumption | decide | exact all_len fun _ => rfl | (intro _; omega) | rfl | (and_intros <;> first | omega | assumption | decide | exact all_len fun _ => rfl), ?_⟩
        refine hk _ _ ?_
        clear hk hp k kp
        refine W_eqE rfl (show _ = [.arr 6 1 35 ((p1 ++ p2).map TIns.enc)] from by first | rfl | (simp only [List.take_of_length_le, List.length_map, List.length_append, List.length_cons, List.length_nil, List.length_replicate, List.length_set, List.map_append, List.map_cons, List.map_nil, List.map_replicate, List.map_set, Nat.le_refl, Nat.zero_add, List.nil_append, List.set_cons_zero, List.set_cons_succ, bX, eK, eB, eS, eL]; done) | (simp only [List.take_of_length_le, List.length_map, List.length_append, List.length_cons, List.length_nil, List.length_replicate, List.length_set, List.map_append, List.map_cons, List.map_nil, List.map_replicate, List.map_set, Nat.le_refl, Nat.zero_add, List.nil_append, List.set_cons_zero, List.set_cons_succ, bX, eK, eB, eS, eL]; rfl) | (simp; done)) ?_
        refine W_joinM (S := Unit) (V := Unit) [1, 6, 8, 9, 32, 33, 34, 35, 36, 37, 38, 39, 40, 41, 42, 43, 44, 45, 46, 47, 48, 49, 50, 51, 52, 53, 54, 55] (fun _ _ => []) (fun _ _ => [.dead]) (fun _ => law_CodeCosts_j1 p1 p3 y2 = some r) ?_ ?_
        · skip
          by_cases h20 : (p1.length : Int) > 0
          · rw [if_pos h20] at hm
            have h20b : decide ((p1.length : Int) > 0) = true := decide_eq_true h20
            by_cases h21 : (p2.length : Int) > 0
            · rw [if_pos h21] at hm
              have h21b : decide ((p2.length : Int) > 0) = true := decide_eq_true h21
              by_cases h22 : y2 > 0
              · rw [if_pos h22] at hm
                have h22b : decide (y2 > 0) = true := decide_eq_true h22
                by_cases h23 : y3 > 0
                · rw [if_pos h23] at hm
                  have h23b : decide (y3 > 0) = true := decide_eq_true h23
                  refine W_regF [1, 8, 9, 32, 33, 34, 35, 36, 37, 38, 39, 40, 41, 42, 43, 44, 45, 46, 47, 48, 49, 50, 51, 52, 53, 54] fun k kp hk hp => ?_
                  simp only [bR, bT, tab, bX, reduceIte, ↓reduceIte, reduceCtorEq, Int.reduceToNat, Nat.reduceDiv, Nat.reduceMod, Nat.reduceLT, Nat.reduceLeDiff, Nat.reduceAdd, Nat.reduceSub, Nat.reduceMul, Nat.reduceEqDiff, Nat.reduceBEq, Nat.reduceBNe, Nat.reduceGT, h20b, h21b, h22b, h23b]
                  repeat refine ⟨by first | omega | assumption | decide | exact all_len fun _ => rfl | (intro _; omega) | rfl | (and_intros <;> first | omega | assumption | decide | exact all_len fun _ => rfl), ?_⟩
                  refine RunCall_turn (Ghost_fr 0 rfl) ?_
                  simp only [bR, bT, tab, bX, reduceIte, ↓reduceIte, reduceCtorEq, Int.reduceToNat, Nat.reduceDiv, Nat.reduceMod, Nat.reduceLT, Nat.reduceLeDiff, Nat.reduceAdd, Nat.reduceSub, Nat.reduceMul, Nat.reduceEqDiff, Nat.reduceBEq, Nat.reduceBNe, Nat.reduceGT, bZ, h20b, h21b, h22b, h23b]
                  repeat refine ⟨by first | omega | assumption | decide | exact all_len fun _ => rfl | (intro _; omega) | rfl | (and_intros <;> first | omega | assumption | decide | exact all_len fun _ => rfl), ?_⟩
                  obtain ⟨y9, hc24, hm⟩ := bd hm
                  refine RunCall_pure (fun _ => code_Cost_ok (p1 ++ p2) _ hc24) (by first | trivial | exact dst_ok rfl) (by first | trivial | (intro _; first | trivial | simp [need]) | simp [need]) rfl rfl ?_
                  simp only [bR, bT, tab, bX, reduceIte, ↓reduceIte, reduceCtorEq, Int.reduceToNat, Nat.reduceDiv, Nat.reduceMod, Nat.reduceLT, Nat.reduceLeDiff, Nat.reduceAdd, Nat.reduceSub, Nat.reduceMul, Nat.reduceEqDiff, Nat.reduceBEq, Nat.reduceBNe, Nat.reduceGT, h20b, h21b, h22b, h23b]
                  repeat refine ⟨by first | omega | assumption | decide | exact all_len fun _ => rfl | (intro _; omega) | rfl | (and_intros <;> first | omega | assumption | decide | exact all_len fun _ => rfl), ?_⟩
                  refine hk _ _ ?_
                  clear hk hp k kp
                  by_cases h25 : ¬ y9 = (IntKind.wrap .i64 (y2 + y3))
                  · rw [if_pos h25] at hm
                    refine W_condt rfl (bne_iff_ne.2 h25) ?_
                    refine W_regF [0, 2, 7, 55] fun k kp hk hp => ?_
                    simp only [bR, bT, tab, bX, reduceIte, ↓reduceIte, reduceCtorEq, Int.reduceToNat, Nat.reduceDiv, Nat.reduceMod, Nat.reduceLT, Nat.reduceLeDiff, Nat.reduceAdd, Nat.reduceSub, Nat.reduceMul, Nat.reduceEqDiff, Nat.reduceBEq, Nat.reduceBNe, Nat.reduceGT]
                    repeat refine ⟨by first | omega | assumption | decide | exact all_len fun _ => rfl | (intro _; omega) | rfl | (and_intros <;> first | omega | assumption | decide | exact all_len fun _ => rfl), ?_⟩
                    refine hk _ _ ?_
                    clear hk hp k kp
                    refine W_ret ?_
                    refine KJoinM_r ?_
                    refine KBody_ret [] ?_
                    obtain rfl := Option.some.inj hm
                    simp only [bF, bT, tab, bX, reduceIte, ↓reduceIte, reduceCtorEq, Int.reduceToNat, Nat.reduceDiv, Nat.reduceMod, Nat.reduceLT, Nat.reduceLeDiff, Nat.reduceAdd, Nat.reduceSub, Nat.reduceMul, Nat.reduceEqDiff, Nat.reduceBEq, Nat.reduceBNe, Nat.reduceGT] <;> first | done | rfl | (and_intros <;> first | rfl | omega | (simp; done))
                  · rw [if_neg h25] at hm
                    refine W_condf rfl (bne_eq_false_iff_eq.2 (Decidable.not_not.1 h25)) ?_
                    refine W_skip ?_
                    refine KJoinM_n () () hm ?_
                    simp only [bS, bX, reduceIte, ↓reduceIte, reduceCtorEq, Int.reduceToNat, Nat.reduceDiv, Nat.reduceMod, Nat.reduceLT, Nat.reduceLeDiff, Nat.reduceAdd, Nat.reduceSub, Nat.reduceMul, Nat.reduceEqDiff, Nat.reduceBEq, Nat.reduceBNe, Nat.reduceGT] <;> first | done | (and_intros <;> first | rfl | (simp; done) | omega | done)
                · rw [if_neg h23] at hm
                  have h23b : decide (y3 > 0) = false := decide_eq_false h23
                  refine W_regF [1, 8, 9, 32, 33, 34, 35, 36, 37, 38, 39, 40, 41, 42, 43, 44, 45, 46, 47, 48, 49, 50, 51, 52, 53, 54] fun k kp hk hp => ?_
                  simp only [bR, bT, tab, bX, reduceIte, ↓reduceIte, reduceCtorEq, Int.reduceToNat, Nat.reduceDiv, Nat.reduceMod, Nat.reduceLT, Nat.reduceLeDiff, Nat.reduceAdd, Nat.reduceSub, Nat.reduceMul, Nat.reduceEqDiff, Nat.reduceBEq, Nat.reduceBNe, Nat.reduceGT, h20b, h21b, h22b, h23b]
                  repeat refine ⟨by first | omega | assumption | decide | exact all_len fun _ => rfl | (intro _; omega) | rfl | (and_intros <;> first | omega | assumption | decide | exact all_len fun _ => rfl), ?_⟩
                  refine hk _ _ ?_
                  clear hk hp k kp
                  refine W_condf rfl rfl ?_
                  refine W_skip ?_
                  refine KJoinM_g (Ghost_fr 0 rfl) ?_
                  simp only [bZ, bL, reduceIte, ↓reduceIte, reduceCtorEq, Int.reduceToNat, Nat.reduceDiv, Nat.reduceMod, Nat.reduceLT, Nat.reduceLeDiff, Nat.reduceAdd, Nat.reduceSub, Nat.reduceMul, Nat.reduceEqDiff, Nat.reduceBEq, Nat.reduceBNe, Nat.reduceGT]
                  refine KJoinM_n () () hm ?_
                  simp only [bS, bX, reduceIte, ↓reduceIte, reduceCtorEq, Int.reduceToNat, Nat.reduceDiv, Nat.reduceMod, Nat.reduceLT, Nat.reduceLeDiff, Nat.reduceAdd, Nat.reduceSub, Nat.reduceMul, Nat.reduceEqDiff, Nat.reduceBEq, Nat.reduceBNe, Nat.reduceGT] <;> first | done | (and_intros <;> first | rfl | (simp; done) | omega | done)
              · rw [if_neg h22] at hm
                have h22b : decide (y2 > 0) = false := decide_eq_false h22
                refine W_regF [1, 8, 9, 32, 33, 34, 35, 36, 37, 38, 39, 40, 41, 42, 43, 44, 45, 46, 47, 48, 49, 50, 51, 52, 53, 54] fun k kp hk hp => ?_
                simp only [bR, bT, tab, bX, reduceIte, ↓reduceIte, reduceCtorEq, Int.reduceToNat, Nat.reduceDiv, Nat.reduceMod, Nat.reduceLT, Nat.reduceLeDiff, Nat.reduceAdd, Nat.reduceSub, Nat.reduceMul, Nat.reduceEqDiff, Nat.reduceBEq, Nat.reduceBNe, Nat.reduceGT, h20b, h21b, h22b]
                repeat refine ⟨by first | omega | assumption | decide | exact all_len fun _ => rfl | (intro _; omega) | rfl | (and_intros <;> first | omega | assumption | decide | exact all_len fun _ => rfl), ?_⟩
                refine hk _ _ ?_
                clear hk hp k kp
                refine W_condf rfl rfl ?_
                refine W_skip ?_
                refine KJoinM_g (Ghost_fr 0 rfl) ?_
                simp only [bZ, bL, reduceIte, ↓reduceIte, reduceCtorEq, Int.reduceToNat, Nat.reduceDiv, Nat.reduceMod, Nat.reduceLT, Nat.reduceLeDiff, Nat.reduceAdd, Nat.reduceSub, Nat.reduceMul, Nat.reduceEqDiff, Nat.reduceBEq, Nat.reduceBNe, Nat.reduceGT]
                refine KJoinM_n () () hm ?_
                simp only [bS, bX, reduceIte, ↓reduceIte, reduceCtorEq, Int.reduceToNat, Nat.reduceDiv, Nat.reduceMod, Nat.reduceLT, Nat.reduceLeDiff, Nat.reduceAdd, Nat.reduceSub, Nat.reduceMul, Nat.reduceEqDiff, Nat.reduceBEq, Nat.reduceBNe, Nat.reduceGT] <;> first | done | (and_intros <;> first | rfl | (simp; done) | omega | done)
            · rw [if_neg h21] at hm
              have h21b : decide ((p2.length : Int) > 0) = false := decide_eq_false h21
              refine W_regF [1, 8, 9, 32, 33, 34, 35, 36, 37, 38, 39, 40, 41, 42, 43, 44, 45, 46, 47, 48, 49, 50, 51, 52, 53, 54] fun k kp hk hp => ?_
              simp only [bR, bT, tab, bX, reduceIte, ↓reduceIte, reduceCtorEq, Int.reduceToNat, Nat.reduceDiv, Nat.reduceMod, Nat.reduceLT, Nat.reduceLeDiff, Nat.reduceAdd, Nat.reduceSub, Nat.reduceMul, Nat.reduceEqDiff, Nat.reduceBEq, Nat.reduceBNe, Nat.reduceGT, h20b, h21b]
              repeat refine ⟨by first | omega | assumption | decide | exact all_len fun _ => rfl | (intro _; omega) | rfl | (and_intros <;> first | omega | assumption | decide | exact all_len fun _ => rfl), ?_⟩
              refine hk _ _ ?_
              clear hk hp k kp
              refine W_condf rfl rfl ?_
              refine W_skip ?_
              refine KJoinM_g (Ghost_fr 0 rfl) ?_
              simp only [bZ, bL, reduceIte, ↓reduceIte, reduceCtorEq, Int.reduceToNat, Nat.reduceDiv, Nat.reduceMod, Nat.reduceLT, Nat.reduceLeDiff, Nat.reduceAdd, Nat.reduceSub, Nat.reduceMul, Nat.reduceEqDiff, Nat.reduceBEq, Nat.reduceBNe, Nat.reduceGT]
              refine KJoinM_n () () hm ?_
              simp only [bS, bX, reduceIte, ↓reduceIte, reduceCtorEq, Int.reduceToNat, Nat.reduceDiv, Nat.reduceMod, Nat.reduceLT, Nat.reduceLeDiff, Nat.reduceAdd, Nat.reduceSub, Nat.reduceMul, Nat.reduceEqDiff, Nat.reduceBEq, Nat.reduceBNe, Nat.reduceGT] <;> first | done | (and_intros <;> first | rfl | (simp; done) | omega | done)
          · rw [if_neg h20] at hm
            have h20b : decide ((p1.length : Int) > 0) = false := decide_eq_false h20
            refine W_regF [1, 8, 9, 32, 33, 34, 35, 36, 37, 38, 39, 40, 41, 42, 43, 44, 45, 46, 47, 48, 49, 50, 51, 52, 53, 54] fun k kp hk hp => ?_
            simp only [bR, bT, tab, bX, reduceIte, ↓reduceIte, reduceCtorEq, Int.reduceToNat, Nat.reduceDiv, Nat.reduceMod, Nat.reduceLT, Nat.reduceLeDiff, Nat.reduceAdd, Nat.reduceSub, Nat.reduceMul, Nat.reduceEqDiff, Nat.reduceBEq, Nat.reduceBNe, Nat.reduceGT, h20b]
            repeat refine ⟨by first | omega | assumption | decide | exact all_len fun _ => rfl | (intro _; omega) | rfl | (and_intros <;> first | omega | assumption | decide | exact all_len fun _ => rfl), ?_⟩
            refine hk _ _ ?_
            clear hk hp k kp
            refine W_condf rfl rfl ?_
            refine W_skip ?_
            refine KJoinM_g (Ghost_fr 0 rfl) ?_
            simp only [bZ, bL, reduceIte, ↓reduceIte, reduceCtorEq, Int.reduceToNat, Nat.reduceDiv, Nat.reduceMod, Nat.reduceLT, Nat.reduceLeDiff, Nat.reduceAdd, Nat.reduceSub, Nat.reduceMul, Nat.reduceEqDiff, Nat.reduceBEq, Nat.reduceBNe, Nat.reduceGT]
            refine KJoinM_n () () hm ?_
            simp only [bS, bX, reduceIte, ↓reduceIte, reduceCtorEq, Int.reduceToNat, Nat.reduceDiv, Nat.reduceMod, Nat.reduceLT, Nat.reduceLeDiff, Nat.reduceAdd, Nat.reduceSub, Nat.reduceMul, Nat.reduceEqDiff, Nat.reduceBEq, Nat.reduceBNe, Nat.reduceGT] <;> first | done | (and_intros <;> first | rfl | (simp; done) | omega | done)
        · rintro _ _ hm
          replace hm : law_CodeCosts_j1 p1 p3 y2 = some r := hm
          refine W_eqE (by simp only [bE, Nat.reduceDiv, Nat.reduceMod, Nat.reduceLT, Nat.reduceLeDiff, Nat.reduceAdd, Nat.reduceSub, Nat.reduceMul, Nat.reduceEqDiff, Nat.reduceBEq, Nat.reduceBNe, Nat.reduceGT, Int.reduceToNat]; rfl) (by first | (dsimp only; rfl) | rfl) ?_
          unfold law_CodeCosts_j1 at hm
          refine W_joinM (S := Unit) (V := Unit) [6, 10, 56, 57, 58, 59, 60, 61, 62, 63, 64, 65, 66, 67, 68, 69, 70, 71, 72, 73, 74, 75, 76, 77] (fun _ _ => []) (fun _ _ => [.dead]) (fun _ => law_CodeCosts_j2 p1 p3 y2 = some r) ?_ ?_
          · skip
            refine W_regF [] fun k kp hk hp => ?_
            simp only [bR, bT, tab, bX, reduceIte, ↓reduceIte, reduceCtorEq, Int.reduceToNat, Nat.reduceDiv, Nat.reduceMod, Nat.reduceLT, Nat.reduceLeDiff, Nat.reduceAdd, Nat.reduceSub, Nat.reduceMul, Nat.reduceEqDiff, Nat.reduceBEq, Nat.reduceBNe, Nat.reduceGT]
            repeat refine ⟨by first | omega | assumption | decide | exact all_len fun _ => rfl | (intro _; omega) | rfl | (and_intros <;> first | omega | assumption | decide | exact all_len fun _ => rfl), ?_⟩
            refine hk _ _ ?_
            clear hk hp k kp
            refine W_block ?_
            obtain ⟨o1, hl1, hm1⟩ := bd hm
            refine W_loopM (S := Int) (V := Unit) (O := Unit ⊕ Bool) [6, 10, 56, 57, 58, 59, 60, 61, 62, 63, 64, 65, 66, 67, 68, 69, 70, 71, 72, 73, 74, 75, 76, 77] (fun x7 _ => [(10, .c (.int .i64 x7))]) (fun x7 _ => [.dead]) _ _ () hl1 ?_ ?_
            · simp only [bS, bX, reduceIte, ↓reduceIte, reduceCtorEq, Int.reduceToNat, Nat.reduceDiv, Nat.reduceMod, Nat.reduceLT, Nat.reduceLeDiff, Nat.reduceAdd, Nat.reduceSub, Nat.reduceMul, Nat.reduceEqDiff, Nat.reduceBEq, Nat.reduceBNe, Nat.reduceGT] <;> first | done | (and_intros <;> first | rfl | (simp; done) | omega | done)
            · rintro x7 _ r1 hm hr1
              replace hm : law_CodeCosts_l1 p1 y2 x7 = some r1 := hm
              refine W_eqE (by simp only [bE, Nat.reduceDiv, Nat.reduceMod, Nat.reduceLT, Nat.reduceLeDiff, Nat.reduceAdd, Nat.reduceSub, Nat.reduceMul, Nat.reduceEqDiff, Nat.reduceBEq, Nat.reduceBNe, Nat.reduceGT, Int.reduceToNat]; rfl) (by first | (dsimp only; rfl) | rfl) ?_
              unfold law_CodeCosts_l1 at hm
              refine W_seq_k fun k3 hk3 => ?_
              refine W_regF [56, 57, 58] fun k kp hk hp => ?_
              simp only [bR, bT, tab, bX, reduceIte, ↓reduceIte, reduceCtorEq, Int.reduceToNat, Nat.reduceDiv, Nat.reduceMod, Nat.reduceLT, Nat.reduceLeDiff, Nat.reduceAdd, Nat.reduceSub, Nat.reduceMul, Nat.reduceEqDiff, Nat.reduceBEq, Nat.reduceBNe, Nat.reduceGT]
              repeat refine ⟨by first | omega | assumption | decide | exact all_len fun _ => rfl | (intro _; omega) | rfl | (and_intros <;> first | omega | assumption | decide | exact all_len fun _ => rfl), ?_⟩
              refine hk _ _ ?_
              clear hk hp k kp
              by_cases h12 : x7 < (p1.length : Int)
              · rw [if_pos h12] at hm
                refine W_condt rfl (decide_eq_true h12) ?_
                refine W_skip ?_
                refine KThen_n (hk3 _ _ ?_)
                refine W_seq_k fun k4 hk4 => ?_
                refine W_block ?_
                by_cases h13 : ((p1.getD x7.toNat default).op) = 10
                · rw [if_pos h13] at hm
                  have h13b : (((p1.getD x7.toNat default).op) == 10) = true := beq_iff_eq.2 h13
                  obtain ⟨hg14a, hm⟩ := gd hm
                  refine W_regF [59, 62, 63, 64, 65, 66, 67, 68, 69, 70, 71, 72, 73, 74] fun k kp hk hp => ?_
                  simp only [bR, bT, tab, bX, reduceIte, ↓reduceIte, reduceCtorEq, Int.reduceToNat, Nat.reduceDiv, Nat.reduceMod, Nat.reduceLT, Nat.reduceLeDiff, Nat.reduceAdd, Nat.reduceSub, Nat.reduceMul, Nat.reduceEqDiff, Nat.reduceBEq, Nat.reduceBNe, Nat.reduceGT, elt_map TIns.enc p1 x7.toNat (by first | omega | (simp only [len_lit, List.length_cons, List.length_nil, List.length_append, List.length_set, List.length_replicate, List.length_map, List.length_take, List.length_drop]; omega)), h13b]
                  repeat refine ⟨by first | omega | assumption | decide | exact all_len fun _ => rfl | (intro _; omega) | rfl | (and_intros <;> first | omega | assumption | decide | exact all_len fun _ => rfl), ?_⟩
                  refine hk _ _ ?_
                  clear hk hp k kp
                  refine W_condt rfl rfl ?_
                  refine W_regF [0, 2, 7, 10, 75, 76, 77] fun k kp hk hp => ?_
                  simp only [bR, bT, tab, bX, reduceIte, ↓reduceIte, reduceCtorEq, Int.reduceToNat, Nat.reduceDiv, Nat.reduceMod, Nat.reduceLT, Nat.reduceLeDiff, Nat.reduceAdd, Nat.reduceSub, Nat.reduceMul, Nat.reduceEqDiff, Nat.reduceBEq, Nat.reduceBNe, Nat.reduceGT]
                  repeat refine ⟨by first | omega | assumption | decide | exact all_len fun _ => rfl | (intro _; omega) | rfl | (and_intros <;> first | omega | assumption | decide | exact all_len fun _ => rfl), ?_⟩
                  refine hk _ _ ?_
                  clear hk hp k kp
                  have ho15 := out_eq hm hr1
                  subst ho15
                  replace hm : some (decide (y2 ≥ 0)) = some r := hm1
                  refine W_ret ?_
                  refine KBlock_r ?_
                  refine KThen_r ?_
                  refine KLoopM_r ?_
                  refine KBlock_r ?_
                  refine KJoinM_r ?_
                  refine KBody_ret [] ?_
                  obtain rfl := Option.some.inj hm
                  simp only [bF, bT, tab, bX, reduceIte, ↓reduceIte, reduceCtorEq, Int.reduceToNat, Nat.reduceDiv, Nat.reduceMod, Nat.reduceLT, Nat.reduceLeDiff, Nat.reduceAdd, Nat.reduceSub, Nat.reduceMul, Nat.reduceEqDiff, Nat.reduceBEq, Nat.reduceBNe, Nat.reduceGT] <;> first | done | rfl | (and_intros <;> first | rfl | omega | (simp; done))
                · rw [if_neg h13] at hm
                  have h13b : (((p1.getD x7.toNat default).op) == 10) = false := beq_eq_false_iff_ne.2 h13
                  obtain ⟨hg16a, hm⟩ := gd hm
                  refine W_regF [59, 62, 63, 64, 65, 66, 67, 68, 69, 70, 71, 72, 73, 74] fun k kp hk hp => ?_
                  simp only [bR, bT, tab, bX, reduceIte, ↓reduceIte, reduceCtorEq, Int.reduceToNat, Nat.reduceDiv, Nat.reduceMod, Nat.reduceLT, Nat.reduceLeDiff, Nat.reduceAdd, Nat.reduceSub, Nat.reduceMul, Nat.reduceEqDiff, Nat.reduceBEq, Nat.reduceBNe, Nat.reduceGT, elt_map TIns.enc p1 x7.toNat (by first | omega | (simp only [len_lit, List.length_cons, List.length_nil, List.length_append, List.length_set, List.length_replicate, List.length_map, List.length_take, List.length_drop]; omega)), h13b]
                  repeat refine ⟨by first | omega | assumption | decide | exact all_len fun _ => rfl | (intro _; omega) | rfl | (and_intros <;> first | omega | assumption | decide | exact all_len fun _ => rfl), ?_⟩
                  refine hk _ _ ?_
                  clear hk hp k kp
                  by_cases h17 : ((p1.getD x7.toNat default).op) = 11
                  · rw [if_pos h17] at hm
                    refine W_condt rfl (beq_iff_eq.2 h17) ?_
                    refine W_regF [0, 2, 7, 10, 75, 76, 77] fun k kp hk hp => ?_
                    simp only [bR, bT, tab, bX, reduceIte, ↓reduceIte, reduceCtorEq, Int.reduceToNat, Nat.reduceDiv, Nat.reduceMod, Nat.reduceLT, Nat.reduceLeDiff, Nat.reduceAdd, Nat.reduceSub, Nat.reduceMul, Nat.reduceEqDiff, Nat.reduceBEq, Nat.reduceBNe, Nat.reduceGT]
                    repeat refine ⟨by first | omega | assumption | decide | exact all_len fun _ => rfl | (intro _; omega) | rfl | (and_intros <;> first | omega | assumption | decide | exact all_len fun _ => rfl), ?_⟩
                    refine hk _ _ ?_
                    clear hk hp k kp
                    have ho18 := out_eq hm hr1
                    subst ho18
                    replace hm : some (decide (y2 ≥ 0)) = some r := hm1
                    refine W_ret ?_
                    refine KBlock_r ?_
                    refine KThen_r ?_
                    refine KLoopM_r ?_
                    refine KBlock_r ?_
                    refine KJoinM_r ?_
                    refine KBody_ret [] ?_
                    obtain rfl := Option.some.inj hm
                    simp only [bF, bT, tab, bX, reduceIte, ↓reduceIte, reduceCtorEq, Int.reduceToNat, Nat.reduceDiv, Nat.reduceMod, Nat.reduceLT, Nat.reduceLeDiff, Nat.reduceAdd, Nat.reduceSub, Nat.reduceMul, Nat.reduceEqDiff, Nat.reduceBEq, Nat.reduceBNe, Nat.reduceGT] <;> first | done | rfl | (and_intros <;> first | rfl | omega | (simp; done))
                  · rw [if_neg h17] at hm
                    refine W_condf rfl (beq_eq_false_iff_ne.2 h17) ?_
                    refine W_skip ?_
                    refine KBlock_n ?_
                    refine KThen_n (hk4 _ _ ?_)
                    refine W_region fun k kp hk hp => ?_
                    simp only [bR, bT, tab, bX, reduceIte, ↓reduceIte, reduceCtorEq, Int.reduceToNat, Nat.reduceDiv, Nat.reduceMod, Nat.reduceLT, Nat.reduceLeDiff, Nat.reduceAdd, Nat.reduceSub, Nat.reduceMul, Nat.reduceEqDiff, Nat.reduceBEq, Nat.reduceBNe, Nat.reduceGT]
                    repeat refine ⟨by first | omega | assumption | decide | exact all_len fun _ => rfl | (intro _; omega) | rfl | (and_intros <;> first | omega | assumption | decide | exact all_len fun _ => rfl), ?_⟩
                    refine hk _ _ ?_
                    clear hk hp k kp
                    refine KLoopM_n (IntKind.wrap .i64 (x7 + 1)) () hm ?_
                    simp only [bS, bX, reduceIte, ↓reduceIte, reduceCtorEq, Int.reduceToNat, Nat.reduceDiv, Nat.reduceMod, Nat.reduceLT, Nat.reduceLeDiff, Nat.reduceAdd, Nat.reduceSub, Nat.reduceMul, Nat.reduceEqDiff, Nat.reduceBEq, Nat.reduceBNe, Nat.reduceGT] <;> first | done | (and_intros <;> first | rfl | (simp; done) | omega | done)
              · rw [if_neg h12] at hm
                refine W_condf rfl (decide_eq_false h12) ?_
                refine W_exit ?_
                have ho19 := out_eq hm hr1
                subst ho19
                replace hm : law_CodeCosts_j2 p1 p3 y2 = some r := hm1
                refine KThen_x ?_
                refine KLoopM_x ?_
                refine KBlock_hit ?_
                refine KJoinM_n () () hm ?_
                simp only [bS, bX, reduceIte, ↓reduceIte, reduceCtorEq, Int.reduceToNat, Nat.reduceDiv, Nat.reduceMod, Nat.reduceLT, Nat.reduceLeDiff, Nat.reduceAdd, Nat.reduceSub, Nat.reduceMul, Nat.reduceEqDiff, Nat.reduceBEq, Nat.reduceBNe, Nat.reduceGT] <;> first | done | (and_intros <;> first | rfl | (simp; done) | omega | done)
          · rintro _ _ hm
            replace hm : law_CodeCosts_j2 p1 p3 y2 = some r := hm
            refine W_eqE (by simp only [bE, Nat.reduceDiv, Nat.reduceMod, Nat.reduceLT, Nat.reduceLeDiff, Nat.reduceAdd, Nat.reduceSub, Nat.reduceMul, Nat.reduceEqDiff, Nat.reduceBEq, Nat.reduceBNe, Nat.reduceGT, Int.reduceToNat]; rfl) (by first | (dsimp only; rfl) | rfl) ?_
            unfold law_CodeCosts_j2 at hm
            refine W_regF [2, 78, 79, 80, 81, 82] fun k kp hk hp => ?_
            simp only [bR, bT, tab, bX, reduceIte, ↓reduceIte, reduceCtorEq, Int.reduceToNat, Nat.reduceDiv, Nat.reduceMod, Nat.reduceLT, Nat.reduceLeDiff, Nat.reduceAdd, Nat.reduceSub, Nat.reduceMul, Nat.reduceEqDiff, Nat.reduceBEq, Nat.reduceBNe, Nat.reduceGT]
            repeat refine ⟨by first | omega | assumption | decide | exact all_len fun _ => rfl | (intro _; omega) | rfl | (and_intros <;> first | omega | assumption | decide | exact all_len fun _ => rfl), ?_⟩
            refine hk _ _ ?_
            clear hk hp k kp
            refine W_regF [] fun k kp hk hp => ?_
            simp only [bR, bT, tab, bX, reduceIte, ↓reduceIte, reduceCtorEq, Int.reduceToNat, Nat.reduceDiv, Nat.reduceMod, Nat.reduceLT, Nat.reduceLeDiff, Nat.reduceAdd, Nat.reduceSub, Nat.reduceMul, Nat.reduceEqDiff, Nat.reduceBEq, Nat.reduceBNe, Nat.reduceGT]
            repeat refine ⟨by first | omega | assumption | decide | exact all_len fun _ => rfl | (intro _; omega) | rfl | (and_intros <;> first | omega | assumption | decide | exact all_len fun _ => rfl), ?_⟩
            refine hk _ _ ?_
            clear hk hp k kp
            obtain ⟨⟨hg8ax, hg8ay⟩, hm⟩ := gd hm
            refine W_regF [83, 84, 85, 86, 87] fun k kp hk hp => ?_
            simp only [bR, bT, tab, bX, reduceIte, ↓reduceIte, reduceCtorEq, Int.reduceToNat, Nat.reduceDiv, Nat.reduceMod, Nat.reduceLT, Nat.reduceLeDiff, Nat.reduceAdd, Nat.reduceSub, Nat.reduceMul, Nat.reduceEqDiff, Nat.reduceBEq, Nat.reduceBNe, Nat.reduceGT, List.replicate, List.foldr]
            repeat refine ⟨by first | omega | assumption | decide | exact all_len fun _ => rfl | (intro _; omega) | rfl | (and_intros <;> first | omega | assumption | decide | exact all_len fun _ => rfl), ?_⟩
            refine hk _ _ ?_
            clear hk hp k kp
            refine W_eqE rfl (show _ = [.dead, .arr 6 0 35 ((lit ([(TIns.mk 10 0 0 0 0 (IntKind.wrap .i64 (1 + (IntKind.wrap .i64 ((IntKind.wrap .u64 p3).tmod 300)))))] : List TIns)).map TIns.enc), .arr 6 0 35 ((lit ([(TIns.mk 10 0 0 0 0 (IntKind.wrap .i64 (1 + (IntKind.wrap .i64 ((IntKind.wrap .u64 p3).tmod 300)))))] : List TIns)).map TIns.enc)] from by first | rfl | (simp only [List.take_of_length_le, List.length_map, List.length_append, List.length_cons, List.length_nil, List.length_replicate, List.length_set, List.map_append, List.map_cons, List.map_nil, List.map_replicate, List.map_set, Nat.le_refl, Nat.zero_add, List.nil_append, List.set_cons_zero, List.set_cons_succ, bX, eK, eB, eS, eL]; done) | (simp only [List.take_of_length_le, List.length_map, List.length_append, List.length_cons, List.length_nil, List.length_replicate, List.length_set, List.map_append, List.map_cons, List.map_nil, List.map_replicate, List.map_set, Nat.le_refl, Nat.zero_add, List.nil_append, List.set_cons_zero, List.set_cons_succ, bX, eK, eB, eS, eL]; rfl) | (simp; done)) ?_
            obtain ⟨⟨⟨hg9ax, hg9ay⟩, ⟨hg9bx, hg9by⟩⟩, hm⟩ := gd hm
            refine W_regF [88, 89, 90, 91, 92, 93] fun k kp hk hp => ?_
            simp only [bR, bT, tab, bX, reduceIte, ↓reduceIte, reduceCtorEq, Int.reduceToNat, Nat.reduceDiv, Nat.reduceMod, Nat.reduceLT, Nat.reduceLeDiff, Nat.reduceAdd, Nat.reduceSub, Nat.reduceMul, Nat.reduceEqDiff, Nat.reduceBEq, Nat.reduceBNe, Nat.reduceGT, List.replicate, List.foldr]
            repeat refine ⟨by first | omega | assumption | decide | exact all_len fun _ => rfl | (intro _; omega) | rfl | (and_intros <;> first | omega | assumption | decide | exact all_len fun _ => rfl), ?_⟩
            refine hk _ _ ?_
            clear hk hp k kp
            refine W_eqE rfl (show _ = [.dead, .arr 6 0 35 ((lit ([(TIns.mk 10 0 0 0 0 (IntKind.wrap .i64 (1 + (IntKind.wrap .i64 ((IntKind.wrap .u64 p3).tmod 300)))))] : List TIns)).map TIns.enc), .arr 6 2 35 ((((lit ([(TIns.mk 10 0 0 0 0 (IntKind.wrap .i64 (1 + (IntKind.wrap .i64 ((IntKind.wrap .u64 p3).tmod 300)))))] : List TIns)) ++ p1) ++ (lit ([(TIns.mk 11 0 0 0 0 0)] : List TIns))).map TIns.enc), .arr 6 0 35 ((lit ([(TIns.mk 11 0 0 0 0 0)] : List TIns)).map TIns.enc)] from by first | rfl | (simp only [List.take_of_length_le, List.length_map, List.length_append, List.length_cons, List.length_nil, List.length_replicate, List.length_set, List.map_append, List.map_cons, List.map_nil, List.map_replicate, List.map_set, Nat.le_refl, Nat.zero_add, List.nil_append, List.set_cons_zero, List.set_cons_succ, bX, eK, eB, eS, eL]; done) | (simp only [List.take_of_length_le, List.length_map, List.length_append, List.length_cons, List.length_nil, List.length_replicate, List.length_set, List.map_append, List.map_cons, List.map_nil, List.map_replicate, List.map_set, Nat.le_refl, Nat.zero_add, List.nil_append, List.set_cons_zero, List.set_cons_succ, bX, eK, eB, eS, eL]; rfl) | (simp; done)) ?_
            by_cases h10 : y2 = (p1.length : Int)
            · rw [if_pos h10] at hm
              have h10b : (y2 == (p1.length : Int)) = true := beq_iff_eq.2 h10
              refine W_regF [0, 7, 11, 12, 94, 95, 96, 97, 98, 99, 100, 101, 102, 103, 104, 105, 106, 107] fun k kp hk hp => ?_
              simp only [bR, bT, tab, bX, reduceIte, ↓reduceIte, reduceCtorEq, Int.reduceToNat, Nat.reduceDiv, Nat.reduceMod, Nat.reduceLT, Nat.reduceLeDiff, Nat.reduceAdd, Nat.reduceSub, Nat.reduceMul, Nat.reduceEqDiff, Nat.reduceBEq, Nat.reduceBNe, Nat.reduceGT, h10b]
              repeat refine ⟨by first | omega | assumption | decide | exact all_len fun _ => rfl | (intro _; omega) | rfl | (and_intros <;> first | omega | assumption | decide | exact all_len fun _ => rfl), ?_⟩
              refine RunCall_turn (Ghost_fr 2 rfl) ?_
              simp only [bR, bT, tab, bX, reduceIte, ↓reduceIte, reduceCtorEq, Int.reduceToNat, Nat.reduceDiv, Nat.reduceMod, Nat.reduceLT, Nat.reduceLeDiff, Nat.reduceAdd, Nat.reduceSub, Nat.reduceMul, Nat.reduceEqDiff, Nat.reduceBEq, Nat.reduceBNe, Nat.reduceGT, bZ, h10b]
              repeat refine ⟨by first | omega | assumption | decide | exact all_len fun _ => rfl | (intro _; omega) | rfl | (and_intros <;> first | omega | assumption | decide | exact all_len fun _ => rfl), ?_⟩
              obtain ⟨y4, hc11, hm⟩ := bd hm
              refine RunCall_pure (fun _ => code_Cost_ok (((lit ([(TIns.mk 10 0 0 0 0 (IntKind.wrap .i64 (1 + (IntKind.wrap .i64 ((IntKind.wrap .u64 p3).tmod 300)))))] : List TIns)) ++ p1) ++ (lit ([(TIns.mk 11 0 0 0 0 0)] : List TIns))) _ hc11) (by first | trivial | exact dst_ok rfl) (by first | trivial | (intro _; first | trivial | simp [need]) | simp [need]) rfl rfl ?_
              simp only [bR, bT, tab, bX, reduceIte, ↓reduceIte, reduceCtorEq, Int.reduceToNat, Nat.reduceDiv, Nat.reduceMod, Nat.reduceLT, Nat.reduceLeDiff, Nat.reduceAdd, Nat.reduceSub, Nat.reduceMul, Nat.reduceEqDiff, Nat.reduceBEq, Nat.reduceBNe, Nat.reduceGT, h10b]
              repeat refine ⟨by first | omega | assumption | decide | exact all_len fun _ => rfl | (intro _; omega) | rfl | (and_intros <;> first | omega | assumption | decide | exact all_len fun _ => rfl), ?_⟩
              refine hk _ _ ?_
              clear hk hp k kp
              refine W_ret ?_
              refine KBody_ret [] ?_
              obtain rfl := Option.some.inj hm
              simp only [bF, bT, tab, bX, reduceIte, ↓reduceIte, reduceCtorEq, Int.reduceToNat, Nat.reduceDiv, Nat.reduceMod, Nat.reduceLT, Nat.reduceLeDiff, Nat.reduceAdd, Nat.reduceSub, Nat.reduceMul, Nat.reduceEqDiff, Nat.reduceBEq, Nat.reduceBNe, Nat.reduceGT] <;> first | done | rfl | (and_intros <;> first | rfl | omega | (simp; done))
            · rw [if_neg h10] at hm
              have h10b : (y2 == (p1.length : Int)) = false := beq_eq_false_iff_ne.2 h10
              refine W_regF [0, 7, 11, 12, 94, 95, 96, 97, 98, 99, 100, 101, 102, 103, 104, 105, 106, 107] fun k kp hk hp => ?_
              simp only [bR, bT, tab, bX, reduceIte, ↓reduceIte, reduceCtorEq, Int.reduceToNat, Nat.reduceDiv, Nat.reduceMod, Nat.reduceLT, Nat.reduceLeDiff, Nat.reduceAdd, Nat.reduceSub, Nat.reduceMul, Nat.reduceEqDiff, Nat.reduceBEq, Nat.reduceBNe, Nat.reduceGT, h10b]
              repeat refine ⟨by first | omega | assumption | decide | exact all_len fun _ => rfl | (intro _; omega) | rfl | (and_intros <;> first | omega | assumption | decide | exact all_len fun _ => rfl), ?_⟩
              refine hk _ _ ?_
              clear hk hp k kp
              refine W_ret ?_
              refine KBody_ret [] ?_
              obtain rfl := Option.some.inj hm
              simp only [bF, bT, tab, bX, reduceIte, ↓reduceIte, reduceCtorEq, Int.reduceToNat, Nat.reduceDiv, Nat.reduceMod, Nat.reduceLT, Nat.reduceLeDiff, Nat.reduceAdd, Nat.reduceSub, Nat.reduceMul, Nat.reduceEqDiff, Nat.reduceBEq, Nat.reduceBNe, Nat.reduceGT] <;> first | done | rfl | (and_intros <;> first | rfl | omega | (simp; done))
  · rw [if_neg h2] at hm
    refine W_condt rfl (by rw [show y1 = false from (Bool.eq_false_iff.2 h2)]; rfl) ?_
    refine W_regF [0, 1, 2, 14] fun k kp hk hp => ?_
    simp only [bR, bT, tab, bX, reduceIte, ↓reduceIte, reduceCtorEq, Int.reduceToNat, Nat.reduceDiv, Nat.reduceMod, Nat.reduceLT, Nat.reduceLeDiff, Nat.reduceAdd, Nat.reduceSub, Nat.reduceMul, Nat.reduceEqDiff, Nat.reduceBEq, Nat.reduceBNe, Nat.reduceGT]
    repeat refine ⟨by first | omega | assumption | decide | exact all_len fun _ => rfl | (intro _; omega) | rfl | (and_intros <;> first | omega | assumption | decide | exact all_len fun _ => rfl), ?_⟩
    refine hk _ _ ?_
    clear hk hp k kp
    refine W_ret ?_
    refine KThen_r ?_
    refine KBody_ret [] ?_
    obtain rfl := Option.some.inj hm
    simp only [bF, bT, tab, bX, reduceIte, ↓reduceIte, reduceCtorEq, Int.reduceToNat, Nat.reduceDiv, Nat.reduceMod, Nat.reduceLT, Nat.reduceLeDiff, Nat.reduceAdd, Nat.reduceSub, Nat.reduceMul, Nat.reduceEqDiff, Nat.reduceBEq, Nat.reduceBNe, Nat.reduceGT] <;> first | done | rfl | (and_intros <;> first | rfl | omega | (simp; done))
end Pam
