/- the walk of law_CodeChecks, printed by a program of ours -/
import Derived.Test.YtkdminbbajdjpaaCodeChecksFun1
import Derived.Test.YtkdminbbajdjpaaCodeChecksWalk1
import Derived.Test.YtkdminbbajdjpaaCodeChecksWalk2
set_option linter.all false
namespace Pam
open Go Go.Proofs
set_option maxRecDepth 100000 in
set_option maxHeartbeats 1000000 in
theorem law_CodeChecks_ok (p1 : TImage) (r : Bool) (hm : law_CodeChecks p1 = some r) : SpecF Try.prog 3 [.a [.int .i64 p1.cells, .int .i64 p1.regs, .int .i64 p1.cost, .tree 1 (p1.put.map (eK .i64)), .tree 1 (p1.bools.map (eK .i64)), .tree 1 (p1.get.map (eK .i64)), .tree 6 (p1.code.map TIns.enc)]] (.c (.bool r)) := by
  refine Spec_ofD 29 [.tmp 2] Try.func3 rfl rfl rfl (by kernel_rfl) (by simp) ?_
  refine W_eqE (by simp only [argSlots, Env.ofList, List.length_nil, List.length_cons, bE, Nat.reduceDiv, Nat.reduceMod, Nat.reduceLT, Nat.reduceLeDiff, Nat.reduceAdd, Nat.reduceSub, Nat.reduceMul, Nat.reduceEqDiff, Nat.reduceBEq, Nat.reduceBNe, Nat.reduceGT, Int.reduceToNat]; rfl) rfl ?_
  unfold law_CodeChecks at hm
  refine W_regF [0, 2] fun k kp hk hp => ?_
  simp only [bR, bT, tab, bX, reduceIte, ↓reduceIte, reduceCtorEq, Int.reduceToNat, Nat.reduceDiv, Nat.reduceMod, Nat.reduceLT, Nat.reduceLeDiff, Nat.reduceAdd, Nat.reduceSub, Nat.reduceMul, Nat.reduceEqDiff, Nat.reduceBEq, Nat.reduceBNe, Nat.reduceGT]
  repeat refine ⟨by first | omega | assumption | decide | exact all_len fun _ => rfl | (intro _; omega) | rfl | (and_intros <;> first | omega | assumption | decide | exact all_len fun _ => rfl), ?_⟩
  refine hk _ _ ?_
  clear hk hp k kp
  refine W_seq_k fun k1 hk1 => ?_
  refine W_regF [4] fun k kp hk hp => ?_
  simp only [bR, bT, tab, bX, reduceIte, ↓reduceIte, reduceCtorEq, Int.reduceToNat, Nat.reduceDiv, Nat.reduceMod, Nat.reduceLT, Nat.reduceLeDiff, Nat.reduceAdd, Nat.reduceSub, Nat.reduceMul, Nat.reduceEqDiff, Nat.reduceBEq, Nat.reduceBNe, Nat.reduceGT]
  repeat refine ⟨by first | omega | assumption | decide | exact all_len fun _ => rfl | (intro _; omega) | rfl | (and_intros <;> first | omega | assumption | decide | exact all_len fun _ => rfl), ?_⟩
  obtain ⟨y1, hc1, hm⟩ := bd hm
  refine RunCall_pure (fun _ => law_codeBegun_ok  _ hc1) (by first | trivial | exact dst_ok rfl) (by first | trivial | (intro _; first | trivial | simp [need]) | simp [need]) rfl rfl ?_
  simp only [bR, bT, tab, bX, reduceIte, ↓reduceIte, reduceCtorEq, Int.reduceToNat, Nat.reduceDiv, Nat.reduceMod, Nat.reduceLT, Nat.reduceLeDiff, Nat.reduceAdd, Nat.reduceSub, Nat.reduceMul, Nat.reduceEqDiff, Nat.reduceBEq, Nat.reduceBNe, Nat.reduceGT]
  repeat refine ⟨by first | omega | assumption | decide | exact all_len fun _ => rfl | (intro _; omega) | rfl | (and_intros <;> first | omega | assumption | decide | exact all_len fun _ => rfl), ?_⟩
  refine hk _ _ ?_
  clear hk hp k kp
  by_cases h2 : y1 = true
  · rw [if_pos h2] at hm
    refine W_condf rfl (by rw [show y1 = true from (h2)]; rfl) ?_
    refine W_skip ?_
    refine KThen_n (hk1 _ _ ?_)
    refine W_seq_k fun k2 hk2 => ?_
    refine W_regF [5, 6] fun k kp hk hp => ?_
    simp only [bR, bT, tab, bX, reduceIte, ↓reduceIte, reduceCtorEq, Int.reduceToNat, Nat.reduceDiv, Nat.reduceMod, Nat.reduceLT, Nat.reduceLeDiff, Nat.reduceAdd, Nat.reduceSub, Nat.reduceMul, Nat.reduceEqDiff, Nat.reduceBEq, Nat.reduceBNe, Nat.reduceGT]
    repeat refine ⟨by first | omega | assumption | decide | exact all_len fun _ => rfl | (intro _; omega) | rfl | (and_intros <;> first | omega | assumption | decide | exact all_len fun _ => rfl), ?_⟩
    obtain ⟨y2, hc3, hm⟩ := bd hm
    refine RunCall_pure (fun _ => ref_GreatImage_ok p1 _ hc3) (by first | trivial | exact dst_ok rfl) (by first | trivial | (intro _; first | trivial | simp [need]) | simp [need]) rfl rfl ?_
    simp only [bR, bT, tab, bX, reduceIte, ↓reduceIte, reduceCtorEq, Int.reduceToNat, Nat.reduceDiv, Nat.reduceMod, Nat.reduceLT, Nat.reduceLeDiff, Nat.reduceAdd, Nat.reduceSub, Nat.reduceMul, Nat.reduceEqDiff, Nat.reduceBEq, Nat.reduceBNe, Nat.reduceGT]
    repeat refine ⟨by first | omega | assumption | decide | exact all_len fun _ => rfl | (intro _; omega) | rfl | (and_intros <;> first | omega | assumption | decide | exact all_len fun _ => rfl), ?_⟩
    refine hk _ _ ?_
    clear hk hp k kp
    by_cases h4 : y2 = true
    · rw [if_pos h4] at hm
      refine W_condt rfl (h4) ?_
      refine W_regF [1, 7] fun k kp hk hp => ?_
      simp only [bR, bT, tab, bX, reduceIte, ↓reduceIte, reduceCtorEq, Int.reduceToNat, Nat.reduceDiv, Nat.reduceMod, Nat.reduceLT, Nat.reduceLeDiff, Nat.reduceAdd, Nat.reduceSub, Nat.reduceMul, Nat.reduceEqDiff, Nat.reduceBEq, Nat.reduceBNe, Nat.reduceGT]
      repeat refine ⟨by first | omega | assumption | decide | exact all_len fun _ => rfl | (intro _; omega) | rfl | (and_intros <;> first | omega | assumption | decide | exact all_len fun _ => rfl), ?_⟩
      refine hk _ _ ?_
      clear hk hp k kp
      refine W_ret ?_
      refine KThen_r ?_
      refine KBody_ret [] ?_
      obtain rfl := Option.some.inj hm
      simp only [bF, bT, tab, bX, reduceIte, ↓reduceIte, reduceCtorEq, Int.reduceToNat, Nat.reduceDiv, Nat.reduceMod, Nat.reduceLT, Nat.reduceLeDiff, Nat.reduceAdd, Nat.reduceSub, Nat.reduceMul, Nat.reduceEqDiff, Nat.reduceBEq, Nat.reduceBNe, Nat.reduceGT] <;> first | done | rfl | (and_intros <;> first | rfl | omega | (simp; done))
    · rw [if_neg h4] at hm
      refine W_condf rfl (Bool.eq_false_iff.2 h4) ?_
      refine W_skip ?_
      refine KThen_n (hk2 _ _ ?_)
      refine W_regF [7, 8, 9] fun k kp hk hp => ?_
      simp only [bR, bT, tab, bX, reduceIte, ↓reduceIte, reduceCtorEq, Int.reduceToNat, Nat.reduceDiv, Nat.reduceMod, Nat.reduceLT, Nat.reduceLeDiff, Nat.reduceAdd, Nat.reduceSub, Nat.reduceMul, Nat.reduceEqDiff, Nat.reduceBEq, Nat.reduceBNe, Nat.reduceGT]
      repeat refine ⟨by first | omega | assumption | decide | exact all_len fun _ => rfl | (intro _; omega) | rfl | (and_intros <;> first | omega | assumption | decide | exact all_len fun _ => rfl), ?_⟩
      obtain ⟨y3, hc5, hm⟩ := bd hm
      refine RunCall_pure (fun _ => ref_CopyImage_ok p1 _ hc5) (by first | trivial | exact dst_ok rfl) (by first | trivial | (intro _; first | trivial | simp [need]) | simp [need]) rfl rfl ?_
      simp only [bR, bT, tab, bX, reduceIte, ↓reduceIte, reduceCtorEq, Int.reduceToNat, Nat.reduceDiv, Nat.reduceMod, Nat.reduceLT, Nat.reduceLeDiff, Nat.reduceAdd, Nat.reduceSub, Nat.reduceMul, Nat.reduceEqDiff, Nat.reduceBEq, Nat.reduceBNe, Nat.reduceGT]
      repeat refine ⟨by first | omega | assumption | decide | exact all_len fun _ => rfl | (intro _; omega) | rfl | (and_intros <;> first | omega | assumption | decide | exact all_len fun _ => rfl), ?_⟩
      refine hk _ _ ?_
      clear hk hp k kp
      refine W_anyF [1, 3, 10, 11, 12, 13, 14, 15, 16, 17, 18, 19, 20, 21, 22, 23, 24, 25, 26, 27, 28] (by kernel_rfl) [0, 1, 0, 7, 15, 31, 63, 127, 255, 63, 575, 2047, 4095, 8191, 16383, 32767, 32767, 131071, 262143, 524287] [false, false, false, true, true, true, false, false, false, false, false, true, true, true, true, false, false, true, true, true] (by kernel_rfl) fun k hk => ?_
      simp only [bA, bT, tab, bX, reduceIte, ↓reduceIte, reduceCtorEq, Int.reduceToNat, Nat.reduceDiv, Nat.reduceMod, Nat.reduceLT, Nat.reduceLeDiff, Nat.reduceAdd, Nat.reduceSub, Nat.reduceMul, Nat.reduceEqDiff, Nat.reduceBEq, Nat.reduceBNe, Nat.reduceGT]
      repeat refine ⟨by first | omega | assumption | decide | exact all_len fun _ => rfl | (intro _; omega) | rfl | (and_intros <;> first | omega | assumption | decide | exact all_len fun _ => rfl), ?_⟩
      obtain ⟨y4, hc6, hm⟩ := bd hm
      refine AnyCall_pure (fun _ => code_Check_ok (y3) _ hc6) (by first | trivial | exact dst_ok rfl) (by first | trivial | (intro _; first | trivial | simp [need]) | simp [need]) rfl (fun _ => rfl) ?_
      simp only [bA, bT, tab, bX, reduceIte, ↓reduceIte, reduceCtorEq, Int.reduceToNat, Nat.reduceDiv, Nat.reduceMod, Nat.reduceLT, Nat.reduceLeDiff, Nat.reduceAdd, Nat.reduceSub, Nat.reduceMul, Nat.reduceEqDiff, Nat.reduceBEq, Nat.reduceBNe, Nat.reduceGT]
      repeat refine ⟨by first | omega | assumption | decide | exact all_len fun _ => rfl | (intro _; omega) | rfl | (and_intros <;> first | omega | assumption | decide | exact all_len fun _ => rfl), ?_⟩
      obtain ⟨y5, hc7, hm⟩ := bd hm
      refine AnyCall_pure (fun _ => ref_ImageFault_ok p1 _ hc7) (by first | trivial | exact dst_ok rfl) (by first | trivial | (intro _; first | trivial | simp [need]) | simp [need]) rfl (fun _ => rfl) ?_
      by_cases h8 : ((y4).code) = ((y5).code) ∧ ((y4).at_) = ((y5).at_)
      · rw [if_pos h8] at hm
        have h8b : ((((y4).code) == ((y5).code)) && (((y4).at_) == ((y5).at_))) = true := by simpa [Bool.and_eq_true] using h8
        simp only [bA, bT, tab, bX, reduceIte, ↓reduceIte, reduceCtorEq, Int.reduceToNat, Nat.reduceDiv, Nat.reduceMod, Nat.reduceLT, Nat.reduceLeDiff, Nat.reduceAdd, Nat.reduceSub, Nat.reduceMul, Nat.reduceEqDiff, Nat.reduceBEq, Nat.reduceBNe, Nat.reduceGT, h8b]
        repeat refine ⟨by first | omega | assumption | decide | exact all_len fun _ => rfl | (intro _; omega) | rfl | (and_intros <;> first | omega | assumption | decide | exact all_len fun _ => rfl), ?_⟩
        obtain ⟨y6, hc9, hm⟩ := bd hm
        refine AnyCall_pure (fun _ => code_Cost_ok ((y3).code) _ hc9) (by first | trivial | exact dst_ok rfl) (by first | trivial | (intro _; first | trivial | simp [need]) | simp [need]) rfl (fun _ => rfl) ?_
        simp only [bA, bT, tab, bX, reduceIte, ↓reduceIte, reduceCtorEq, Int.reduceToNat, Nat.reduceDiv, Nat.reduceMod, Nat.reduceLT, Nat.reduceLeDiff, Nat.reduceAdd, Nat.reduceSub, Nat.reduceMul, Nat.reduceEqDiff, Nat.reduceBEq, Nat.reduceBNe, Nat.reduceGT, h8b]
        repeat refine ⟨by first | omega | assumption | decide | exact all_len fun _ => rfl | (intro _; omega) | rfl | (and_intros <;> first | omega | assumption | decide | exact all_len fun _ => rfl), ?_⟩
        obtain ⟨y7, hc10, hm⟩ := bd hm
        refine AnyCall_pure (fun _ => ref_CostOf_ok p1.code _ hc10) (by first | trivial | exact dst_ok rfl) (by first | trivial | (intro _; first | trivial | simp [need]) | simp [need]) rfl (fun _ => rfl) ?_
        by_cases h11 : y6 = y7
        · rw [if_pos h11] at hm
          have h11b : (y6 == y7) = true := beq_iff_eq.2 h11
          simp only [bA, bT, tab, bX, reduceIte, ↓reduceIte, reduceCtorEq, Int.reduceToNat, Nat.reduceDiv, Nat.reduceMod, Nat.reduceLT, Nat.reduceLeDiff, Nat.reduceAdd, Nat.reduceSub, Nat.reduceMul, Nat.reduceEqDiff, Nat.reduceBEq, Nat.reduceBNe, Nat.reduceGT, h8b, h11b]
          repeat refine ⟨by first | omega | assumption | decide | exact all_len fun _ => rfl | (intro _; omega) | rfl | (and_intros <;> first | omega | assumption | decide | exact all_len fun _ => rfl), ?_⟩
          obtain ⟨y8, hc12, hm⟩ := bd hm
          refine AnyCall_pure (fun _ => ref_SameImage_ok (y3) p1 _ hc12) (by first | trivial | exact dst_ok rfl) (by first | trivial | (intro _; first | trivial | simp [need]) | simp [need]) rfl (fun _ => rfl) ?_
          simp only [bA, bT, tab, bX, reduceIte, ↓reduceIte, reduceCtorEq, Int.reduceToNat, Nat.reduceDiv, Nat.reduceMod, Nat.reduceLT, Nat.reduceLeDiff, Nat.reduceAdd, Nat.reduceSub, Nat.reduceMul, Nat.reduceEqDiff, Nat.reduceBEq, Nat.reduceBNe, Nat.reduceGT, h8b, h11b]
          repeat refine ⟨by first | omega | assumption | decide | exact all_len fun _ => rfl | (intro _; omega) | rfl | (and_intros <;> first | omega | assumption | decide | exact all_len fun _ => rfl), ?_⟩
          refine hk _ _ ?_
          clear hk k
          refine W_ret ?_
          refine KBody_ret [] ?_
          obtain rfl := Option.some.inj hm
          simp only [bF, bT, tab, bX, reduceIte, ↓reduceIte, reduceCtorEq, Int.reduceToNat, Nat.reduceDiv, Nat.reduceMod, Nat.reduceLT, Nat.reduceLeDiff, Nat.reduceAdd, Nat.reduceSub, Nat.reduceMul, Nat.reduceEqDiff, Nat.reduceBEq, Nat.reduceBNe, Nat.reduceGT] <;> first | done | rfl | (and_intros <;> first | rfl | omega | (simp; done))
        · rw [if_neg h11] at hm
          have h11b : (y6 == y7) = false := beq_eq_false_iff_ne.2 h11
          simp only [bA, bT, tab, bX, reduceIte, ↓reduceIte, reduceCtorEq, Int.reduceToNat, Nat.reduceDiv, Nat.reduceMod, Nat.reduceLT, Nat.reduceLeDiff, Nat.reduceAdd, Nat.reduceSub, Nat.reduceMul, Nat.reduceEqDiff, Nat.reduceBEq, Nat.reduceBNe, Nat.reduceGT, h8b, h11b]
          repeat refine ⟨by first | omega | assumption | decide | exact all_len fun _ => rfl | (intro _; omega) | rfl | (and_intros <;> first | omega | assumption | decide | exact all_len fun _ => rfl), ?_⟩
          refine hk _ _ ?_
          clear hk k
          refine W_ret ?_
          refine KBody_ret [] ?_
          obtain rfl := Option.some.inj hm
          simp only [bF, bT, tab, bX, reduceIte, ↓reduceIte, reduceCtorEq, Int.reduceToNat, Nat.reduceDiv, Nat.reduceMod, Nat.reduceLT, Nat.reduceLeDiff, Nat.reduceAdd, Nat.reduceSub, Nat.reduceMul, Nat.reduceEqDiff, Nat.reduceBEq, Nat.reduceBNe, Nat.reduceGT] <;> first | done | rfl | (and_intros <;> first | rfl | omega | (simp; done))
      · rw [if_neg h8] at hm
        have h8b : ((((y4).code) == ((y5).code)) && (((y4).at_) == ((y5).at_))) = false := Bool.eq_false_iff.2 (fun hh => h8 (by simpa [Bool.and_eq_true] using hh))
        simp only [bA, bT, tab, bX, reduceIte, ↓reduceIte, reduceCtorEq, Int.reduceToNat, Nat.reduceDiv, Nat.reduceMod, Nat.reduceLT, Nat.reduceLeDiff, Nat.reduceAdd, Nat.reduceSub, Nat.reduceMul, Nat.reduceEqDiff, Nat.reduceBEq, Nat.reduceBNe, Nat.reduceGT, h8b]
        repeat refine ⟨by first | omega | assumption | decide | exact all_len fun _ => rfl | (intro _; omega) | rfl | (and_intros <;> first | omega | assumption | decide | exact all_len fun _ => rfl), ?_⟩
        refine hk _ _ ?_
        clear hk k
        refine W_ret ?_
        refine KBody_ret [] ?_
        obtain rfl := Option.some.inj hm
        simp only [bF, bT, tab, bX, reduceIte, ↓reduceIte, reduceCtorEq, Int.reduceToNat, Nat.reduceDiv, Nat.reduceMod, Nat.reduceLT, Nat.reduceLeDiff, Nat.reduceAdd, Nat.reduceSub, Nat.reduceMul, Nat.reduceEqDiff, Nat.reduceBEq, Nat.reduceBNe, Nat.reduceGT] <;> first | done | rfl | (and_intros <;> first | rfl | omega | (simp; done))
  · rw [if_neg h2] at hm
    refine W_condt rfl (by rw [show y1 = false from (Bool.eq_false_iff.2 h2)]; rfl) ?_
    refine W_regF [1, 5] fun k kp hk hp => ?_
    simp only [bR, bT, tab, bX, reduceIte, ↓reduceIte, reduceCtorEq, Int.reduceToNat, Nat.reduceDiv, Nat.reduceMod, Nat.reduceLT, Nat.reduceLeDiff, Nat.reduceAdd, Nat.reduceSub, Nat.reduceMul, Nat.reduceEqDiff, Nat.reduceBEq, Nat.reduceBNe, Nat.reduceGT]
    repeat refine ⟨by first | omega | assumption | decide | exact all_len fun _ => rfl | (intro _; omega) | rfl | (and_intros <;> first | omega | assumption | decide | exact all_len fun _ => rfl), ?_⟩
    refine hk _ _ ?_
    clear hk hp k kp
    refine W_ret ?_
    refine KThen_r ?_
    refine KBody_ret [] ?_
    obtain rfl := Option.some.inj hm
    simp only [bF, bT, tab, bX, reduceIte, ↓reduceIte, reduceCtorEq, Int.reduceToNat, Nat.reduceDiv, Nat.reduceMod, Nat.reduceLT, Nat.reduceLeDiff, Nat.reduceAdd, Nat.reduceSub, Nat.reduceMul, Nat.reduceEqDiff, Nat.reduceBEq, Nat.reduceBNe, Nat.reduceGT] <;> first | done | rfl | (and_intros <;> first | rfl | omega | (simp; done))
end Pam
