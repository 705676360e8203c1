/- What the parts of code.Check and of the document that look at instructions come to: the same. -/
import Derived.Test.YtkdminbbajdjpaaCodeCostsFun1
import Derived.Test.YtkdminbbajdjpaaWide1
set_option linter.all false
namespace Pam
open Go

def regOk (regs r : Int) : Bool := decide (0 ≤ r ∧ r < regs)

theorem index_eq (l : List Int) (j : Tjudge) (hl : l.length ≤ 9000000) :
    slices_IndexFunc_int_int l j = some (match upto l.length (fun i => if regOk j.m_.regs (l.getD i default) then none else some (i : Int)) () with | .inr i => i | .inl _ => -1) := by
  unfold slices_IndexFunc_int_int
  rw [loop_upto l.length (fun i => if regOk j.m_.regs (l.getD i default) then none else some (i : Int)) ()]
  · rcases upto_cases l.length (fun i => if regOk j.m_.regs (l.getD i default) then none else some (i : Int)) () with ⟨h, _⟩ | ⟨i, z, _, _, h⟩
    · rw [h]; rfl
    · rw [h]; rfl
  · intro i hi
    unfold slices_IndexFunc_int_int_l1
    rw [if_pos (ltI hi), if_pos (inI hi), Int.toNat_natCast, wrs i (by omega)]
    unfold code_judge_reg_1
    by_cases h1 : l.getD i default < 0
    · rw [if_pos h1]; simp only [Option.bind_some, if_true]; rw [if_neg (by simp only [regOk, decide_eq_true_eq]; omega)]
    · rw [if_neg h1]; simp only [Option.bind_some]
      by_cases h2 : l.getD i default ≥ j.m_.regs
      · rw [if_pos (decide_eq_true h2), if_neg (by simp only [regOk, decide_eq_true_eq]; omega)]
      · rw [if_neg (by simp only [decide_eq_true_eq]; exact h2), if_pos (by simp only [regOk, decide_eq_true_eq]; omega)]
  · unfold slices_IndexFunc_int_int_l1
    rw [if_neg (not_ltI _)]

theorem reg_eq (j : Tjudge) (l : List Int) (hl : l.length ≤ 9000000) : code_judge_reg j l = some (l.all (regOk j.m_.regs)) := by
  unfold code_judge_reg slices_ContainsFunc_int_int
  rw [index_eq l j hl, all_getD]
  rcases upto_cases l.length (fun i => if regOk j.m_.regs (l.getD i default) then none else some (i : Int)) () with ⟨h, h'⟩ | ⟨i, z, hi, hf, h⟩
  · rw [h]
    have : ∀ i, i < l.length → regOk j.m_.regs (l.getD i default) = true := fun i hi => by have := h' i hi; simpa using this
    rw [decide_eq_true this]; rfl
  · rw [h]
    have hn : ¬ ∀ i, i < l.length → regOk j.m_.regs (l.getD i default) = true := fun k => by rw [if_pos (k i hi)] at hf; cases hf
    rw [decide_eq_false hn]
    have : z = i := by split at hf <;> simp_all
    subst this
    simp

theorem regsOK_eq (m : TImage) (l : List Int) (hl : l.length ≤ 9000000) : ref_regsOK m l = some (l.all (regOk m.regs)) := by
  unfold ref_regsOK
  rw [loop_upto l.length (fun i => if regOk m.regs (l.getD i default) then none else some false) ()]
  · rw [all_getD]
    rcases upto_cases l.length (fun i => if regOk m.regs (l.getD i default) then none else some false) () with ⟨h, h'⟩ | ⟨i, z, hi, hf, h⟩
    · rw [h]
      have : ∀ i, i < l.length → regOk m.regs (l.getD i default) = true := fun i hi => by have := h' i hi; simpa using this
      rw [decide_eq_true this]; rfl
    · rw [h]
      have hn : ¬ ∀ i, i < l.length → regOk m.regs (l.getD i default) = true := fun k => by rw [if_pos (k i hi)] at hf; cases hf
      rw [decide_eq_false hn]
      have : z = false := by split at hf <;> simp_all
      subst this; rfl
  · intro i hi
    unfold ref_regsOK_l1
    rw [if_pos (ltI hi), if_pos (inI hi), if_pos (inI hi), Int.toNat_natCast, wrs i (by omega)]
    by_cases h1 : l.getD i default < 0
    · rw [if_pos h1, if_neg (by simp only [regOk, decide_eq_true_eq]; omega)]
    · rw [if_neg h1]
      by_cases h2 : l.getD i default ≥ m.regs
      · rw [if_pos h2, if_neg (by simp only [regOk, decide_eq_true_eq]; omega)]
      · rw [if_neg h2, if_pos (by simp only [regOk, decide_eq_true_eq]; omega)]
  · unfold ref_regsOK_l1
    rw [if_neg (not_ltI _)]

def cellsOk (cells a n : Int) : Bool := decide (1 ≤ n ∧ n ≤ cells ∧ 0 ≤ a ∧ a ≤ cells - n)
theorem cells_eq (j : Tjudge) (a n : Int) (h1 : 1 ≤ j.m_.cells) (h2 : j.m_.cells ≤ 6000) : code_judge_cells j a n = some (cellsOk j.m_.cells a n) := by
  unfold code_judge_cells cellsOk
  by_cases a1 : n ≥ 1
  · rw [if_pos a1]
    by_cases a2 : n ≤ j.m_.cells
    · rw [if_pos a2, wr (by omega) (by omega)]
      by_cases a3 : a ≥ 0
      · rw [if_pos a3]; congr 1; rw [Bool.eq_iff_iff]; simp only [decide_eq_true_eq]; omega
      · rw [if_neg a3]; congr 1; symm; rw [decide_eq_false_iff_not]; omega
    · rw [if_neg a2]; congr 1; symm; rw [decide_eq_false_iff_not]; omega
  · rw [if_neg a1]; congr 1; symm; rw [decide_eq_false_iff_not]; omega

/-- how many an operator takes -/
def takes (k : Int) : Int := if 1 ≤ k ∧ k ≤ 12 then 2 else if k = 13 ∨ k = 14 then 1 else 0
theorem op_eq (k : Int) : ∃ a b, kinds_Op k = some (a, b, takes k) := by
  unfold kinds_Op takes
  repeat' split
  all_goals first
    | exact ⟨_, _, rfl⟩
    | (exfalso; omega)
theorem opOf_eq (k : Int) : ∃ a b, ref_OpOf k = some (a, b, takes k) := by
  unfold ref_OpOf
  by_cases h1 : k < 1
  · rw [if_pos h1]; exact ⟨0, 0, by unfold takes; rw [if_neg (by omega), if_neg (by omega)]⟩
  · rw [if_neg h1]
    by_cases h2 : k > 14
    · rw [if_pos h2]; exact ⟨0, 0, by unfold takes; rw [if_neg (by omega), if_neg (by omega)]⟩
    · rw [if_neg h2]
      have hg : (0 ≤ k ∧ k < (([63, 105, 105, 105, 105, 105, 105, 105, 105, 105, 98, 98, 98, 105, 98] : List UInt8).length : Int)) ∧ (0 ≤ k ∧ k < (([63, 105, 105, 105, 105, 105, 105, 105, 98, 98, 98, 98, 98, 105, 98] : List UInt8).length : Int)) := by
        simp only [List.length_cons, List.length_nil]; omega
      by_cases h3 : k ≥ 13
      · rw [if_pos h3]; unfold ref_OpOf_j1; rw [if_pos hg]; exact ⟨_, _, by unfold takes; rw [if_neg (by omega), if_pos (by omega)]⟩
      · rw [if_neg h3]; unfold ref_OpOf_j1; rw [if_pos hg]; exact ⟨_, _, by unfold takes; rw [if_pos (by omega)]⟩

/-- both look at an instruction alike -/
theorem fits_eq (m : TImage) (x : TIns) (h1 : 1 ≤ m.cells) (h2 : m.cells ≤ 6000) : ∃ b, code_judge_fits (Tjudge.mk m) x = some b ∧ ref_insOK m x = some b := by
  obtain ⟨a, b, e1⟩ := op_eq x.k
  obtain ⟨a', b', e2⟩ := opOf_eq x.k
  have r1 : ∀ l : List Int, l.length ≤ 9000000 → code_judge_reg (Tjudge.mk m) l = some (l.all (regOk m.regs)) := fun l hl => reg_eq _ l hl
  have r2 : ∀ l : List Int, l.length ≤ 9000000 → ref_regsOK m l = some (l.all (regOk m.regs)) := fun l hl => regsOK_eq _ l hl
  have c1 : ∀ a n, code_judge_cells (Tjudge.mk m) a n = some (cellsOk m.cells a n) := fun a n => cells_eq _ a n h1 h2
  unfold code_judge_fits ref_insOK
  rw [e1, e2]
  simp only [Option.bind_some]
  unfold code_judge_fits_j1 ref_insOK_j1 code_judge_fits_j2 ref_insOK_j2
  have q1 := r1 (lit [x.r_]) (by simp [lit])
  have q2 := r1 (lit [x.r_, x.a]) (by simp [lit])
  have q3 := r1 (lit [x.r_, x.a, x.b]) (by simp [lit])
  have p1 := r2 (lit [x.r_]) (by simp [lit])
  have p2 := r2 (lit [x.r_, x.a]) (by simp [lit])
  have p3 := r2 (lit [x.r_, x.a, x.b]) (by simp [lit])
  rw [q1, q2, q3, p1, p2, p3]
  simp only [Option.bind_some, c1]
  generalize (lit [x.r_]).all (regOk m.regs) = g1
  generalize (lit [x.r_, x.a]).all (regOk m.regs) = g2
  generalize (lit [x.r_, x.a, x.b]).all (regOk m.regs) = g3
  have k1 : (if x.n ≥ 0 then some (decide (x.n < m.cells)) else some false) = some (cellsOk m.cells x.n 1) := by
    unfold cellsOk
    split
    · congr 1; rw [Bool.eq_iff_iff]; simp only [decide_eq_true_eq]; omega
    · congr 1; symm; rw [decide_eq_false_iff_not]; omega
  have k2 : (if x.n ≥ 0 then if x.n < m.cells then if x.b ≥ 1 then some (decide (x.b ≤ IntKind.wrap .i64 (m.cells - x.n))) else some false else some false else some false) = some (cellsOk m.cells x.n x.b) := by
    unfold cellsOk
    split
    · split
      · split
        · rw [wr (by omega) (by omega)]; congr 1; rw [Bool.eq_iff_iff]; simp only [decide_eq_true_eq]; omega
        · congr 1; symm; rw [decide_eq_false_iff_not]; omega
      · congr 1; symm; rw [decide_eq_false_iff_not]; omega
    · congr 1; symm; rw [decide_eq_false_iff_not]; omega
  rw [k1, k2]
  generalize cellsOk m.cells x.n 1 = g4
  generalize cellsOk m.cells x.n x.b = g5
  have key : ∀ X : Option Bool, X.isSome = true → ∃ b, X = some b ∧ X = some b := fun X h => by
    obtain ⟨b, hb⟩ := Option.isSome_iff_exists.1 h
    exact ⟨b, hb, hb⟩
  refine key _ ?_
  simp only [apply_ite Option.isSome, Option.isSome_some, ite_self]
end Pam

/- What code costs: the program and the document reckon the same. -/
namespace Pam
open Go

/-- what code costs, so much before, so many times, within a loop or not -/
def costL (n times one : Int) : List TIns → Int
  | [] => if one > 0 then 0 else n
  | x :: l =>
    if x.op = 10 then (if times > 1 ∨ one > 0 ∨ x.n < 1 ∨ x.n > 300 then 0 else costL (n + times) x.n 1 l)
    else if x.op = 11 then (if one = 0 then 0 else costL (n + times) 1 0 l)
    else costL (n + times) times one l

theorem code_from (l : List TIns) (hl : l.length ≤ 9000000) : ∀ (k i : Nat) (n times one : Int), i + k = l.length → 0 ≤ n → n ≤ 300 * i → 1 ≤ times → times ≤ 300 →
    (loop (fun (x11, x12, x13, x14) => code_Cost_l1 l x11 x12 x13 x14) (n, times, one, (i : Int))).bind (Sum.elim (fun (z15, z16) => code_Cost_j1 z15 z16) (fun z17 => some z17)) = some (costL n times one (l.drop i))
  | 0, i, n, times, one, hi, _, _, _, _ => by
    have hi : i = l.length := by omega
    subst hi
    rw [loop_done (o := .inl (n, one)) (by simp only [code_Cost_l1]; rw [if_neg (not_ltI _)]), List.drop_length]
    simp only [Option.bind_some, Sum.elim_inl, code_Cost_j1, costL]
    split <;> rfl
  | k + 1, i, n, times, one, hi, h1, h2, h3, h4 => by
    have hlt : i < l.length := by omega
    rw [drop_cons l i hlt]
    have hw : IntKind.wrap .i64 (n + times) = n + times := wr (by omega) (by omega)
    have hb : code_Cost_l1 l n times one i = (if (l.getD i default).op = 10 then (if times > 1 ∨ one > 0 ∨ (l.getD i default).n < 1 ∨ (l.getD i default).n > 300 then some (.inr (.inr 0)) else some (.inl (n + times, (l.getD i default).n, 1, ((i + 1 : Nat) : Int))))
        else if (l.getD i default).op = 11 then (if one = 0 then some (.inr (.inr 0)) else some (.inl (n + times, 1, 0, ((i + 1 : Nat) : Int)))) else some (.inl (n + times, times, one, ((i + 1 : Nat) : Int)))) := by
      unfold code_Cost_l1
      rw [if_pos (ltI hlt), if_pos (inI hlt), Int.toNat_natCast, hw, wrs i (by omega)]
      by_cases a1 : (l.getD i default).op = 10
      · rw [if_pos a1, if_pos a1]
        by_cases b1 : times > 1
        · rw [if_pos b1, if_pos (.inl b1)]
        · rw [if_neg b1]
          by_cases b2 : one > 0
          · rw [if_pos b2, if_pos (.inr (.inl b2))]
          · rw [if_neg b2]
            by_cases b3 : (l.getD i default).n < 1
            · rw [if_pos b3, if_pos (.inr (.inr (.inl b3)))]
            · rw [if_neg b3]
              by_cases b4 : (l.getD i default).n > 300
              · rw [if_pos b4, if_pos (.inr (.inr (.inr b4)))]
              · rw [if_neg b4, if_neg (by omega)]
      · rw [if_neg a1, if_neg a1]
    generalize l.getD i default = x at hb ⊢
    have ih := fun n' t' o' h1 h2 h3 h4 => code_from l hl k (i + 1) n' t' o' (by omega) h1 h2 h3 h4
    simp only [costL]
    by_cases a1 : x.op = 10
    · rw [if_pos a1] at hb ⊢
      by_cases b1 : times > 1 ∨ one > 0 ∨ x.n < 1 ∨ x.n > 300
      · rw [if_pos b1] at hb ⊢; rw [loop_done (by simpa using hb)]; rfl
      · rw [if_neg b1] at hb ⊢; rw [loop_next (by simpa using hb)]; exact ih _ _ _ (by omega) (by omega) (by omega) (by omega)
    · rw [if_neg a1] at hb ⊢
      by_cases a2 : x.op = 11
      · rw [if_pos a2] at hb ⊢
        by_cases b1 : one = 0
        · rw [if_pos b1] at hb ⊢; rw [loop_done (by simpa using hb)]; rfl
        · rw [if_neg b1] at hb ⊢; rw [loop_next (by simpa using hb)]; exact ih _ _ _ (by omega) (by omega) (by omega) (by omega)
      · rw [if_neg a2] at hb ⊢; rw [loop_next (by simpa using hb)]; exact ih _ _ _ (by omega) (by omega) (by omega) (by omega)

theorem cost_eq (l : List TIns) (hl : l.length ≤ 9000000) : code_Cost l = some (costL 0 1 0 l) := by
  have := code_from l hl l.length 0 0 1 0 (by omega) (by omega) (by omega) (by omega) (by omega)
  unfold code_Cost
  simpa using this

/-- where a loop ends -/
theorem end_from (l : List TIns) (hl : l.length ≤ 9000000) : ∀ (k j : Nat), j + k = l.length →
    (loop (fun x13 => ref_CostOf_l2 l x13) (j : Int) = some (.inl ((l.length : Nat) : Int)) ∧ ∀ n N, costL n N 1 (l.drop j) = 0) ∨
    (loop (fun x13 => ref_CostOf_l2 l x13) (j : Int) = some (.inr 0) ∧ ∀ n N, costL n N 1 (l.drop j) = 0) ∨
    ∃ e : Nat, j ≤ e ∧ e < l.length ∧ loop (fun x13 => ref_CostOf_l2 l x13) (j : Int) = some (.inl (e : Int)) ∧ ∀ n N, costL n N 1 (l.drop j) = costL (n + N * (e - j + 1)) 1 0 (l.drop (e + 1))
  | 0, j, hj => by
    have hj : j = l.length := by omega
    subst hj
    left
    refine ⟨loop_done (by simp only [ref_CostOf_l2]; rw [if_neg (not_ltI _)]), fun n N => ?_⟩
    rw [List.drop_length]; simp [costL]
  | k + 1, j, hj => by
    have hlt : j < l.length := by omega
    have hb : ref_CostOf_l2 l j = (if ¬ (l.getD j default).op = 11 then (if (l.getD j default).op = 10 then some (.inr (.inr 0)) else some (.inl ((j + 1 : Nat) : Int))) else some (.inr (.inl (j : Int)))) := by
      unfold ref_CostOf_l2
      rw [if_pos (ltI hlt), if_pos (inI hlt), Int.toNat_natCast, wrs j (by omega)]
    rw [drop_cons l j hlt]
    generalize l.getD j default = x at hb ⊢
    simp only [costL]
    by_cases a1 : x.op = 11
    · rw [if_neg (by simp [a1])] at hb
      refine .inr (.inr ⟨j, Nat.le_refl _, hlt, loop_done hb, fun n N => ?_⟩)
      rw [if_neg (by omega), if_pos a1, if_neg (by omega)]
      congr 1
      rw [show ((j : Int) - j + 1) = 1 by omega, Int.mul_one]
    · rw [if_pos a1] at hb
      by_cases a2 : x.op = 10
      · rw [if_pos a2] at hb
        refine .inr (.inl ⟨loop_done hb, fun n N => ?_⟩)
        rw [if_pos a2, if_pos (by omega)]
      · rw [if_neg a2] at hb
        rw [loop_next hb]
        rcases end_from l hl k (j + 1) (by omega) with ⟨h1, h2⟩ | ⟨h1, h2⟩ | ⟨e, h0, h1, h2, h3⟩
        · exact .inl ⟨h1, fun n N => by rw [if_neg a2, if_neg a1]; exact h2 _ _⟩
        · exact .inr (.inl ⟨h1, fun n N => by rw [if_neg a2, if_neg a1]; exact h2 _ _⟩)
        · refine .inr (.inr ⟨e, by omega, h1, h2, fun n N => ?_⟩)
          rw [if_neg a2, if_neg a1, h3]
          congr 1
          rw [show ((e : Int) - (j + 1 : Nat) + 1) = e - j by omega, Int.mul_add, Int.mul_one, Int.add_assoc]
          omega

theorem ref_from (l : List TIns) (hl : l.length ≤ 9000000) : ∀ (k i : Nat) (n : Int), i + k = l.length → 0 ≤ n → n ≤ 301 * i →
    (loop (fun (x6, x7) => ref_CostOf_l1 l x6 x7) (n, (i : Int))).bind (Sum.elim (fun z16 => ref_CostOf_j1 z16) (fun z17 => some z17)) = some (costL n 1 0 (l.drop i)) := by
  intro k
  induction k using Nat.strongRecOn with
  | _ k ih =>
    intro i n hi h1 h2
    cases k with
    | zero =>
      have hi : i = l.length := by omega
      subst hi
      rw [loop_done (o := .inl n) (by simp only [ref_CostOf_l1]; rw [if_neg (not_ltI _)]), List.drop_length]
      simp [ref_CostOf_j1, costL]
    | succ k =>
      have hlt : i < l.length := by omega
      have hw : IntKind.wrap .i64 (n + 1) = n + 1 := wr (by omega) (by omega)
      have hb : ref_CostOf_l1 l n i = (if (l.getD i default).op = 11 then some (.inr (.inr 0)) else if ¬ (l.getD i default).op = 10 then some (.inl (n + 1, ((i + 1 : Nat) : Int))) else
          (loop (fun x13 => ref_CostOf_l2 l x13) ((i + 1 : Nat) : Int)).bind (Sum.elim (fun z14 => ref_CostOf_j3 l n i z14) (fun z15 => some (.inr (.inr z15))))) := by
        unfold ref_CostOf_l1 ref_CostOf_j2
        rw [if_pos (ltI hlt), if_pos (inI hlt), Int.toNat_natCast, hw, wrs i (by omega)]
      have hd := drop_cons l i hlt
      have hj3 : ∀ z, ref_CostOf_j3 l n i z = (if z = (l.length : Int) then some (.inr (.inr 0)) else if (l.getD i default).n < 1 then some (.inr (.inr 0)) else if (l.getD i default).n > 300 then some (.inr (.inr 0)) else
          some (.inl (IntKind.wrap .i64 (n + 1 + IntKind.wrap .i64 ((l.getD i default).n * IntKind.wrap .i64 (z - i))), IntKind.wrap .i64 (z + 1)))) := by
        intro z; unfold ref_CostOf_j3 ref_CostOf_j2; rw [Int.toNat_natCast, hw]
      rw [hd]
      generalize l.getD i default = x at hb hj3 ⊢
      simp only [costL]
      by_cases a1 : x.op = 11
      · rw [if_pos a1] at hb
        rw [loop_done hb, if_neg (by omega), if_pos a1]; rfl
      · rw [if_neg a1] at hb
        by_cases a2 : x.op = 10
        · rw [if_neg (by simp [a2])] at hb
          rw [if_pos a2]
          rcases end_from l hl k (i + 1) (by omega) with ⟨e1, e2⟩ | ⟨e1, e2⟩ | ⟨e, e0, e1, e2, e3⟩
          · rw [e1] at hb
            simp only [Option.bind_some, Sum.elim_inl, hj3, if_true] at hb
            rw [loop_done hb]
            have : (if (1 : Int) > 1 ∨ (0 : Int) > 0 ∨ x.n < 1 ∨ x.n > 300 then (0 : Int) else costL (n + 1) x.n 1 (l.drop (i + 1))) = 0 := by split <;> first | rfl | exact e2 _ _
            rw [this]; rfl
          · rw [e1] at hb
            simp only [Option.bind_some, Sum.elim_inr] at hb
            rw [loop_done hb]
            have : (if (1 : Int) > 1 ∨ (0 : Int) > 0 ∨ x.n < 1 ∨ x.n > 300 then (0 : Int) else costL (n + 1) x.n 1 (l.drop (i + 1))) = 0 := by split <;> first | rfl | exact e2 _ _
            rw [this]; rfl
          · rw [e2] at hb
            simp only [Option.bind_some, Sum.elim_inl, hj3] at hb
            rw [if_neg (by omega)] at hb
            by_cases b1 : x.n < 1
            · rw [if_pos b1] at hb; rw [loop_done hb, if_pos (by omega)]; rfl
            · rw [if_neg b1] at hb
              by_cases b2 : x.n > 300
              · rw [if_pos b2] at hb; rw [loop_done hb, if_pos (by omega)]; rfl
              · rw [if_neg b2] at hb
                have m1 : 0 ≤ x.n * ((e : Int) - i) := Int.mul_nonneg (by omega) (by omega)
                have m2 : x.n * ((e : Int) - i) ≤ 300 * ((e : Int) - i) := Int.mul_le_mul_of_nonneg_right (by omega) (by omega)
                rw [wr (n := (e : Int) - i) (by omega) (by omega), wr (n := x.n * ((e : Int) - i)) (by omega) (by omega), wr (n := n + 1 + x.n * ((e : Int) - i)) (by omega) (by omega), wrs e (by omega)] at hb
                rw [loop_next hb, if_neg (by omega), e3]
                have := ih (l.length - (e + 1)) (by omega) (e + 1) (n + 1 + x.n * ((e : Int) - i)) (by omega) (by omega) (by omega)
                rw [this]
                congr 2
                rw [show ((e : Int) - (i + 1 : Nat) + 1) = e - i by omega]
        · rw [if_pos a2] at hb
          rw [loop_next hb, if_neg a2, if_neg a1]
          exact ih k (by omega) (i + 1) (n + 1) (by omega) (by omega) (by omega)

theorem costOf_eq (l : List TIns) (hl : l.length ≤ 9000000) : ref_CostOf l = some (costL 0 1 0 l) := by
  have := ref_from l hl l.length 0 0 (by omega) (by omega) (by omega)
  unfold ref_CostOf
  simpa using this
end Pam

/- What Cost and Check of the program and the document come to: the same. -/
namespace Pam
open Go

noncomputable def insOk (m : TImage) (x : TIns) : Bool := (code_judge_fits (Tjudge.mk m) x).getD false
theorem ins_eq (m : TImage) (x : TIns) (h1 : 1 ≤ m.cells) (h2 : m.cells ≤ 6000) : code_judge_fits (Tjudge.mk m) x = some (insOk m x) ∧ ref_insOK m x = some (insOk m x) := by
  obtain ⟨b, e1, e2⟩ := fits_eq m x h1 h2
  unfold insOk
  rw [e1, e2]
  exact ⟨rfl, rfl⟩

/-- a cell that is none -/
def outF (m : TImage) (l : List Int) (i : Nat) : Option TFault := if l.getD i default < 0 ∨ l.getD i default ≥ m.cells then some (TFault.mk 16 (-1)) else none
def outs (m : TImage) (l : List Int) : Option TFault := match upto l.length (outF m l) () with | .inr z => some z | .inl _ => none
def lists (m : TImage) (i : Nat) : List Int := (lit ([m.put, m.bools, m.get] : List (List Int))).getD i default
def F1 (m : TImage) : Unit ⊕ TFault := upto 3 (fun i => outs m (lists m i)) ()
noncomputable def F2 (m : TImage) : Unit ⊕ TFault := upto m.code.length (fun i => if insOk m (m.code.getD i default) then none else some (TFault.mk 4 i)) ()
def F3 (m : TImage) : TFault := if costL 0 1 0 m.code ≠ m.cost ∨ (costL 0 1 0 m.code = 0 ∧ (m.code.length : Int) > 0) then TFault.mk 18 (-1) else TFault.mk 0 0
noncomputable def imgF (m : TImage) : TFault :=
  if m.cells < 1 ∨ m.cells > 6000 ∨ m.regs < 1 ∨ m.regs > 40 then TFault.mk 13 (-1)
  else if (m.put.length : Int) > 6000 ∨ (m.bools.length : Int) > 6000 ∨ (m.get.length : Int) > 120000 ∨ (m.code.length : Int) > 200000 then TFault.mk 7 (-1)
  else match F1 m with
    | .inr z => z
    | .inl _ => match F2 m with
      | .inr z => z
      | .inl _ => F3 m

theorem lists_len (m : TImage) (h : m.put.length ≤ 9000000 ∧ m.bools.length ≤ 9000000 ∧ m.get.length ≤ 9000000) (i : Nat) : (lists m i).length ≤ 9000000 := by
  unfold lists lit
  match i with
  | 0 => exact h.1
  | 1 => exact h.2.1
  | 2 => exact h.2.2
  | i + 3 => exact Nat.zero_le _

theorem code_l3 (m : TImage) (x : Nat) (hx : x < 3) (hl : (lists m x).length ≤ 9000000) : loop (fun x12 => code_Check_l3 m x x12) 0 = some (upto (lists m x).length (outF m (lists m x)) ()) := by
  refine loop_upto _ _ _ (fun i hi => ?_) ?_
  · unfold code_Check_l3
    rw [Int.toNat_natCast, Int.toNat_natCast]
    show (if (i : Int) < ((lists m x).length : Int) then _ else _) = _
    rw [if_pos (ltI hi)]
    show (if 0 ≤ (i : Int) ∧ (i : Int) < ((lists m x).length : Int) then _ else _) = _
    rw [if_pos (inI hi), wrs i (by omega)]
    show (if (lists m x).getD i default < 0 then _ else if (lists m x).getD i default ≥ m.cells then _ else _) = _
    unfold outF
    by_cases a : (lists m x).getD i default < 0
    · rw [if_pos a, if_pos (.inl a)]
    · rw [if_neg a]
      by_cases b : (lists m x).getD i default ≥ m.cells
      · rw [if_pos b, if_pos (.inr b)]
      · rw [if_neg b, if_neg (by omega)]
  · unfold code_Check_l3
    rw [Int.toNat_natCast]
    exact if_neg (not_ltI (lists m x).length)

theorem ref_l3 (m : TImage) (x : Nat) (hx : x < 3) (hl : (lists m x).length ≤ 9000000) : loop (fun x23 => ref_ImageFault_l3 m x x23) 0 = some (upto (lists m x).length (outF m (lists m x)) ()) := by
  have h3 : 0 ≤ (x : Int) ∧ (x : Int) < 3 := by omega
  refine loop_upto _ _ _ (fun i hi => ?_) ?_
  · unfold ref_ImageFault_l3
    rw [if_pos h3, Int.toNat_natCast, Int.toNat_natCast]
    show (if (i : Int) < ((lists m x).length : Int) then (if (lists m x).getD i default < 0 then (if 0 ≤ (i : Int) ∧ (i : Int) < ((lists m x).length : Int) then _ else _) else (if 0 ≤ (i : Int) ∧ (i : Int) < ((lists m x).length : Int) then (if (lists m x).getD i default ≥ m.cells then _ else _) else _)) else _) = _
    rw [if_pos (ltI hi), if_pos (inI hi), if_pos (inI hi), wrs i (by omega)]
    unfold outF ref_F
    by_cases a : (lists m x).getD i default < 0
    · rw [if_pos a, if_pos (.inl a)]; rfl
    · rw [if_neg a]
      by_cases b : (lists m x).getD i default ≥ m.cells
      · rw [if_pos b, if_pos (.inr b)]; rfl
      · rw [if_neg b, if_neg (by omega)]
  · unfold ref_ImageFault_l3
    rw [if_pos h3, Int.toNat_natCast]
    exact if_neg (not_ltI (lists m x).length)

theorem code_l2 (m : TImage) (h : m.put.length ≤ 9000000 ∧ m.bools.length ≤ 9000000 ∧ m.get.length ≤ 9000000) : loop (fun x9 => code_Check_l2 m x9) 0 = some (F1 m) := by
  refine loop_upto 3 _ _ (fun i hi => ?_) ?_
  · unfold code_Check_l2
    have h3 : (i : Int) < 3 := by omega
    rw [if_pos h3, if_pos ⟨by omega, h3⟩, code_l3 m i hi (lists_len m h i)]
    unfold outs
    rcases upto_cases (lists m i).length (outF m (lists m i)) () with ⟨e, _⟩ | ⟨j, z, _, _, e⟩
    · rw [e]; simp only [Option.bind_some, Sum.elim_inl, code_Check_j3]; rw [wrs i (by omega)]
    · rw [e]; rfl
  · unfold code_Check_l2; rfl
theorem ref_l2 (m : TImage) (h : m.put.length ≤ 9000000 ∧ m.bools.length ≤ 9000000 ∧ m.get.length ≤ 9000000) : loop (fun x20 => ref_ImageFault_l2 m x20) 0 = some (F1 m) := by
  refine loop_upto 3 _ _ (fun i hi => ?_) ?_
  · unfold ref_ImageFault_l2
    have h3 : (i : Int) < 3 := by omega
    rw [if_pos h3, ref_l3 m i hi (lists_len m h i)]
    unfold outs
    rcases upto_cases (lists m i).length (outF m (lists m i)) () with ⟨e, _⟩ | ⟨j, z, _, _, e⟩
    · rw [e]; simp only [Option.bind_some, Sum.elim_inl, ref_ImageFault_j3]; rw [wrs i (by omega)]
    · rw [e]; rfl
  · unfold ref_ImageFault_l2; rfl

theorem code_l1 (m : TImage) (h1 : 1 ≤ m.cells) (h2 : m.cells ≤ 6000) (hl : m.code.length ≤ 9000000) : loop (fun x4 => code_Check_l1 m x4) 0 = some (F2 m) := by
  refine loop_upto _ _ _ (fun i hi => ?_) ?_
  · unfold code_Check_l1
    rw [if_pos (ltI hi), if_pos (inI hi), Int.toNat_natCast, (ins_eq m _ h1 h2).1, wrs i (by omega)]
    simp only [Option.bind_some]
    cases insOk m (m.code.getD i default) <;> rfl
  · unfold code_Check_l1; rw [if_neg (not_ltI _)]
theorem ref_l1 (m : TImage) (h1 : 1 ≤ m.cells) (h2 : m.cells ≤ 6000) (hl : m.code.length ≤ 9000000) : loop (fun x14 => ref_ImageFault_l1 m x14) 0 = some (F2 m) := by
  refine loop_upto _ _ _ (fun i hi => ?_) ?_
  · unfold ref_ImageFault_l1 ref_F
    rw [if_pos (ltI hi), if_pos (inI hi), Int.toNat_natCast, (ins_eq m _ h1 h2).2, wrs i (by omega)]
    simp only [Option.bind_some]
    cases insOk m (m.code.getD i default) <;> rfl
  · unfold ref_ImageFault_l1; rw [if_neg (not_ltI _)]

theorem check_eq (m : TImage) (hl : m.put.length ≤ 9000000 ∧ m.bools.length ≤ 9000000 ∧ m.get.length ≤ 9000000 ∧ m.code.length ≤ 9000000) : code_Check m = some (imgF m) := by
  unfold code_Check imgF
  by_cases c1 : m.cells < 1
  · rw [if_pos c1, if_pos (by omega)]
  rw [if_neg c1]
  by_cases c2 : m.cells > 6000
  · rw [if_pos c2, if_pos (by omega)]
  rw [if_neg c2]
  by_cases c3 : m.regs < 1
  · rw [if_pos c3, if_pos (by omega)]
  rw [if_neg c3]
  by_cases c4 : m.regs > 40
  · rw [if_pos c4, if_pos (by omega)]
  rw [if_neg c4, if_neg (show ¬ (m.cells < 1 ∨ m.cells > 6000 ∨ m.regs < 1 ∨ m.regs > 40) by omega)]
  by_cases c5 : (m.put.length : Int) > 6000
  · rw [if_pos c5, if_pos (by omega)]
  rw [if_neg c5]
  by_cases c6 : (m.bools.length : Int) > 6000
  · rw [if_pos c6, if_pos (by omega)]
  rw [if_neg c6]
  by_cases c7 : (m.get.length : Int) > 120000
  · rw [if_pos c7, if_pos (by omega)]
  rw [if_neg c7]
  by_cases c8 : (m.code.length : Int) > 200000
  · rw [if_pos c8, if_pos (by omega)]
  rw [if_neg c8, if_neg (show ¬ ((m.put.length : Int) > 6000 ∨ (m.bools.length : Int) > 6000 ∨ (m.get.length : Int) > 120000 ∨ (m.code.length : Int) > 200000) by omega)]
  rw [code_l2 m ⟨hl.1, hl.2.1, hl.2.2.1⟩]
  cases F1 m with
  | inr z => rfl
  | inl u =>
    simp only [Option.bind_some, Sum.elim_inl]
    unfold code_Check_j1
    rw [code_l1 m (by omega) (by omega) hl.2.2.2]
    cases F2 m with
    | inr z => rfl
    | inl u =>
      simp only [Option.bind_some, Sum.elim_inl]
      unfold code_Check_j2 F3
      rw [cost_eq _ hl.2.2.2]
      simp only [Option.bind_some]
      generalize costL 0 1 0 m.code = c
      generalize (m.code.length : Int) = n
      by_cases d1 : c = 0
      · rw [if_pos d1]
        by_cases d2 : n > 0
        · rw [if_pos d2, if_pos (.inr ⟨d1, d2⟩)]
        · rw [if_neg d2]
          by_cases d3 : c = m.cost
          · rw [if_neg (by simpa using d3), if_neg (by simp only [ne_eq, not_or, Decidable.not_not]; exact ⟨d3, fun h => d2 h.2⟩)]
          · rw [if_pos d3, if_pos (.inl d3)]
      · rw [if_neg d1]
        by_cases d3 : c = m.cost
        · rw [if_neg (by simpa using d3), if_neg (by simp only [ne_eq, not_or, Decidable.not_not]; exact ⟨d3, fun h => d1 h.1⟩)]
        · rw [if_pos d3, if_pos (.inl d3)]

theorem fault_eq (m : TImage) (hl : m.put.length ≤ 9000000 ∧ m.bools.length ≤ 9000000 ∧ m.get.length ≤ 9000000 ∧ m.code.length ≤ 9000000) : ref_ImageFault m = some (imgF m) := by
  unfold ref_ImageFault imgF ref_F
  simp only [Option.bind_some]
  by_cases c1 : m.cells < 1
  · rw [if_pos c1, if_pos (by omega)]
  rw [if_neg c1]
  by_cases c2 : m.cells > 6000
  · rw [if_pos c2, if_pos (by omega)]
  rw [if_neg c2]
  by_cases c3 : m.regs < 1
  · rw [if_pos c3, if_pos (by omega)]
  rw [if_neg c3]
  by_cases c4 : m.regs > 40
  · rw [if_pos c4, if_pos (by omega)]
  rw [if_neg c4, if_neg (show ¬ (m.cells < 1 ∨ m.cells > 6000 ∨ m.regs < 1 ∨ m.regs > 40) by omega)]
  by_cases c5 : (m.put.length : Int) > 6000
  · rw [if_pos c5, if_pos (by omega)]
  rw [if_neg c5]
  by_cases c6 : (m.bools.length : Int) > 6000
  · rw [if_pos c6, if_pos (by omega)]
  rw [if_neg c6]
  by_cases c7 : (m.get.length : Int) > 120000
  · rw [if_pos c7, if_pos (by omega)]
  rw [if_neg c7]
  by_cases c8 : (m.code.length : Int) > 200000
  · rw [if_pos c8, if_pos (by omega)]
  rw [if_neg c8, if_neg (show ¬ ((m.put.length : Int) > 6000 ∨ (m.bools.length : Int) > 6000 ∨ (m.get.length : Int) > 120000 ∨ (m.code.length : Int) > 200000) by omega)]
  rw [ref_l2 m ⟨hl.1, hl.2.1, hl.2.2.1⟩]
  cases F1 m with
  | inr z => rfl
  | inl u =>
    simp only [Option.bind_some, Sum.elim_inl]
    unfold ref_ImageFault_j1
    rw [ref_l1 m (by omega) (by omega) hl.2.2.2]
    cases F2 m with
    | inr z => rfl
    | inl u =>
      simp only [Option.bind_some, Sum.elim_inl]
      unfold ref_ImageFault_j2 F3 ref_F
      rw [costOf_eq _ hl.2.2.2]
      simp only [Option.bind_some]
      generalize costL 0 1 0 m.code = c
      generalize (m.code.length : Int) = n
      by_cases d3 : m.cost = c
      · subst d3
        rw [if_neg (by simp)]
        by_cases d1 : m.cost = 0
        · rw [if_pos d1]
          by_cases d2 : n > 0
          · rw [if_pos d2, if_pos (.inr ⟨d1, d2⟩)]
          · rw [if_neg d2, if_neg (by simp only [ne_eq, not_or, Decidable.not_not]; exact ⟨trivial, fun h => d2 h.2⟩)]
        · rw [if_neg d1, if_neg (by simp only [ne_eq, not_or, Decidable.not_not]; exact ⟨trivial, fun h => d1 h.1⟩)]
      · rw [if_pos d3, if_pos (.inl (fun h => d3 h.symm))]

theorem sameInts_refl (l : List Int) (hl : l.length ≤ 9000000) : ref_SameInts l l = some true := by
  unfold ref_SameInts
  rw [if_neg (by simp), loop_upto l.length (fun _ => none) ()]
  · rw [upto_none (fun _ _ => rfl)]; rfl
  · intro i hi
    unfold ref_SameInts_l1
    rw [if_pos (ltI hi), if_pos ⟨inI hi, inI hi⟩, if_neg (by simp), wrs i (by omega)]
  · unfold ref_SameInts_l1; rw [if_neg (not_ltI _)]
theorem sameImage_refl (m : TImage) (hl : m.put.length ≤ 9000000 ∧ m.bools.length ≤ 9000000 ∧ m.get.length ≤ 9000000 ∧ m.code.length ≤ 9000000) : ref_SameImage m m = some true := by
  unfold ref_SameImage
  rw [if_neg (by simp), if_neg (by simp), if_neg (by simp), sameInts_refl _ hl.1, sameInts_refl _ hl.2.1, sameInts_refl _ hl.2.2.1]
  simp only [Option.bind_some, if_true]
  rw [if_neg (by simp), loop_upto m.code.length (fun _ => none) ()]
  · rw [upto_none (fun _ _ => rfl)]; rfl
  · intro i hi
    unfold ref_SameImage_l1
    rw [if_pos (ltI hi), if_pos ⟨inI hi, inI hi⟩, if_pos ⟨rfl, rfl, rfl, rfl, rfl, rfl⟩, wrs i (by omega)]
  · unfold ref_SameImage_l1; rw [if_neg (not_ltI _)]

theorem insOk_eq (m : TImage) (x : TIns) (b : Bool) (h1 : 1 ≤ m.cells) (h2 : m.cells ≤ 6000) (h : ref_insOK m x = some b) : insOk m x = b := by
  have := (ins_eq m x h1 h2).2
  rw [h] at this
  exact (Option.some.inj this).symm

def begunCode : List TIns := lit [TIns.mk 1 0 0 0 0 0, TIns.mk 10 0 0 0 0 3, TIns.mk 9 0 0 0 0 0, TIns.mk 11 0 0 0 0 0, TIns.mk 4 0 0 0 0 0]
theorem begun_chk : imgF (TImage.mk 1 1 9 [] [] [] begunCode) = TFault.mk 0 0 := by
  unfold imgF
  rw [if_neg (by decide), if_neg (by decide)]
  have f1 : F1 (TImage.mk 1 1 9 [] [] [] begunCode) = .inl () := by rfl
  rw [f1]
  have f2 : F2 (TImage.mk 1 1 9 [] [] [] begunCode) = .inl () := by
    refine upto_none fun i hi => ?_
    have hi : i < 5 := hi
    have : insOk (TImage.mk 1 1 9 [] [] [] begunCode) (begunCode.getD i default) = true := by
      refine insOk_eq _ _ _ (by decide) (by decide) ?_
      have r2 : ∀ l : List Int, l.length ≤ 9000000 → ref_regsOK (TImage.mk 1 1 9 [] [] [] begunCode) l = some (l.all (regOk 1)) := fun l hl => regsOK_eq _ l hl
      obtain ⟨a', b', e2⟩ := opOf_eq (begunCode.getD i default).k
      unfold ref_insOK
      rw [e2]
      simp only [Option.bind_some]
      unfold ref_insOK_j1 ref_insOK_j2
      rw [r2 _ (by simp [lit]), r2 _ (by simp [lit]), r2 _ (by simp [lit])]
      match i, hi with
      | 0, _ => rfl
      | 1, _ => rfl
      | 2, _ => rfl
      | 3, _ => rfl
      | 4, _ => rfl
    simp only at this ⊢
    rw [this]; rfl
  rw [f2]
  decide

theorem codeBegun_true : law_codeBegun = some true := by
  unfold law_codeBegun
  have h1 : code_Cost begunCode = some 9 := by rw [cost_eq _ (by decide)]; rfl
  have h2 := check_eq (TImage.mk 1 1 9 [] [] [] begunCode) (by decide)
  show (code_Cost begunCode).bind (fun y1 => if y1 = 9 then ((code_Check (TImage.mk 1 1 9 [] [] [] begunCode)).bind fun y2 => some (y2.code == 0)) else some false) = some true
  rw [h1, h2, begun_chk]
  rfl
end Pam

/- Costs add up: the plain law. -/
namespace Pam
open Go

/-- where code stands behind its instructions: what it cost, how many times, within a loop or not -/
def runL : Int → Int → Int → List TIns → Option (Int × Int × Int)
  | n, t, o, [] => some (n, t, o)
  | n, t, o, x :: l =>
    if x.op = 10 then (if t > 1 ∨ o > 0 ∨ x.n < 1 ∨ x.n > 300 then none else runL (n + t) x.n 1 l)
    else if x.op = 11 then (if o = 0 then none else runL (n + t) 1 0 l)
    else runL (n + t) t o l
theorem runL_cons (n t o : Int) (x : TIns) (l : List TIns) : runL n t o (x :: l) = (if x.op = 10 then (if t > 1 ∨ o > 0 ∨ x.n < 1 ∨ x.n > 300 then none else runL (n + t) x.n 1 l)
    else if x.op = 11 then (if o = 0 then none else runL (n + t) 1 0 l)
    else runL (n + t) t o l) := rfl
def endL : Option (Int × Int × Int) → Int
  | none => 0
  | some (n, _, o) => if o > 0 then 0 else n

theorem costL_run : ∀ (l : List TIns) (n t o : Int), costL n t o l = endL (runL n t o l)
  | [], n, t, o => rfl
  | x :: l, n, t, o => by
    unfold costL runL
    split
    · split
      · rfl
      · exact costL_run l _ _ _
    · split
      · split
        · rfl
        · exact costL_run l _ _ _
      · exact costL_run l _ _ _
theorem runL_app : ∀ (a b : List TIns) (n t o : Int), runL n t o (a ++ b) = (runL n t o a).bind fun s => runL s.1 s.2.1 s.2.2 b
  | [], b, n, t, o => rfl
  | x :: a, b, n, t, o => by
    rw [List.cons_append, runL_cons, runL_cons]
    split
    · split
      · rfl
      · exact runL_app a b _ _ _
    · split
      · split
        · rfl
        · exact runL_app a b _ _ _
      · exact runL_app a b _ _ _
theorem runL_shift : ∀ (l : List TIns) (m n t o : Int), runL (m + n) t o l = (runL n t o l).map fun s => (m + s.1, s.2.1, s.2.2)
  | [], m, n, t, o => rfl
  | x :: l, m, n, t, o => by
    have e : m + n + t = m + (n + t) := Int.add_assoc _ _ _
    unfold runL
    rw [e]
    split
    · split
      · rfl
      · exact runL_shift l _ _ _ _
    · split
      · split
        · rfl
        · exact runL_shift l _ _ _ _
      · exact runL_shift l _ _ _ _
/-- behind code that stands in no loop -/
theorem runL_inv : ∀ (l : List TIns) (n t o : Int) (s : Int × Int × Int), ((t = 1 ∧ o = 0) ∨ (1 ≤ t ∧ t ≤ 300 ∧ o = 1)) → runL n t o l = some s →
    ((s.2.1 = 1 ∧ s.2.2 = 0) ∨ (1 ≤ s.2.1 ∧ s.2.1 ≤ 300 ∧ s.2.2 = 1)) ∧ n ≤ s.1 ∧ s.1 ≤ n + 300 * l.length
  | [], n, t, o, s, h, e => by
    simp only [runL, Option.some.injEq] at e; subst e
    exact ⟨h, Int.le_refl _, by simp⟩
  | x :: l, n, t, o, s, h, e => by
    unfold runL at e
    have hlen : ((x :: l).length : Int) = l.length + 1 := by simp
    rw [hlen]
    split at e
    · split at e
      · cases e
      · have := runL_inv l _ _ _ s (.inr ⟨by omega, by omega, rfl⟩) e
        exact ⟨this.1, by omega, by omega⟩
    · split at e
      · split at e
        · cases e
        · have := runL_inv l _ _ _ s (.inl ⟨rfl, rfl⟩) e
          exact ⟨this.1, by omega, by omega⟩
      · have := runL_inv l _ _ _ s h e
        exact ⟨this.1, by omega, by omega⟩
theorem cost_pos {l : List TIns} (h : costL 0 1 0 l > 0) : runL 0 1 0 l = some (costL 0 1 0 l, 1, 0) := by
  rw [costL_run] at h ⊢
  cases e : runL 0 1 0 l with
  | none => rw [e] at h; cases h
  | some s =>
    obtain ⟨n, t, o⟩ := s
    have := runL_inv l 0 1 0 _ (.inl ⟨rfl, rfl⟩) e
    rw [e] at h
    simp only [endL] at h ⊢
    rcases this.1 with ⟨h1, h2⟩ | ⟨h1, h2, h3⟩
    · simp only at h1 h2; subst h1 h2; rfl
    · simp only at h3; subst h3; simp at h
theorem cost_bd (l : List TIns) : 0 ≤ costL 0 1 0 l ∧ costL 0 1 0 l ≤ 300 * l.length := by
  rw [costL_run]
  cases e : runL 0 1 0 l with
  | none => simp only [endL]; omega
  | some s =>
    obtain ⟨n, t, o⟩ := s
    have := runL_inv l 0 1 0 _ (.inl ⟨rfl, rfl⟩) e
    simp only [endL]
    split <;> simp only at this <;> omega
theorem cost_app {a b : List TIns} (ha : costL 0 1 0 a > 0) (hb : costL 0 1 0 b > 0) : costL 0 1 0 (a ++ b) = costL 0 1 0 a + costL 0 1 0 b := by
  rw [costL_run (a ++ b), runL_app, cost_pos ha]
  simp only [Option.bind_some]
  have h := runL_shift b (costL 0 1 0 a) 0 1 0
  rw [Int.add_zero, cost_pos hb] at h
  rw [h]
  rfl
theorem run_plain : ∀ (l : List TIns) (n t o : Int), (∀ x ∈ l, x.op ≠ 10 ∧ x.op ≠ 11) → runL n t o l = some (n + t * l.length, t, o)
  | [], n, t, o, _ => by simp [runL]
  | x :: l, n, t, o, h => by
    have hx := h x (by simp)
    unfold runL
    rw [if_neg hx.1, if_neg hx.2, run_plain l _ _ _ fun y hy => h y (by simp [hy])]
    have : t * ((x :: l).length : Int) = t + t * l.length := by
      rw [List.length_cons]; push_cast; rw [Int.mul_add, Int.mul_one, Int.add_comm]
    rw [this, Int.add_assoc]
theorem cost_plain {l : List TIns} (h : ∀ x ∈ l, x.op ≠ 10 ∧ x.op ≠ 11) : costL 0 1 0 l = l.length := by
  rw [costL_run, run_plain l 0 1 0 h]; simp [endL]
theorem cost_around {l : List TIns} (k : Int) (h1 : 1 ≤ k) (h2 : k ≤ 300) (h : ∀ x ∈ l, x.op ≠ 10 ∧ x.op ≠ 11) :
    costL 0 1 0 (lit [TIns.mk 10 0 0 0 0 k] ++ l ++ lit [TIns.mk 11 0 0 0 0 0]) = 1 + k * ((l.length : Int) + 1) := by
  rw [costL_run, runL_app, runL_app]
  have e : runL 0 1 0 (lit [TIns.mk 10 0 0 0 0 k]) = some (1, k, 1) := by
    show runL 0 1 0 [TIns.mk 10 0 0 0 0 k] = _
    unfold runL
    rw [if_pos rfl, if_neg (by simp only; omega)]; rfl
  rw [e]
  simp only [Option.bind_some]
  rw [run_plain l _ _ _ h]
  simp only [Option.bind_some]
  show endL (runL _ _ _ [TIns.mk 11 0 0 0 0 0]) = _
  unfold runL
  rw [if_neg (by decide), if_pos rfl, if_neg (by decide)]
  simp only [runL, endL]
  rw [if_neg (by decide), Int.mul_add, Int.mul_one, Int.add_assoc]

theorem law_CodeCosts_true (a b : List TIns) (p3 : Int) (_ : okL TIns.ok a) (_ : okL TIns.ok b) (hp : okI .i64 p3) (hs : szL TIns.sz a + szL TIns.sz b + szI p3 ≤ 1048576) : law_CodeCosts a b p3 = some true := by
  have z1 := szL_len TIns.sz_pos a
  have z2 := szL_len TIns.sz_pos b
  have hmax : (1048576 : Nat) * 2 ≤ maxLen := by decide
  have room_ok : ∀ n, n ≤ 2097152 → room n 48 := fun n h => ⟨by omega, by omega⟩
  have ca := cost_bd a
  have cb := cost_bd b
  -- what comes behind
  have hj : law_CodeCosts_j1 a p3 (costL 0 1 0 a) = some true := by
    unfold law_CodeCosts_j1
    rw [loop_upto a.length (fun i => if (a.getD i default).op = 10 ∨ (a.getD i default).op = 11 then some true else none) ()]
    · rcases upto_cases a.length (fun i => if (a.getD i default).op = 10 ∨ (a.getD i default).op = 11 then some true else none) () with ⟨h, h'⟩ | ⟨i, z, hi, hf, h⟩
      · rw [h]
        simp only [Option.bind_some, Sum.elim_inl]
        have hpl : ∀ x ∈ a, x.op ≠ 10 ∧ x.op ≠ 11 := by
          intro x hx
          obtain ⟨i, hi, rfl⟩ := List.getElem_of_mem hx
          have := h' i hi
          have e : a.getD i default = a[i] := by simp [List.getD, hi]
          rw [e] at this
          split at this
          · cases this
          · rename_i hn; exact ⟨fun h => hn (.inl h), fun h => hn (.inr h)⟩
        unfold law_CodeCosts_j2
        rw [if_pos (room_ok _ (by omega)), if_pos ⟨room_ok _ (by omega), room_ok _ (by omega)⟩, cost_plain hpl, if_pos rfl]
        have hu : 0 ≤ IntKind.wrap .u64 p3 ∧ IntKind.wrap .u64 p3 < 18446744073709551616 := by
          rw [IntKind.wrap_u64]; omega
        have ht : 0 ≤ (IntKind.wrap .u64 p3).tmod 300 ∧ (IntKind.wrap .u64 p3).tmod 300 < 300 := by
          rw [Int.tmod_eq_emod_of_nonneg hu.1]; omega
        generalize (IntKind.wrap .u64 p3).tmod 300 = q at ht ⊢
        rw [wr (n := q) (by omega) (by omega), wr (n := 1 + q) (by omega) (by omega), wr (n := (a.length : Int) + 1) (by omega) (by omega)]
        have m1 : 0 ≤ (1 + q) * ((a.length : Int) + 1) := Int.mul_nonneg (by omega) (by omega)
        have m2 : (1 + q) * ((a.length : Int) + 1) ≤ 300 * ((a.length : Int) + 1) := Int.mul_le_mul_of_nonneg_right (by omega) (by omega)
        rw [wr (n := (1 + q) * ((a.length : Int) + 1)) (by omega) (by omega), wr (n := 1 + (1 + q) * ((a.length : Int) + 1)) (by omega) (by omega)]
        rw [cost_eq _ (by simp only [List.length_append, len_lit, List.length_cons, List.length_nil]; omega), cost_around (1 + q) (by omega) (by omega) hpl]
        simp
      · rw [h]
        have : z = true := by split at hf <;> simp_all
        subst this; rfl
    · intro i hi
      unfold law_CodeCosts_l1
      rw [if_pos (ltI hi), if_pos (inI hi), if_pos (inI hi), Int.toNat_natCast, wrs i (by omega), decide_eq_true (by omega : costL 0 1 0 a ≥ 0)]
      by_cases h1 : (a.getD i default).op = 10
      · rw [if_pos h1, if_pos (.inl h1)]
      · rw [if_neg h1]
        by_cases h2 : (a.getD i default).op = 11
        · rw [if_pos h2, if_pos (.inr h2)]
        · rw [if_neg h2, if_neg (fun h => h.elim h1 h2)]
    · unfold law_CodeCosts_l1; rw [if_neg (not_ltI _)]
  unfold law_CodeCosts
  rw [codeBegun_true]
  simp only [Option.bind_some, if_true]
  by_cases g1 : (a.length : Int) > 5000
  · rw [if_pos g1]
  rw [if_neg g1]
  by_cases g2 : (b.length : Int) > 5000
  · rw [if_pos g2]
  rw [if_neg g2, cost_eq a (by omega), cost_eq b (by omega)]
  simp only [Option.bind_some]
  rw [if_pos ⟨room_ok _ (by omega), room_ok _ (by omega)⟩, hj]
  by_cases k3 : costL 0 1 0 a > 0
  · by_cases k4 : costL 0 1 0 b > 0
    · rw [if_pos k3, if_pos k4, cost_eq _ (by rw [List.length_append]; omega), cost_app k3 k4, wr (by omega) (by omega)]
      simp
    · rw [if_neg k4]; simp
  · rw [if_neg k3]; simp
end Pam
