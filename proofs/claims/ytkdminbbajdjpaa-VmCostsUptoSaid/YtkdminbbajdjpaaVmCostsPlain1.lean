/- What the parts of code.Check and of the document that look at instructions come to: the same. -/
import Derived.Test.YtkdminbbajdjpaaVmCostsFun1
import Derived.Test.YtkdminbbajdjpaaWide1
set_option linter.all false
namespace Pam
open Go

def regOk (regs r : Int) : Bool := decide (0 ≤ r ∧ r < regs)

theorem index_eq (l : List Int) (j : Tjudge) (hl : l.length ≤ 9000000) :
    slices_IndexFunc_int_int l j = some (match upto l.length (fun i => if regOk j.m_.regs (l.getD i default) then none else some (i : Int)) () with | .inr i => i | .inl _ => -1) := by
  unfold slices_IndexFunc_int_int
  rw [loop_upto l.length (fun i => if regOk j.m_.regs (l.getD i default) then none else some (i : Int)) ()]
  · rcases upto_cases l.length (fun i => if regOk j.m_.regs (l.getD i default) then none else some (i : Int)) () with ⟨h, _⟩ | ⟨i, z, _, _, h⟩
    · rw [h]; rfl
    · rw [h]; rfl
  · intro i hi
    unfold slices_IndexFunc_int_int_l1
    rw [if_pos (ltI hi), if_pos (inI hi), Int.toNat_natCast, wrs i (by omega)]
    unfold code_judge_reg_1
    by_cases h1 : l.getD i default < 0
    · rw [if_pos h1]; simp only [Option.bind_some, if_true]; rw [if_neg (by simp only [regOk, decide_eq_true_eq]; omega)]
    · rw [if_neg h1]; simp only [Option.bind_some]
      by_cases h2 : l.getD i default ≥ j.m_.regs
      · rw [if_pos (decide_eq_true h2), if_neg (by simp only [regOk, decide_eq_true_eq]; omega)]
      · rw [if_neg (by simp only [decide_eq_true_eq]; exact h2), if_pos (by simp only [regOk, decide_eq_true_eq]; omega)]
  · unfold slices_IndexFunc_int_int_l1
    rw [if_neg (not_ltI _)]

theorem reg_eq (j : Tjudge) (l : List Int) (hl : l.length ≤ 9000000) : code_judge_reg j l = some (l.all (regOk j.m_.regs)) := by
  unfold code_judge_reg slices_ContainsFunc_int_int
  rw [index_eq l j hl, all_getD]
  rcases upto_cases l.length (fun i => if regOk j.m_.regs (l.getD i default) then none else some (i : Int)) () with ⟨h, h'⟩ | ⟨i, z, hi, hf, h⟩
  · rw [h]
    have : ∀ i, i < l.length → regOk j.m_.regs (l.getD i default) = true := fun i hi => by have := h' i hi; simpa using this
    rw [decide_eq_true this]; rfl
  · rw [h]
    have hn : ¬ ∀ i, i < l.length → regOk j.m_.regs (l.getD i default) = true := fun k => by rw [if_pos (k i hi)] at hf; cases hf
    rw [decide_eq_false hn]
    have : z = i := by split at hf <;> simp_all
    subst this
    simp

theorem regsOK_eq (m : TImage) (l : List Int) (hl : l.length ≤ 9000000) : ref_regsOK m l = some (l.all (regOk m.regs)) := by
  unfold ref_regsOK
  rw [loop_upto l.length (fun i => if regOk m.regs (l.getD i default) then none else some false) ()]
  · rw [all_getD]
    rcases upto_cases l.length (fun i => if regOk m.regs (l.getD i default) then none else some false) () with ⟨h, h'⟩ | ⟨i, z, hi, hf, h⟩
    · rw [h]
      have : ∀ i, i < l.length → regOk m.regs (l.getD i default) = true := fun i hi => by have := h' i hi; simpa using this
      rw [decide_eq_true this]; rfl
    · rw [h]
      have hn : ¬ ∀ i, i < l.length → regOk m.regs (l.getD i default) = true := fun k => by rw [if_pos (k i hi)] at hf; cases hf
      rw [decide_eq_false hn]
      have : z = false := by split at hf <;> simp_all
      subst this; rfl
  · intro i hi
    unfold ref_regsOK_l1
    rw [if_pos (ltI hi), if_pos (inI hi), if_pos (inI hi), Int.toNat_natCast, wrs i (by omega)]
    by_cases h1 : l.getD i default < 0
    · rw [if_pos h1, if_neg (by simp only [regOk, decide_eq_true_eq]; omega)]
    · rw [if_neg h1]
      by_cases h2 : l.getD i default ≥ m.regs
      · rw [if_pos h2, if_neg (by simp only [regOk, decide_eq_true_eq]; omega)]
      · rw [if_neg h2, if_pos (by simp only [regOk, decide_eq_true_eq]; omega)]
  · unfold ref_regsOK_l1
    rw [if_neg (not_ltI _)]

def cellsOk (cells a n : Int) : Bool := decide (1 ≤ n ∧ n ≤ cells ∧ 0 ≤ a ∧ a ≤ cells - n)
theorem cells_eq (j : Tjudge) (a n : Int) (h1 : 1 ≤ j.m_.cells) (h2 : j.m_.cells ≤ 6000) : code_judge_cells j a n = some (cellsOk j.m_.cells a n) := by
  unfold code_judge_cells cellsOk
  by_cases a1 : n ≥ 1
  · rw [if_pos a1]
    by_cases a2 : n ≤ j.m_.cells
    · rw [if_pos a2, wr (by omega) (by omega)]
      by_cases a3 : a ≥ 0
      · rw [if_pos a3]; congr 1; rw [Bool.eq_iff_iff]; simp only [decide_eq_true_eq]; omega
      · rw [if_neg a3]; congr 1; symm; rw [decide_eq_false_iff_not]; omega
    · rw [if_neg a2]; congr 1; symm; rw [decide_eq_false_iff_not]; omega
  · rw [if_neg a1]; congr 1; symm; rw [decide_eq_false_iff_not]; omega

/-- how many an operator takes -/
def takes (k : Int) : Int := if 1 ≤ k ∧ k ≤ 12 then 2 else if k = 13 ∨ k = 14 then 1 else 0
theorem op_eq (k : Int) : ∃ a b, kinds_Op k = some (a, b, takes k) := by
  unfold kinds_Op takes
  repeat' split
  all_goals first
    | exact ⟨_, _, rfl⟩
    | (exfalso; omega)
theorem opOf_eq (k : Int) : ∃ a b, ref_OpOf k = some (a, b, takes k) := by
  unfold ref_OpOf
  by_cases h1 : k < 1
  · rw [if_pos h1]; exact ⟨0, 0, by unfold takes; rw [if_neg (by omega), if_neg (by omega)]⟩
  · rw [if_neg h1]
    by_cases h2 : k > 14
    · rw [if_pos h2]; exact ⟨0, 0, by unfold takes; rw [if_neg (by omega), if_neg (by omega)]⟩
    · rw [if_neg h2]
      have hg : (0 ≤ k ∧ k < (([63, 105, 105, 105, 105, 105, 105, 105, 105, 105, 98, 98, 98, 105, 98] : List UInt8).length : Int)) ∧ (0 ≤ k ∧ k < (([63, 105, 105, 105, 105, 105, 105, 105, 98, 98, 98, 98, 98, 105, 98] : List UInt8).length : Int)) := by
        simp only [List.length_cons, List.length_nil]; omega
      by_cases h3 : k ≥ 13
      · rw [if_pos h3]; unfold ref_OpOf_j1; rw [if_pos hg]; exact ⟨_, _, by unfold takes; rw [if_neg (by omega), if_pos (by omega)]⟩
      · rw [if_neg h3]; unfold ref_OpOf_j1; rw [if_pos hg]; exact ⟨_, _, by unfold takes; rw [if_pos (by omega)]⟩

/-- both look at an instruction alike -/
theorem fits_eq (m : TImage) (x : TIns) (h1 : 1 ≤ m.cells) (h2 : m.cells ≤ 6000) : ∃ b, code_judge_fits (Tjudge.mk m) x = some b ∧ ref_insOK m x = some b := by
  obtain ⟨a, b, e1⟩ := op_eq x.k
  obtain ⟨a', b', e2⟩ := opOf_eq x.k
  have r1 : ∀ l : List Int, l.length ≤ 9000000 → code_judge_reg (Tjudge.mk m) l = some (l.all (regOk m.regs)) := fun l hl => reg_eq _ l hl
  have r2 : ∀ l : List Int, l.length ≤ 9000000 → ref_regsOK m l = some (l.all (regOk m.regs)) := fun l hl => regsOK_eq _ l hl
  have c1 : ∀ a n, code_judge_cells (Tjudge.mk m) a n = some (cellsOk m.cells a n) := fun a n => cells_eq _ a n h1 h2
  unfold code_judge_fits ref_insOK
  rw [e1, e2]
  simp only [Option.bind_some]
  unfold code_judge_fits_j1 ref_insOK_j1 code_judge_fits_j2 ref_insOK_j2
  have q1 := r1 (lit [x.r_]) (by simp [lit])
  have q2 := r1 (lit [x.r_, x.a]) (by simp [lit])
  have q3 := r1 (lit [x.r_, x.a, x.b]) (by simp [lit])
  have p1 := r2 (lit [x.r_]) (by simp [lit])
  have p2 := r2 (lit [x.r_, x.a]) (by simp [lit])
  have p3 := r2 (lit [x.r_, x.a, x.b]) (by simp [lit])
  rw [q1, q2, q3, p1, p2, p3]
  simp only [Option.bind_some, c1]
  generalize (lit [x.r_]).all (regOk m.regs) = g1
  generalize (lit [x.r_, x.a]).all (regOk m.regs) = g2
  generalize (lit [x.r_, x.a, x.b]).all (regOk m.regs) = g3
  have k1 : (if x.n ≥ 0 then some (decide (x.n < m.cells)) else some false) = some (cellsOk m.cells x.n 1) := by
    unfold cellsOk
    split
    · congr 1; rw [Bool.eq_iff_iff]; simp only [decide_eq_true_eq]; omega
    · congr 1; symm; rw [decide_eq_false_iff_not]; omega
  have k2 : (if x.n ≥ 0 then if x.n < m.cells then if x.b ≥ 1 then some (decide (x.b ≤ IntKind.wrap .i64 (m.cells - x.n))) else some false else some false else some false) = some (cellsOk m.cells x.n x.b) := by
    unfold cellsOk
    split
    · split
      · split
        · rw [wr (by omega) (by omega)]; congr 1; rw [Bool.eq_iff_iff]; simp only [decide_eq_true_eq]; omega
        · congr 1; symm; rw [decide_eq_false_iff_not]; omega
      · congr 1; symm; rw [decide_eq_false_iff_not]; omega
    · congr 1; symm; rw [decide_eq_false_iff_not]; omega
  rw [k1, k2]
  generalize cellsOk m.cells x.n 1 = g4
  generalize cellsOk m.cells x.n x.b = g5
  have key : ∀ X : Option Bool, X.isSome = true → ∃ b, X = some b ∧ X = some b := fun X h => by
    obtain ⟨b, hb⟩ := Option.isSome_iff_exists.1 h
    exact ⟨b, hb, hb⟩
  refine key _ ?_
  simp only [apply_ite Option.isSome, Option.isSome_some, ite_self]
end Pam

/- What code costs: the program and the document reckon the same. -/
namespace Pam
open Go

/-- what code costs, so much before, so many times, within a loop or not -/
def costL (n times one : Int) : List TIns → Int
  | [] => if one > 0 then 0 else n
  | x :: l =>
    if x.op = 10 then (if times > 1 ∨ one > 0 ∨ x.n < 1 ∨ x.n > 300 then 0 else costL (n + times) x.n 1 l)
    else if x.op = 11 then (if one = 0 then 0 else costL (n + times) 1 0 l)
    else costL (n + times) times one l

theorem code_from (l : List TIns) (hl : l.length ≤ 9000000) : ∀ (k i : Nat) (n times one : Int), i + k = l.length → 0 ≤ n → n ≤ 300 * i → 1 ≤ times → times ≤ 300 →
    (loop (fun (x11, x12, x13, x14) => code_Cost_l1 l x11 x12 x13 x14) (n, times, one, (i : Int))).bind (Sum.elim (fun (z15, z16) => code_Cost_j1 z15 z16) (fun z17 => some z17)) = some (costL n times one (l.drop i))
  | 0, i, n, times, one, hi, _, _, _, _ => by
    have hi : i = l.length := by omega
    subst hi
    rw [loop_done (o := .inl (n, one)) (by simp only [code_Cost_l1]; rw [if_neg (not_ltI _)]), List.drop_length]
    simp only [Option.bind_some, Sum.elim_inl, code_Cost_j1, costL]
    split <;> rfl
  | k + 1, i, n, times, one, hi, h1, h2, h3, h4 => by
    have hlt : i < l.length := by omega
    rw [drop_cons l i hlt]
    have hw : IntKind.wrap .i64 (n + times) = n + times := wr (by omega) (by omega)
    have hb : code_Cost_l1 l n times one i = (if (l.getD i default).op = 10 then (if times > 1 ∨ one > 0 ∨ (l.getD i default).n < 1 ∨ (l.getD i default).n > 300 then some (.inr (.inr 0)) else some (.inl (n + times, (l.getD i default).n, 1, ((i + 1 : Nat) : Int))))
        else if (l.getD i default).op = 11 then (if one = 0 then some (.inr (.inr 0)) else some (.inl (n + times, 1, 0, ((i + 1 : Nat) : Int)))) else some (.inl (n + times, times, one, ((i + 1 : Nat) : Int)))) := by
      unfold code_Cost_l1
      rw [if_pos (ltI hlt), if_pos (inI hlt), Int.toNat_natCast, hw, wrs i (by omega)]
      by_cases a1 : (l.getD i default).op = 10
      · rw [if_pos a1, if_pos a1]
        by_cases b1 : times > 1
        · rw [if_pos b1, if_pos (.inl b1)]
        · rw [if_neg b1]
          by_cases b2 : one > 0
          · rw [if_pos b2, if_pos (.inr (.inl b2))]
          · rw [if_neg b2]
            by_cases b3 : (l.getD i default).n < 1
            · rw [if_pos b3, if_pos (.inr (.inr (.inl b3)))]
            · rw [if_neg b3]
              by_cases b4 : (l.getD i default).n > 300
              · rw [if_pos b4, if_pos (.inr (.inr (.inr b4)))]
              · rw [if_neg b4, if_neg (by omega)]
      · rw [if_neg a1, if_neg a1]
    generalize l.getD i default = x at hb ⊢
    have ih := fun n' t' o' h1 h2 h3 h4 => code_from l hl k (i + 1) n' t' o' (by omega) h1 h2 h3 h4
    simp only [costL]
    by_cases a1 : x.op = 10
    · rw [if_pos a1] at hb ⊢
      by_cases b1 : times > 1 ∨ one > 0 ∨ x.n < 1 ∨ x.n > 300
      · rw [if_pos b1] at hb ⊢; rw [loop_done (by simpa using hb)]; rfl
      · rw [if_neg b1] at hb ⊢; rw [loop_next (by simpa using hb)]; exact ih _ _ _ (by omega) (by omega) (by omega) (by omega)
    · rw [if_neg a1] at hb ⊢
      by_cases a2 : x.op = 11
      · rw [if_pos a2] at hb ⊢
        by_cases b1 : one = 0
        · rw [if_pos b1] at hb ⊢; rw [loop_done (by simpa using hb)]; rfl
        · rw [if_neg b1] at hb ⊢; rw [loop_next (by simpa using hb)]; exact ih _ _ _ (by omega) (by omega) (by omega) (by omega)
      · rw [if_neg a2] at hb ⊢; rw [loop_next (by simpa using hb)]; exact ih _ _ _ (by omega) (by omega) (by omega) (by omega)

theorem cost_eq (l : List TIns) (hl : l.length ≤ 9000000) : code_Cost l = some (costL 0 1 0 l) := by
  have := code_from l hl l.length 0 0 1 0 (by omega) (by omega) (by omega) (by omega) (by omega)
  unfold code_Cost
  simpa using this

/-- where a loop ends -/
theorem end_from (l : List TIns) (hl : l.length ≤ 9000000) : ∀ (k j : Nat), j + k = l.length →
    (loop (fun x13 => ref_CostOf_l2 l x13) (j : Int) = some (.inl ((l.length : Nat) : Int)) ∧ ∀ n N, costL n N 1 (l.drop j) = 0) ∨
    (loop (fun x13 => ref_CostOf_l2 l x13) (j : Int) = some (.inr 0) ∧ ∀ n N, costL n N 1 (l.drop j) = 0) ∨
    ∃ e : Nat, j ≤ e ∧ e < l.length ∧ loop (fun x13 => ref_CostOf_l2 l x13) (j : Int) = some (.inl (e : Int)) ∧ ∀ n N, costL n N 1 (l.drop j) = costL (n + N * (e - j + 1)) 1 0 (l.drop (e + 1))
  | 0, j, hj => by
    have hj : j = l.length := by omega
    subst hj
    left
    refine ⟨loop_done (by simp only [ref_CostOf_l2]; rw [if_neg (not_ltI _)]), fun n N => ?_⟩
    rw [List.drop_length]; simp [costL]
  | k + 1, j, hj => by
    have hlt : j < l.length := by omega
    have hb : ref_CostOf_l2 l j = (if ¬ (l.getD j default).op = 11 then (if (l.getD j default).op = 10 then some (.inr (.inr 0)) else some (.inl ((j + 1 : Nat) : Int))) else some (.inr (.inl (j : Int)))) := by
      unfold ref_CostOf_l2
      rw [if_pos (ltI hlt), if_pos (inI hlt), Int.toNat_natCast, wrs j (by omega)]
    rw [drop_cons l j hlt]
    generalize l.getD j default = x at hb ⊢
    simp only [costL]
    by_cases a1 : x.op = 11
    · rw [if_neg (by simp [a1])] at hb
      refine .inr (.inr ⟨j, Nat.le_refl _, hlt, loop_done hb, fun n N => ?_⟩)
      rw [if_neg (by omega), if_pos a1, if_neg (by omega)]
      congr 1
      rw [show ((j : Int) - j + 1) = 1 by omega, Int.mul_one]
    · rw [if_pos a1] at hb
      by_cases a2 : x.op = 10
      · rw [if_pos a2] at hb
        refine .inr (.inl ⟨loop_done hb, fun n N => ?_⟩)
        rw [if_pos a2, if_pos (by omega)]
      · rw [if_neg a2] at hb
        rw [loop_next hb]
        rcases end_from l hl k (j + 1) (by omega) with ⟨h1, h2⟩ | ⟨h1, h2⟩ | ⟨e, h0, h1, h2, h3⟩
        · exact .inl ⟨h1, fun n N => by rw [if_neg a2, if_neg a1]; exact h2 _ _⟩
        · exact .inr (.inl ⟨h1, fun n N => by rw [if_neg a2, if_neg a1]; exact h2 _ _⟩)
        · refine .inr (.inr ⟨e, by omega, h1, h2, fun n N => ?_⟩)
          rw [if_neg a2, if_neg a1, h3]
          congr 1
          rw [show ((e : Int) - (j + 1 : Nat) + 1) = e - j by omega, Int.mul_add, Int.mul_one, Int.add_assoc]
          omega

theorem ref_from (l : List TIns) (hl : l.length ≤ 9000000) : ∀ (k i : Nat) (n : Int), i + k = l.length → 0 ≤ n → n ≤ 301 * i →
    (loop (fun (x6, x7) => ref_CostOf_l1 l x6 x7) (n, (i : Int))).bind (Sum.elim (fun z16 => ref_CostOf_j1 z16) (fun z17 => some z17)) = some (costL n 1 0 (l.drop i)) := by
  intro k
  induction k using Nat.strongRecOn with
  | _ k ih =>
    intro i n hi h1 h2
    cases k with
    | zero =>
      have hi : i = l.length := by omega
      subst hi
      rw [loop_done (o := .inl n) (by simp only [ref_CostOf_l1]; rw [if_neg (not_ltI _)]), List.drop_length]
      simp [ref_CostOf_j1, costL]
    | succ k =>
      have hlt : i < l.length := by omega
      have hw : IntKind.wrap .i64 (n + 1) = n + 1 := wr (by omega) (by omega)
      have hb : ref_CostOf_l1 l n i = (if (l.getD i default).op = 11 then some (.inr (.inr 0)) else if ¬ (l.getD i default).op = 10 then some (.inl (n + 1, ((i + 1 : Nat) : Int))) else
          (loop (fun x13 => ref_CostOf_l2 l x13) ((i + 1 : Nat) : Int)).bind (Sum.elim (fun z14 => ref_CostOf_j3 l n i z14) (fun z15 => some (.inr (.inr z15))))) := by
        unfold ref_CostOf_l1 ref_CostOf_j2
        rw [if_pos (ltI hlt), if_pos (inI hlt), Int.toNat_natCast, hw, wrs i (by omega)]
      have hd := drop_cons l i hlt
      have hj3 : ∀ z, ref_CostOf_j3 l n i z = (if z = (l.length : Int) then some (.inr (.inr 0)) else if (l.getD i default).n < 1 then some (.inr (.inr 0)) else if (l.getD i default).n > 300 then some (.inr (.inr 0)) else
          some (.inl (IntKind.wrap .i64 (n + 1 + IntKind.wrap .i64 ((l.getD i default).n * IntKind.wrap .i64 (z - i))), IntKind.wrap .i64 (z + 1)))) := by
        intro z; unfold ref_CostOf_j3 ref_CostOf_j2; rw [Int.toNat_natCast, hw]
      rw [hd]
      generalize l.getD i default = x at hb hj3 ⊢
      simp only [costL]
      by_cases a1 : x.op = 11
      · rw [if_pos a1] at hb
        rw [loop_done hb, if_neg (by omega), if_pos a1]; rfl
      · rw [if_neg a1] at hb
        by_cases a2 : x.op = 10
        · rw [if_neg (by simp [a2])] at hb
          rw [if_pos a2]
          rcases end_from l hl k (i + 1) (by omega) with ⟨e1, e2⟩ | ⟨e1, e2⟩ | ⟨e, e0, e1, e2, e3⟩
          · rw [e1] at hb
            simp only [Option.bind_some, Sum.elim_inl, hj3, if_true] at hb
            rw [loop_done hb]
            have : (if (1 : Int) > 1 ∨ (0 : Int) > 0 ∨ x.n < 1 ∨ x.n > 300 then (0 : Int) else costL (n + 1) x.n 1 (l.drop (i + 1))) = 0 := by split <;> first | rfl | exact e2 _ _
            rw [this]; rfl
          · rw [e1] at hb
            simp only [Option.bind_some, Sum.elim_inr] at hb
            rw [loop_done hb]
            have : (if (1 : Int) > 1 ∨ (0 : Int) > 0 ∨ x.n < 1 ∨ x.n > 300 then (0 : Int) else costL (n + 1) x.n 1 (l.drop (i + 1))) = 0 := by split <;> first | rfl | exact e2 _ _
            rw [this]; rfl
          · rw [e2] at hb
            simp only [Option.bind_some, Sum.elim_inl, hj3] at hb
            rw [if_neg (by omega)] at hb
            by_cases b1 : x.n < 1
            · rw [if_pos b1] at hb; rw [loop_done hb, if_pos (by omega)]; rfl
            · rw [if_neg b1] at hb
              by_cases b2 : x.n > 300
              · rw [if_pos b2] at hb; rw [loop_done hb, if_pos (by omega)]; rfl
              · rw [if_neg b2] at hb
                have m1 : 0 ≤ x.n * ((e : Int) - i) := Int.mul_nonneg (by omega) (by omega)
                have m2 : x.n * ((e : Int) - i) ≤ 300 * ((e : Int) - i) := Int.mul_le_mul_of_nonneg_right (by omega) (by omega)
                rw [wr (n := (e : Int) - i) (by omega) (by omega), wr (n := x.n * ((e : Int) - i)) (by omega) (by omega), wr (n := n + 1 + x.n * ((e : Int) - i)) (by omega) (by omega), wrs e (by omega)] at hb
                rw [loop_next hb, if_neg (by omega), e3]
                have := ih (l.length - (e + 1)) (by omega) (e + 1) (n + 1 + x.n * ((e : Int) - i)) (by omega) (by omega) (by omega)
                rw [this]
                congr 2
                rw [show ((e : Int) - (i + 1 : Nat) + 1) = e - i by omega]
        · rw [if_pos a2] at hb
          rw [loop_next hb, if_neg a2, if_neg a1]
          exact ih k (by omega) (i + 1) (n + 1) (by omega) (by omega) (by omega)

theorem costOf_eq (l : List TIns) (hl : l.length ≤ 9000000) : ref_CostOf l = some (costL 0 1 0 l) := by
  have := ref_from l hl l.length 0 0 (by omega) (by omega) (by omega)
  unfold ref_CostOf
  simpa using this
end Pam

/- What Cost and Check of the program and the document come to: the same. -/
namespace Pam
open Go

noncomputable def insOk (m : TImage) (x : TIns) : Bool := (code_judge_fits (Tjudge.mk m) x).getD false
theorem ins_eq (m : TImage) (x : TIns) (h1 : 1 ≤ m.cells) (h2 : m.cells ≤ 6000) : code_judge_fits (Tjudge.mk m) x = some (insOk m x) ∧ ref_insOK m x = some (insOk m x) := by
  obtain ⟨b, e1, e2⟩ := fits_eq m x h1 h2
  unfold insOk
  rw [e1, e2]
  exact ⟨rfl, rfl⟩

/-- a cell that is none -/
def outF (m : TImage) (l : List Int) (i : Nat) : Option TFault := if l.getD i default < 0 ∨ l.getD i default ≥ m.cells then some (TFault.mk 16 (-1)) else none
def outs (m : TImage) (l : List Int) : Option TFault := match upto l.length (outF m l) () with | .inr z => some z | .inl _ => none
def lists (m : TImage) (i : Nat) : List Int := (lit ([m.put, m.bools, m.get] : List (List Int))).getD i default
def F1 (m : TImage) : Unit ⊕ TFault := upto 3 (fun i => outs m (lists m i)) ()
noncomputable def F2 (m : TImage) : Unit ⊕ TFault := upto m.code.length (fun i => if insOk m (m.code.getD i default) then none else some (TFault.mk 4 i)) ()
def F3 (m : TImage) : TFault := if costL 0 1 0 m.code ≠ m.cost ∨ (costL 0 1 0 m.code = 0 ∧ (m.code.length : Int) > 0) then TFault.mk 18 (-1) else TFault.mk 0 0
noncomputable def imgF (m : TImage) : TFault :=
  if m.cells < 1 ∨ m.cells > 6000 ∨ m.regs < 1 ∨ m.regs > 40 then TFault.mk 13 (-1)
  else if (m.put.length : Int) > 6000 ∨ (m.bools.length : Int) > 6000 ∨ (m.get.length : Int) > 120000 ∨ (m.code.length : Int) > 200000 then TFault.mk 7 (-1)
  else match F1 m with
    | .inr z => z
    | .inl _ => match F2 m with
      | .inr z => z
      | .inl _ => F3 m

theorem lists_len (m : TImage) (h : m.put.length ≤ 9000000 ∧ m.bools.length ≤ 9000000 ∧ m.get.length ≤ 9000000) (i : Nat) : (lists m i).length ≤ 9000000 := by
  unfold lists lit
  match i with
  | 0 => exact h.1
  | 1 => exact h.2.1
  | 2 => exact h.2.2
  | i + 3 => exact Nat.zero_le _

theorem code_l3 (m : TImage) (x : Nat) (hx : x < 3) (hl : (lists m x).length ≤ 9000000) : loop (fun x12 => code_Check_l3 m x x12) 0 = some (upto (lists m x).length (outF m (lists m x)) ()) := by
  refine loop_upto _ _ _ (fun i hi => ?_) ?_
  · unfold code_Check_l3
    rw [Int.toNat_natCast, Int.toNat_natCast]
    show (if (i : Int) < ((lists m x).length : Int) then _ else _) = _
    rw [if_pos (ltI hi)]
    show (if 0 ≤ (i : Int) ∧ (i : Int) < ((lists m x).length : Int) then _ else _) = _
    rw [if_pos (inI hi), wrs i (by omega)]
    show (if (lists m x).getD i default < 0 then _ else if (lists m x).getD i default ≥ m.cells then _ else _) = _
    unfold outF
    by_cases a : (lists m x).getD i default < 0
    · rw [if_pos a, if_pos (.inl a)]
    · rw [if_neg a]
      by_cases b : (lists m x).getD i default ≥ m.cells
      · rw [if_pos b, if_pos (.inr b)]
      · rw [if_neg b, if_neg (by omega)]
  · unfold code_Check_l3
    rw [Int.toNat_natCast]
    exact if_neg (not_ltI (lists m x).length)

theorem ref_l3 (m : TImage) (x : Nat) (hx : x < 3) (hl : (lists m x).length ≤ 9000000) : loop (fun x23 => ref_ImageFault_l3 m x x23) 0 = some (upto (lists m x).length (outF m (lists m x)) ()) := by
  have h3 : 0 ≤ (x : Int) ∧ (x : Int) < 3 := by omega
  refine loop_upto _ _ _ (fun i hi => ?_) ?_
  · unfold ref_ImageFault_l3
    rw [if_pos h3, Int.toNat_natCast, Int.toNat_natCast]
    show (if (i : Int) < ((lists m x).length : Int) then (if (lists m x).getD i default < 0 then (if 0 ≤ (i : Int) ∧ (i : Int) < ((lists m x).length : Int) then _ else _) else (if 0 ≤ (i : Int) ∧ (i : Int) < ((lists m x).length : Int) then (if (lists m x).getD i default ≥ m.cells then _ else _) else _)) else _) = _
    rw [if_pos (ltI hi), if_pos (inI hi), if_pos (inI hi), wrs i (by omega)]
    unfold outF ref_F
    by_cases a : (lists m x).getD i default < 0
    · rw [if_pos a, if_pos (.inl a)]; rfl
    · rw [if_neg a]
      by_cases b : (lists m x).getD i default ≥ m.cells
      · rw [if_pos b, if_pos (.inr b)]; rfl
      · rw [if_neg b, if_neg (by omega)]
  · unfold ref_ImageFault_l3
    rw [if_pos h3, Int.toNat_natCast]
    exact if_neg (not_ltI (lists m x).length)

theorem code_l2 (m : TImage) (h : m.put.length ≤ 9000000 ∧ m.bools.length ≤ 9000000 ∧ m.get.length ≤ 9000000) : loop (fun x9 => code_Check_l2 m x9) 0 = some (F1 m) := by
  refine loop_upto 3 _ _ (fun i hi => ?_) ?_
  · unfold code_Check_l2
    have h3 : (i : Int) < 3 := by omega
    rw [if_pos h3, if_pos ⟨by omega, h3⟩, code_l3 m i hi (lists_len m h i)]
    unfold outs
    rcases upto_cases (lists m i).length (outF m (lists m i)) () with ⟨e, _⟩ | ⟨j, z, _, _, e⟩
    · rw [e]; simp only [Option.bind_some, Sum.elim_inl, code_Check_j3]; rw [wrs i (by omega)]
    · rw [e]; rfl
  · unfold code_Check_l2; rfl
theorem ref_l2 (m : TImage) (h : m.put.length ≤ 9000000 ∧ m.bools.length ≤ 9000000 ∧ m.get.length ≤ 9000000) : loop (fun x20 => ref_ImageFault_l2 m x20) 0 = some (F1 m) := by
  refine loop_upto 3 _ _ (fun i hi => ?_) ?_
  · unfold ref_ImageFault_l2
    have h3 : (i : Int) < 3 := by omega
    rw [if_pos h3, ref_l3 m i hi (lists_len m h i)]
    unfold outs
    rcases upto_cases (lists m i).length (outF m (lists m i)) () with ⟨e, _⟩ | ⟨j, z, _, _, e⟩
    · rw [e]; simp only [Option.bind_some, Sum.elim_inl, ref_ImageFault_j3]; rw [wrs i (by omega)]
    · rw [e]; rfl
  · unfold ref_ImageFault_l2; rfl

theorem code_l1 (m : TImage) (h1 : 1 ≤ m.cells) (h2 : m.cells ≤ 6000) (hl : m.code.length ≤ 9000000) : loop (fun x4 => code_Check_l1 m x4) 0 = some (F2 m) := by
  refine loop_upto _ _ _ (fun i hi => ?_) ?_
  · unfold code_Check_l1
    rw [if_pos (ltI hi), if_pos (inI hi), Int.toNat_natCast, (ins_eq m _ h1 h2).1, wrs i (by omega)]
    simp only [Option.bind_some]
    cases insOk m (m.code.getD i default) <;> rfl
  · unfold code_Check_l1; rw [if_neg (not_ltI _)]
theorem ref_l1 (m : TImage) (h1 : 1 ≤ m.cells) (h2 : m.cells ≤ 6000) (hl : m.code.length ≤ 9000000) : loop (fun x14 => ref_ImageFault_l1 m x14) 0 = some (F2 m) := by
  refine loop_upto _ _ _ (fun i hi => ?_) ?_
  · unfold ref_ImageFault_l1 ref_F
    rw [if_pos (ltI hi), if_pos (inI hi), Int.toNat_natCast, (ins_eq m _ h1 h2).2, wrs i (by omega)]
    simp only [Option.bind_some]
    cases insOk m (m.code.getD i default) <;> rfl
  · unfold ref_ImageFault_l1; rw [if_neg (not_ltI _)]

theorem check_eq (m : TImage) (hl : m.put.length ≤ 9000000 ∧ m.bools.length ≤ 9000000 ∧ m.get.length ≤ 9000000 ∧ m.code.length ≤ 9000000) : code_Check m = some (imgF m) := by
  unfold code_Check imgF
  by_cases c1 : m.cells < 1
  · rw [if_pos c1, if_pos (by omega)]
  rw [if_neg c1]
  by_cases c2 : m.cells > 6000
  · rw [if_pos c2, if_pos (by omega)]
  rw [if_neg c2]
  by_cases c3 : m.regs < 1
  · rw [if_pos c3, if_pos (by omega)]
  rw [if_neg c3]
  by_cases c4 : m.regs > 40
  · rw [if_pos c4, if_pos (by omega)]
  rw [if_neg c4, if_neg (show ¬ (m.cells < 1 ∨ m.cells > 6000 ∨ m.regs < 1 ∨ m.regs > 40) by omega)]
  by_cases c5 : (m.put.length : Int) > 6000
  · rw [if_pos c5, if_pos (by omega)]
  rw [if_neg c5]
  by_cases c6 : (m.bools.length : Int) > 6000
  · rw [if_pos c6, if_pos (by omega)]
  rw [if_neg c6]
  by_cases c7 : (m.get.length : Int) > 120000
  · rw [if_pos c7, if_pos (by omega)]
  rw [if_neg c7]
  by_cases c8 : (m.code.length : Int) > 200000
  · rw [if_pos c8, if_pos (by omega)]
  rw [if_neg c8, if_neg (show ¬ ((m.put.length : Int) > 6000 ∨ (m.bools.length : Int) > 6000 ∨ (m.get.length : Int) > 120000 ∨ (m.code.length : Int) > 200000) by omega)]
  rw [code_l2 m ⟨hl.1, hl.2.1, hl.2.2.1⟩]
  cases F1 m with
  | inr z => rfl
  | inl u =>
    simp only [Option.bind_some, Sum.elim_inl]
    unfold code_Check_j1
    rw [code_l1 m (by omega) (by omega) hl.2.2.2]
    cases F2 m with
    | inr z => rfl
    | inl u =>
      simp only [Option.bind_some, Sum.elim_inl]
      unfold code_Check_j2 F3
      rw [cost_eq _ hl.2.2.2]
      simp only [Option.bind_some]
      generalize costL 0 1 0 m.code = c
      generalize (m.code.length : Int) = n
      by_cases d1 : c = 0
      · rw [if_pos d1]
        by_cases d2 : n > 0
        · rw [if_pos d2, if_pos (.inr ⟨d1, d2⟩)]
        · rw [if_neg d2]
          by_cases d3 : c = m.cost
          · rw [if_neg (by simpa using d3), if_neg (by simp only [ne_eq, not_or, Decidable.not_not]; exact ⟨d3, fun h => d2 h.2⟩)]
          · rw [if_pos d3, if_pos (.inl d3)]
      · rw [if_neg d1]
        by_cases d3 : c = m.cost
        · rw [if_neg (by simpa using d3), if_neg (by simp only [ne_eq, not_or, Decidable.not_not]; exact ⟨d3, fun h => d1 h.1⟩)]
        · rw [if_pos d3, if_pos (.inl d3)]

theorem fault_eq (m : TImage) (hl : m.put.length ≤ 9000000 ∧ m.bools.length ≤ 9000000 ∧ m.get.length ≤ 9000000 ∧ m.code.length ≤ 9000000) : ref_ImageFault m = some (imgF m) := by
  unfold ref_ImageFault imgF ref_F
  simp only [Option.bind_some]
  by_cases c1 : m.cells < 1
  · rw [if_pos c1, if_pos (by omega)]
  rw [if_neg c1]
  by_cases c2 : m.cells > 6000
  · rw [if_pos c2, if_pos (by omega)]
  rw [if_neg c2]
  by_cases c3 : m.regs < 1
  · rw [if_pos c3, if_pos (by omega)]
  rw [if_neg c3]
  by_cases c4 : m.regs > 40
  · rw [if_pos c4, if_pos (by omega)]
  rw [if_neg c4, if_neg (show ¬ (m.cells < 1 ∨ m.cells > 6000 ∨ m.regs < 1 ∨ m.regs > 40) by omega)]
  by_cases c5 : (m.put.length : Int) > 6000
  · rw [if_pos c5, if_pos (by omega)]
  rw [if_neg c5]
  by_cases c6 : (m.bools.length : Int) > 6000
  · rw [if_pos c6, if_pos (by omega)]
  rw [if_neg c6]
  by_cases c7 : (m.get.length : Int) > 120000
  · rw [if_pos c7, if_pos (by omega)]
  rw [if_neg c7]
  by_cases c8 : (m.code.length : Int) > 200000
  · rw [if_pos c8, if_pos (by omega)]
  rw [if_neg c8, if_neg (show ¬ ((m.put.length : Int) > 6000 ∨ (m.bools.length : Int) > 6000 ∨ (m.get.length : Int) > 120000 ∨ (m.code.length : Int) > 200000) by omega)]
  rw [ref_l2 m ⟨hl.1, hl.2.1, hl.2.2.1⟩]
  cases F1 m with
  | inr z => rfl
  | inl u =>
    simp only [Option.bind_some, Sum.elim_inl]
    unfold ref_ImageFault_j1
    rw [ref_l1 m (by omega) (by omega) hl.2.2.2]
    cases F2 m with
    | inr z => rfl
    | inl u =>
      simp only [Option.bind_some, Sum.elim_inl]
      unfold ref_ImageFault_j2 F3 ref_F
      rw [costOf_eq _ hl.2.2.2]
      simp only [Option.bind_some]
      generalize costL 0 1 0 m.code = c
      generalize (m.code.length : Int) = n
      by_cases d3 : m.cost = c
      · subst d3
        rw [if_neg (by simp)]
        by_cases d1 : m.cost = 0
        · rw [if_pos d1]
          by_cases d2 : n > 0
          · rw [if_pos d2, if_pos (.inr ⟨d1, d2⟩)]
          · rw [if_neg d2, if_neg (by simp only [ne_eq, not_or, Decidable.not_not]; exact ⟨trivial, fun h => d2 h.2⟩)]
        · rw [if_neg d1, if_neg (by simp only [ne_eq, not_or, Decidable.not_not]; exact ⟨trivial, fun h => d1 h.1⟩)]
      · rw [if_pos d3, if_pos (.inl (fun h => d3 h.symm))]

theorem sameInts_refl (l : List Int) (hl : l.length ≤ 9000000) : ref_SameInts l l = some true := by
  unfold ref_SameInts
  rw [if_neg (by simp), loop_upto l.length (fun _ => none) ()]
  · rw [upto_none (fun _ _ => rfl)]; rfl
  · intro i hi
    unfold ref_SameInts_l1
    rw [if_pos (ltI hi), if_pos ⟨inI hi, inI hi⟩, if_neg (by simp), wrs i (by omega)]
  · unfold ref_SameInts_l1; rw [if_neg (not_ltI _)]
theorem sameImage_refl (m : TImage) (hl : m.put.length ≤ 9000000 ∧ m.bools.length ≤ 9000000 ∧ m.get.length ≤ 9000000 ∧ m.code.length ≤ 9000000) : ref_SameImage m m = some true := by
  unfold ref_SameImage
  rw [if_neg (by simp), if_neg (by simp), if_neg (by simp), sameInts_refl _ hl.1, sameInts_refl _ hl.2.1, sameInts_refl _ hl.2.2.1]
  simp only [Option.bind_some, if_true]
  rw [if_neg (by simp), loop_upto m.code.length (fun _ => none) ()]
  · rw [upto_none (fun _ _ => rfl)]; rfl
  · intro i hi
    unfold ref_SameImage_l1
    rw [if_pos (ltI hi), if_pos ⟨inI hi, inI hi⟩, if_pos ⟨rfl, rfl, rfl, rfl, rfl, rfl⟩, wrs i (by omega)]
  · unfold ref_SameImage_l1; rw [if_neg (not_ltI _)]

theorem insOk_eq (m : TImage) (x : TIns) (b : Bool) (h1 : 1 ≤ m.cells) (h2 : m.cells ≤ 6000) (h : ref_insOK m x = some b) : insOk m x = b := by
  have := (ins_eq m x h1 h2).2
  rw [h] at this
  exact (Option.some.inj this).symm

def begunCode : List TIns := lit [TIns.mk 1 0 0 0 0 0, TIns.mk 10 0 0 0 0 3, TIns.mk 9 0 0 0 0 0, TIns.mk 11 0 0 0 0 0, TIns.mk 4 0 0 0 0 0]
theorem begun_chk : imgF (TImage.mk 1 1 9 [] [] [] begunCode) = TFault.mk 0 0 := by
  unfold imgF
  rw [if_neg (by decide), if_neg (by decide)]
  have f1 : F1 (TImage.mk 1 1 9 [] [] [] begunCode) = .inl () := by rfl
  rw [f1]
  have f2 : F2 (TImage.mk 1 1 9 [] [] [] begunCode) = .inl () := by
    refine upto_none fun i hi => ?_
    have hi : i < 5 := hi
    have : insOk (TImage.mk 1 1 9 [] [] [] begunCode) (begunCode.getD i default) = true := by
      refine insOk_eq _ _ _ (by decide) (by decide) ?_
      have r2 : ∀ l : List Int, l.length ≤ 9000000 → ref_regsOK (TImage.mk 1 1 9 [] [] [] begunCode) l = some (l.all (regOk 1)) := fun l hl => regsOK_eq _ l hl
      obtain ⟨a', b', e2⟩ := opOf_eq (begunCode.getD i default).k
      unfold ref_insOK
      rw [e2]
      simp only [Option.bind_some]
      unfold ref_insOK_j1 ref_insOK_j2
      rw [r2 _ (by simp [lit]), r2 _ (by simp [lit]), r2 _ (by simp [lit])]
      match i, hi with
      | 0, _ => rfl
      | 1, _ => rfl
      | 2, _ => rfl
      | 3, _ => rfl
      | 4, _ => rfl
    simp only at this ⊢
    rw [this]; rfl
  rw [f2]
  decide

end Pam

/- What one instruction does: the program and the document do the same. -/
namespace Pam
open Go

theorem wrap_ok (n : Int) : okI .i64 (IntKind.wrap .i64 n) := by
  show -9223372036854775808 ≤ IntKind.wrap .i64 n ∧ IntKind.wrap .i64 n ≤ 9223372036854775807
  rw [IntKind.wrap_i64]; omega
theorem wrap_add_mul (x t : Int) : IntKind.wrap .i64 (x + 18446744073709551616 * t) = IntKind.wrap .i64 x := by
  simp only [IntKind.wrap_i64]
  have : (x + 18446744073709551616 * t + 9223372036854775808) = (x + 9223372036854775808) + 18446744073709551616 * t := by omega
  rw [this, Int.add_mul_emod_self_left]
theorem wrap_is (x : Int) : ∃ t, IntKind.wrap .i64 x = x + 18446744073709551616 * t := by
  refine ⟨-((x + 9223372036854775808) / 18446744073709551616), ?_⟩
  rw [IntKind.wrap_i64]; omega
theorem wrap_id {n : Int} (h : okI .i64 n) : IntKind.wrap .i64 n = n := wr h.1 h.2

theorem apply_mod (a b : Int) (ha : okI .i64 a) (hb : b ≠ 0) : okI .i64 (a.tmod b) ∧ IntKind.wrap .i64 (a - IntKind.wrap .i64 (IntKind.wrap .i64 (a.tdiv b) * b)) = a.tmod b := by
  have ha' : -9223372036854775808 ≤ a ∧ a ≤ 9223372036854775807 := ha
  have h1 := Int.mul_tdiv_add_tmod a b
  have hr : okI .i64 (a.tmod b) := by
    show -9223372036854775808 ≤ a.tmod b ∧ a.tmod b ≤ 9223372036854775807
    rcases Int.le_total 0 a with h | h
    · have h2 := Int.tmod_nonneg b h
      have h3 : a.tmod b ≤ a := by
        rw [Int.tmod_eq_emod_of_nonneg h]
        have h4 := Int.mul_ediv_add_emod a b
        have h5 : 0 ≤ b * (a / b) := by
          rcases Int.le_total 0 b with hb0 | hb0
          · exact Int.mul_nonneg hb0 (Int.ediv_nonneg h hb0)
          · exact Int.mul_nonneg_of_nonpos_of_nonpos hb0 (Int.ediv_nonpos_of_nonneg_of_nonpos h hb0)
        omega
      omega
    · have h2 : 0 ≤ (-a).tmod b := Int.tmod_nonneg b (by omega)
      have h3 : (-a).tmod b ≤ -a := by
        rw [Int.tmod_eq_emod_of_nonneg (by omega)]
        have h4 := Int.mul_ediv_add_emod (-a) b
        have h5 : 0 ≤ b * (-a / b) := by
          rcases Int.le_total 0 b with hb0 | hb0
          · exact Int.mul_nonneg hb0 (Int.ediv_nonneg (by omega) hb0)
          · exact Int.mul_nonneg_of_nonpos_of_nonpos hb0 (Int.ediv_nonpos_of_nonneg_of_nonpos (by omega) hb0)
        omega
      rw [Int.neg_tmod] at h2 h3
      omega
  refine ⟨hr, ?_⟩
  obtain ⟨t, ht⟩ := wrap_is (a.tdiv b)
  rw [ht]
  have e1 : (a.tdiv b + 18446744073709551616 * t) * b = a.tdiv b * b + 18446744073709551616 * (t * b) := by rw [Int.add_mul, Int.mul_assoc]
  rw [e1, wrap_add_mul]
  obtain ⟨t2, ht2⟩ := wrap_is (a.tdiv b * b)
  rw [ht2]
  have e2 : a - (a.tdiv b * b + 18446744073709551616 * t2) = a.tmod b + 18446744073709551616 * (-t2) := by rw [Int.mul_comm (a.tdiv b) b]; omega
  rw [e2, wrap_add_mul, wrap_id hr]

/-- an operator of numbers -/
noncomputable def app (k a b : Int) : Int := (sys_Apply k a b).getD 0
theorem apply_eq (k a b : Int) (ha : okI .i64 a) (hb : okI .i64 b) : sys_Apply k a b = some (app k a b) ∧ ref_Apply k a b = some (app k a b) ∧ okI .i64 (app k a b) := by
  have h01 : ∀ c : Bool, (if c = true then some (1 : Int) else some 0) = some (if c = true then 1 else 0) := fun c => by cases c <;> rfl
  have ok01 : ∀ c : Bool, okI .i64 (if c = true then (1 : Int) else 0) := fun c => by cases c <;> exact ⟨by decide, by decide⟩
  have key : ∀ v, sys_Apply k a b = some v → ref_Apply k a b = some v → okI .i64 v → sys_Apply k a b = some (app k a b) ∧ ref_Apply k a b = some (app k a b) ∧ okI .i64 (app k a b) := fun v h1 h2 h3 => by
    have : app k a b = v := by unfold app; rw [h1]; rfl
    rw [this]; exact ⟨h1, h2, h3⟩
  by_cases c1 : k = 1
  · exact key _ (by unfold sys_Apply; rw [if_pos c1]) (by unfold ref_Apply; rw [if_pos c1]) (wrap_ok _)
  by_cases c2 : k = 2
  · exact key _ (by unfold sys_Apply; rw [if_neg c1, if_pos c2]) (by unfold ref_Apply; rw [if_neg c1, if_pos c2]) (wrap_ok _)
  by_cases c3 : k = 3
  · exact key _ (by unfold sys_Apply; rw [if_neg c1, if_neg c2, if_pos c3]) (by unfold ref_Apply; rw [if_neg c1, if_neg c2, if_pos c3]) (wrap_ok _)
  by_cases c4 : k = 4
  · subst c4
    by_cases z : b = 0
    · exact key 0 (by simp [sys_Apply, sys_Apply_j1, sys_divide, z]) (by simp [ref_Apply, z]) ⟨by decide, by decide⟩
    · by_cases z1 : b = -1
      · subst z1
        exact key (IntKind.wrap .i64 (0 - a)) (by simp [sys_Apply, sys_Apply_j1, sys_divide, Int.tdiv_neg, Int.tdiv_one]) (by simp [ref_Apply]) (wrap_ok _)
      · exact key (IntKind.wrap .i64 (a.tdiv b)) (by simp [sys_Apply, sys_Apply_j1, sys_divide, z]) (by simp [ref_Apply, z, z1]) (wrap_ok _)
  by_cases c5 : k = 5
  · subst c5
    by_cases z : b = 0
    · exact key 0 (by simp [sys_Apply, sys_Apply_j1, sys_divide, z]) (by simp [ref_Apply, z]) ⟨by decide, by decide⟩
    · by_cases z1 : b = -1
      · subst z1
        exact key 0 (by simp [sys_Apply, sys_Apply_j1, sys_divide, Int.tmod_neg, Int.tmod_one]) (by simp [ref_Apply]) ⟨by decide, by decide⟩
      · obtain ⟨m1, m2⟩ := apply_mod a b ha z
        exact key (a.tmod b) (by simp [sys_Apply, sys_Apply_j1, sys_divide, z]) (by simp only [ref_Apply]; rw [if_neg (by decide), if_neg (by decide), if_neg (by decide), if_neg (by decide), if_neg (by decide), if_pos trivial, if_neg z, if_neg z1, if_pos z, m2]) m1
  by_cases c6 : k = 6
  · subst c6
    exact key (if b < a then b else a) (by simp [sys_Apply, sys_Apply_j1]) (by simp only [ref_Apply]; simp; split <;> rfl) (by split <;> assumption)
  by_cases c7 : k = 7
  · subst c7
    exact key (if b > a then b else a) (by simp [sys_Apply, sys_Apply_j1]) (by simp only [ref_Apply]; simp; split <;> rfl) (by split <;> assumption)
  by_cases c8 : k = 8
  · subst c8
    by_cases z : a < b
    · exact key 1 (by simp [sys_Apply, sys_Apply_j1, sys_truth, z]) (by simp [ref_Apply, ref_Apply_j1, z]) ⟨by decide, by decide⟩
    · exact key 0 (by simp [sys_Apply, sys_Apply_j1, sys_truth, z]) (by simp [ref_Apply, ref_Apply_j1, z]) ⟨by decide, by decide⟩
  by_cases c9 : k = 9
  · subst c9
    by_cases z : a = b
    · exact key 1 (by simp [sys_Apply, sys_Apply_j1, sys_truth, z]) (by simp [ref_Apply, ref_Apply_j1, z]) ⟨by decide, by decide⟩
    · exact key 0 (by simp [sys_Apply, sys_Apply_j1, sys_truth, z]) (by simp [ref_Apply, ref_Apply_j1, z]) ⟨by decide, by decide⟩
  by_cases c10 : k = 10
  · subst c10
    by_cases z : a = 0
    · exact key 0 (by simp [sys_Apply, sys_Apply_j1, sys_truth, z]) (by simp [ref_Apply, ref_Apply_j1, z]) ⟨by decide, by decide⟩
    · by_cases z2 : b = 0
      · exact key 0 (by simp [sys_Apply, sys_Apply_j1, sys_truth, z, z2]) (by simp [ref_Apply, ref_Apply_j1, z, z2]) ⟨by decide, by decide⟩
      · exact key 1 (by simp [sys_Apply, sys_Apply_j1, sys_truth, z, z2]) (by simp [ref_Apply, ref_Apply_j1, z, z2]) ⟨by decide, by decide⟩
  by_cases c11 : k = 11
  · subst c11
    by_cases z : a = 0
    · by_cases z2 : b = 0
      · exact key 0 (by simp [sys_Apply, sys_Apply_j1, sys_truth, z, z2]) (by simp [ref_Apply, ref_Apply_j1, z, z2]) ⟨by decide, by decide⟩
      · exact key 1 (by simp [sys_Apply, sys_Apply_j1, sys_truth, z, z2]) (by simp [ref_Apply, ref_Apply_j1, z, z2]) ⟨by decide, by decide⟩
    · exact key 1 (by simp [sys_Apply, sys_Apply_j1, sys_truth, z]) (by simp [ref_Apply, ref_Apply_j1, z]) ⟨by decide, by decide⟩
  by_cases c12 : k = 12
  · subst c12
    by_cases z : a = 0 <;> by_cases z2 : b = 0
    · exact key 0 (by simp [sys_Apply, sys_Apply_j1, sys_truth, z, z2]) (by simp [ref_Apply, ref_Apply_j1, z, z2]) ⟨by decide, by decide⟩
    · exact key 1 (by simp [sys_Apply, sys_Apply_j1, sys_truth, z, z2]) (by simp [ref_Apply, ref_Apply_j1, z, z2]) ⟨by decide, by decide⟩
    · exact key 1 (by simp [sys_Apply, sys_Apply_j1, sys_truth, z, z2]) (by simp [ref_Apply, ref_Apply_j1, z, z2]) ⟨by decide, by decide⟩
    · have e1 : (a != 0) = true := by simp [z]
      have e2 : (b != 0) = true := by simp [z2]
      have e3 : (a == 0) = false := by simp [z]
      have e4 : (b == 0) = false := by simp [z2]
      exact key 0 (by simp [sys_Apply, sys_Apply_j1, sys_truth, e1, e2]) (by simp [ref_Apply, ref_Apply_j1, e3, e4]) ⟨by decide, by decide⟩
  by_cases c13 : k = 13
  · subst c13
    exact key (IntKind.wrap .i64 (0 - a)) (by simp [sys_Apply, sys_Apply_j1]) (by simp [ref_Apply]) (wrap_ok _)
  by_cases c14 : k = 14
  · subst c14
    by_cases z : a = 0
    · exact key 1 (by simp [sys_Apply, sys_Apply_j1, sys_truth, z]) (by simp [ref_Apply, ref_Apply_j1, z]) ⟨by decide, by decide⟩
    · exact key 0 (by simp [sys_Apply, sys_Apply_j1, sys_truth, z]) (by simp [ref_Apply, ref_Apply_j1, z]) ⟨by decide, by decide⟩
  exact key 0 (by simp [sys_Apply, sys_Apply_j1, c1, c2, c3, c4, c5, c6, c7, c8, c9, c10, c11, c12, c13, c14]) (by simp [ref_Apply, ref_Apply_j1, c1, c2, c3, c4, c5, c6, c7, c8, c9, c10, c11, c12, c13, c14]) ⟨by decide, by decide⟩

/-- an instruction that may be, of so many cells and registers -/
def regV (nr r : Int) : Prop := 0 ≤ r ∧ r < nr
structure InsV (nc nr : Int) (x : TIns) : Prop where
  r : x.op = 1 ∨ x.op = 2 ∨ x.op = 3 ∨ x.op = 4 ∨ x.op = 5 ∨ x.op = 6 ∨ x.op = 7 ∨ x.op = 8 ∨ x.op = 9 ∨ x.op = 10 → regV nr x.r_
  a : x.op = 3 ∨ x.op = 5 ∨ x.op = 6 ∨ x.op = 7 ∨ x.op = 8 ∨ x.op = 9 → regV nr x.a
  b : x.op = 7 ∨ x.op = 8 → regV nr x.b
  n : x.op = 2 ∨ x.op = 4 ∨ x.op = 3 ∨ x.op = 5 → 0 ≤ x.n ∧ x.n < nc
  w : x.op = 3 ∨ x.op = 5 → x.b ≤ nc - x.n
  l : x.op = 10 → 1 ≤ x.n ∧ x.n ≤ 300
  k : 1 ≤ x.op ∧ x.op ≤ 11

theorem insV_of (m : TImage) (x : TIns) (h1 : 1 ≤ m.cells) (h2 : m.cells ≤ 6000) (h : ref_insOK m x = some true) : InsV m.cells m.regs x := by
  obtain ⟨a', b', e2⟩ := opOf_eq x.k
  have r2 : ∀ l : List Int, l.length ≤ 9000000 → ref_regsOK m l = some (l.all (regOk m.regs)) := fun l hl => regsOK_eq _ l hl
  unfold ref_insOK at h
  rw [e2] at h
  simp only [Option.bind_some] at h
  unfold ref_insOK_j1 ref_insOK_j2 at h
  have p1 := r2 (lit [x.r_]) (by simp [lit])
  have p2 := r2 (lit [x.r_, x.a]) (by simp [lit])
  have p3 := r2 (lit [x.r_, x.a, x.b]) (by simp [lit])
  rw [p1, p2, p3] at h
  simp only [Option.bind_some] at h
  have g1 : (lit [x.r_]).all (regOk m.regs) = true → regV m.regs x.r_ := fun h => by simpa [lit, regOk, regV] using h
  have g2 : (lit [x.r_, x.a]).all (regOk m.regs) = true → regV m.regs x.r_ ∧ regV m.regs x.a := fun h => by simpa [lit, regOk, regV, and_assoc] using h
  have g3 : (lit [x.r_, x.a, x.b]).all (regOk m.regs) = true → regV m.regs x.r_ ∧ regV m.regs x.a ∧ regV m.regs x.b := fun h => by simpa [lit, regOk, regV, and_assoc] using h
  generalize (lit [x.r_]).all (regOk m.regs) = q1 at h g1
  generalize (lit [x.r_, x.a]).all (regOk m.regs) = q2 at h g2
  generalize (lit [x.r_, x.a, x.b]).all (regOk m.regs) = q3 at h g3
  by_cases c1 : x.op = 1
  · rw [if_pos c1] at h
    simp only [Option.some.injEq] at h
    exact ⟨fun _ => g1 h, fun _ => by omega, fun _ => by omega, fun _ => by omega, fun _ => by omega, fun _ => by omega, by omega⟩
  rw [if_neg c1] at h
  have two : ∀ X Y : Prop, ∀ [Decidable X] [Decidable Y], (if q1 = true then (if X then some (decide Y) else some false) else some false) = some true → q1 = true ∧ X ∧ Y := by
    intro X Y _ _ h
    by_cases hq : q1 = true
    · rw [if_pos hq] at h
      by_cases hx : X
      · rw [if_pos hx] at h; exact ⟨hq, hx, by simpa using h⟩
      · rw [if_neg hx] at h; cases h
    · rw [if_neg hq] at h; cases h
  have four : ∀ X Y Z W : Prop, ∀ [Decidable X] [Decidable Y] [Decidable Z] [Decidable W], (if q2 = true then (if X then (if Y then (if Z then some (decide W) else some false) else some false) else some false) else some false) = some true → q2 = true ∧ X ∧ Y ∧ Z ∧ W := by
    intro X Y Z W _ _ _ _ h
    by_cases hq : q2 = true
    · rw [if_pos hq] at h
      by_cases hx : X
      · rw [if_pos hx] at h
        by_cases hy : Y
        · rw [if_pos hy] at h
          by_cases hz : Z
          · rw [if_pos hz] at h; exact ⟨hq, hx, hy, hz, by simpa using h⟩
          · rw [if_neg hz] at h; cases h
        · rw [if_neg hy] at h; cases h
      · rw [if_neg hx] at h; cases h
    · rw [if_neg hq] at h; cases h
  by_cases c2 : x.op = 2
  · rw [if_pos c2, if_pos (by simp [c2])] at h
    obtain ⟨k1, k2, k3⟩ := two _ _ h
    exact ⟨fun _ => g1 k1, fun _ => by omega, fun _ => by omega, fun _ => ⟨k2, k3⟩, fun _ => by omega, fun _ => by omega, by omega⟩
  rw [if_neg c2] at h
  by_cases c4 : x.op = 4
  · rw [if_pos (by simp [c4])] at h
    obtain ⟨k1, k2, k3⟩ := two _ _ h
    exact ⟨fun _ => g1 k1, fun _ => by omega, fun _ => by omega, fun _ => ⟨k2, k3⟩, fun _ => by omega, fun _ => by omega, by omega⟩
  rw [if_neg (by simp [c4])] at h
  by_cases c3 : x.op = 3
  · rw [if_pos c3, if_pos (by simp [c3])] at h
    obtain ⟨k1, k2, k3, k4, k5⟩ := four _ _ _ _ h
    rw [wr (by omega) (by omega)] at k5
    exact ⟨fun _ => (g2 k1).1, fun _ => (g2 k1).2, fun _ => by omega, fun _ => ⟨k2, k3⟩, fun _ => k5, fun _ => by omega, by omega⟩
  rw [if_neg c3] at h
  by_cases c5 : x.op = 5
  · rw [if_pos (by simp [c5])] at h
    obtain ⟨k1, k2, k3, k4, k5⟩ := four _ _ _ _ h
    rw [wr (by omega) (by omega)] at k5
    exact ⟨fun _ => (g2 k1).1, fun _ => (g2 k1).2, fun _ => by omega, fun _ => ⟨k2, k3⟩, fun _ => k5, fun _ => by omega, by omega⟩
  rw [if_neg (by simp [c5])] at h
  by_cases c6 : x.op = 6
  · rw [if_pos c6] at h
    cases hq : q2 with
    | false => rw [hq] at h; cases h
    | true => exact ⟨fun _ => (g2 hq).1, fun _ => (g2 hq).2, fun _ => by omega, fun _ => by omega, fun _ => by omega, fun _ => by omega, by omega⟩
  rw [if_neg c6] at h
  by_cases c7 : x.op = 7
  · rw [if_pos c7] at h
    cases hq : q3 with
    | false => rw [hq] at h; cases h
    | true => exact ⟨fun _ => (g3 hq).1, fun _ => (g3 hq).2.1, fun _ => (g3 hq).2.2, fun _ => by omega, fun _ => by omega, fun _ => by omega, by omega⟩
  rw [if_neg c7] at h
  by_cases c8 : x.op = 8
  · rw [if_pos c8] at h
    cases hq : q3 with
    | false => rw [hq] at h; cases h
    | true => exact ⟨fun _ => (g3 hq).1, fun _ => (g3 hq).2.1, fun _ => (g3 hq).2.2, fun _ => by omega, fun _ => by omega, fun _ => by omega, by omega⟩
  rw [if_neg c8] at h
  by_cases c9 : x.op = 9
  · rw [if_pos c9] at h
    cases hq : q2 with
    | false => rw [hq] at h; cases h
    | true => exact ⟨fun _ => (g2 hq).1, fun _ => (g2 hq).2, fun _ => by omega, fun _ => by omega, fun _ => by omega, fun _ => by omega, by omega⟩
  rw [if_neg c9] at h
  by_cases c10 : x.op = 10
  · rw [if_pos c10] at h
    obtain ⟨k1, k2, k3⟩ := two _ _ h
    exact ⟨fun _ => g1 k1, fun _ => by omega, fun _ => by omega, fun _ => by omega, fun _ => by omega, fun _ => ⟨k2, k3⟩, by omega⟩
  rw [if_neg c10] at h
  simp only [Option.some.injEq, beq_iff_eq] at h
  exact ⟨fun _ => by omega, fun _ => by omega, fun _ => by omega, fun _ => by omega, fun _ => by omega, fun _ => by omega, by omega⟩

/-- cells and registers as they should be -/
structure VGood (nc nr : Int) (c r : List Int) : Prop where
  lc : (c.length : Int) = nc
  lr : (r.length : Int) = nr
  oc : ∀ y ∈ c, okI .i64 y
  orr : ∀ y ∈ r, okI .i64 y

theorem okI_zero : okI .i64 0 := ⟨by decide, by decide⟩
theorem ok_getD {l : List Int} (h : ∀ y ∈ l, okI .i64 y) (i : Nat) : okI .i64 (l.getD i default) := by
  by_cases hi : i < l.length
  · exact h _ (getD_mem hi)
  · have : l.getD i default = 0 := by simp [List.getD, List.getElem?_eq_none (Nat.le_of_not_lt hi)]
    rw [this]; exact okI_zero
theorem ok_set {l : List Int} {i : Nat} {v : Int} (h : ∀ y ∈ l, okI .i64 y) (hv : okI .i64 v) : ∀ y ∈ l.set i v, okI .i64 y := fun y hy => by
  rcases List.mem_or_eq_of_mem_set hy with h' | rfl
  · exact h y h'
  · exact hv
theorem VGood.setR {nc nr : Int} {c r : List Int} (g : VGood nc nr c r) (i : Nat) {v : Int} (hv : okI .i64 v) : VGood nc nr c (r.set i v) := ⟨g.lc, by rw [List.length_set]; exact g.lr, g.oc, ok_set g.orr hv⟩
theorem VGood.setC {nc nr : Int} {c r : List Int} (g : VGood nc nr c r) (i : Nat) {v : Int} (hv : okI .i64 v) : VGood nc nr (c.set i v) r := ⟨by rw [List.length_set]; exact g.lc, g.lr, ok_set g.oc hv, g.orr⟩

/-- both do the same with an instruction that is no loop's -/
theorem one_eq {nc nr : Int} {x : TIns} {c r : List Int} (hnc : nc ≤ 6000) (hn : okI .i64 x.n) (hV : InsV nc nr x) (g : VGood nc nr c r) (h10 : x.op ≠ 10) (h11 : x.op ≠ 11) :
    ∃ b c' r', (∀ p2 p3 p4 p5 p6 p7 p8 p9, vm_VM_one x p2 p3 p4 p5 p6 p7 p8 p9 c r = some (b, c', r')) ∧ (∀ (p2 : Nat) p3 p4 p5 p6 p7 p8 p9 n, (p2 : Int) = nr → ref_Going_one_3 x p2 p3 p4 p5 p6 p7 p8 p9 n r c = some (b, IntKind.wrap .i64 (n + 1), r', c')) ∧ VGood nc nr c' r' := by
  obtain ⟨vr, va, vb, vn, vw, vl, vk⟩ := hV
  have gr := g.lr
  have gc := g.lc
  have R : x.op ≠ 11 → 0 ≤ x.r_ ∧ x.r_ < (r.length : Int) := fun h => by have := vr (by omega); unfold regV at this; omega
  have R' := R h11
  have R2 : ∀ p2 : Nat, (p2 : Int) = nr → (0 ≤ x.r_ ∧ x.r_ < (p2 : Int)) ∧ x.r_.toNat < r.length := fun p2 h => by omega
  have A : ∀ y : Int, regV nr y → (0 ≤ y ∧ y < (r.length : Int)) := fun y h => by unfold regV at h; omega
  have A2 : ∀ y : Int, regV nr y → ∀ p2 : Nat, (p2 : Int) = nr → (0 ≤ y ∧ y < (p2 : Int)) ∧ y.toNat < r.length := fun y h p2 hp => by unfold regV at h; omega
  by_cases c1 : x.op = 1
  · exact ⟨true, c, r.set x.r_.toNat x.n, fun p2 p3 p4 p5 p6 p7 p8 p9 => by unfold vm_VM_one; rw [if_pos c1, if_pos R'], fun p2 p3 p4 p5 p6 p7 p8 p9 n hp => by unfold ref_Going_one_3; rw [if_pos c1, if_pos (R2 p2 hp)], g.setR _ hn⟩
  by_cases c2 : x.op = 2
  · have N := vn (.inl c2)
    exact ⟨true, c, r.set x.r_.toNat (c.getD x.n.toNat default), fun p2 p3 p4 p5 p6 p7 p8 p9 => by unfold vm_VM_one; rw [if_neg c1, if_pos c2, if_pos ⟨by omega, R'⟩],
      fun p2 p3 p4 p5 p6 p7 p8 p9 n hp => by unfold ref_Going_one_3; rw [if_neg c1, if_pos c2, if_pos ⟨by omega, R2 p2 hp⟩], g.setR _ (ok_getD g.oc _)⟩
  by_cases c4 : x.op = 4
  · have N := vn (.inr (.inl c4))
    exact ⟨true, c.set x.n.toNat (r.getD x.r_.toNat default), r, fun p2 p3 p4 p5 p6 p7 p8 p9 => by unfold vm_VM_one; rw [if_neg c1, if_neg c2, if_pos c4, if_pos ⟨R', by omega⟩],
      fun p2 p3 p4 p5 p6 p7 p8 p9 n hp => by unfold ref_Going_one_3; rw [if_neg c1, if_neg c2, if_pos c4, if_pos (by have := R2 p2 hp; exact ⟨this.1, this.2, by omega⟩)], g.setC _ (ok_getD g.orr _)⟩
  by_cases c35 : x.op = 3 ∨ x.op = 5
  · have Aa := A _ (va (by omega))
    have N := vn (by omega)
    have Wd := vw c35
    have hjv : ∀ p2 p3 p4 p5 p6 p7 p8 p9, vm_VM_one x p2 p3 p4 p5 p6 p7 p8 p9 c r = vm_VM_one_j1 x c r true := by
      intro p2 p3 p4 p5 p6 p7 p8 p9
      unfold vm_VM_one
      rw [if_neg c1, if_neg c2, if_neg c4]
      rcases c35 with e | e
      · rw [if_pos e]; simp [e]
      · rw [if_neg (by omega)]; simp [e]
    by_cases z : r.getD x.a.toNat default < 0 ∨ r.getD x.a.toNat default ≥ x.b
    · refine ⟨false, c, r, fun p2 p3 p4 p5 p6 p7 p8 p9 => ?_, fun p2 p3 p4 p5 p6 p7 p8 p9 n hp => ?_, g⟩
      · rw [hjv]
        unfold vm_VM_one_j1
        rw [if_pos rfl, if_pos Aa]
        by_cases z1 : r.getD x.a.toNat default < 0
        · rw [if_pos z1]
        · rw [if_neg z1, if_pos (by omega)]
      · have Ap := A2 _ (va (by omega)) p2 hp
        unfold ref_Going_one_3
        rw [if_neg c1, if_neg c2, if_neg c4]
        rcases c35 with e | e
        · rw [if_pos e]
          by_cases z1 : r.getD x.a.toNat default < 0
          · rw [if_pos z1, if_pos Ap]
          · rw [if_neg z1, if_pos Ap, if_pos (by omega)]
        · rw [if_neg (by omega), if_pos e]
          by_cases z1 : r.getD x.a.toNat default < 0
          · rw [if_pos z1, if_pos Ap]
          · rw [if_neg z1, if_pos Ap, if_pos (by omega)]
    · have z1 : ¬ r.getD x.a.toNat default < 0 := fun h => z (.inl h)
      have z2 : ¬ r.getD x.a.toNat default ≥ x.b := fun h => z (.inr h)
      have hw : IntKind.wrap .i64 (x.n + r.getD x.a.toNat default) = x.n + r.getD x.a.toNat default := wr (by omega) (by omega)
      have hin : 0 ≤ x.n + r.getD x.a.toNat default ∧ x.n + r.getD x.a.toNat default < (c.length : Int) := by omega
      by_cases c3 : x.op = 3
      · refine ⟨true, c, r.set x.r_.toNat (c.getD (x.n + r.getD x.a.toNat default).toNat default), fun p2 p3 p4 p5 p6 p7 p8 p9 => ?_, fun p2 p3 p4 p5 p6 p7 p8 p9 n hp => ?_, g.setR _ (ok_getD g.oc _)⟩
        · rw [hjv]
          unfold vm_VM_one_j1
          rw [if_pos rfl, if_pos Aa, if_neg z1, if_neg z2, if_pos c3, hw, if_pos ⟨hin, R'⟩]
        · have Ap := A2 _ (va (by omega)) p2 hp
          unfold ref_Going_one_3
          rw [if_neg c1, if_neg c2, if_neg c4, if_pos c3, if_neg z1, if_pos Ap, if_neg z2, hw, if_pos ⟨hin, R2 p2 hp⟩]
      · have c5 : x.op = 5 := by omega
        refine ⟨true, c.set (x.n + r.getD x.a.toNat default).toNat (r.getD x.r_.toNat default), r, fun p2 p3 p4 p5 p6 p7 p8 p9 => ?_, fun p2 p3 p4 p5 p6 p7 p8 p9 n hp => ?_, g.setC _ (ok_getD g.orr _)⟩
        · rw [hjv]
          unfold vm_VM_one_j1
          rw [if_pos rfl, if_pos Aa, if_neg z1, if_neg z2, if_neg c3, hw, if_pos ⟨R', hin⟩]
        · have Ap := A2 _ (va (by omega)) p2 hp
          unfold ref_Going_one_3
          rw [if_neg c1, if_neg c2, if_neg c4, if_neg c3, if_pos c5, if_neg z1, if_pos Ap, if_neg z2, hw, if_pos (by have := R2 p2 hp; exact ⟨this.1, this.2, hin⟩)]
  have c3 : x.op ≠ 3 := fun h => c35 (.inl h)
  have c5 : x.op ≠ 5 := fun h => c35 (.inr h)
  have hjv : ∀ p2 p3 p4 p5 p6 p7 p8 p9, vm_VM_one x p2 p3 p4 p5 p6 p7 p8 p9 c r = vm_VM_one_j1 x c r false := by
    intro p2 p3 p4 p5 p6 p7 p8 p9
    unfold vm_VM_one
    rw [if_neg c1, if_neg c2, if_neg c4, if_neg c3, show (x.op == 5) = false from beq_eq_false_iff_ne.2 c5]
  have hjv' : ∀ p2 p3 p4 p5 p6 p7 p8 p9 v, vm_VM_one_j1 x c r false = v → vm_VM_one x p2 p3 p4 p5 p6 p7 p8 p9 c r = v := fun p2 p3 p4 p5 p6 p7 p8 p9 v h => (hjv ..).trans h
  by_cases c6 : x.op = 6
  · have Va := va (by omega)
    obtain ⟨a1, a2, a3⟩ := apply_eq x.k (r.getD x.a.toNat default) 0 (ok_getD g.orr _) okI_zero
    refine ⟨true, c, r.set x.r_.toNat (app x.k (r.getD x.a.toNat default) 0), fun p2 p3 p4 p5 p6 p7 p8 p9 => hjv' _ _ _ _ _ _ _ _ _ ?_, fun p2 p3 p4 p5 p6 p7 p8 p9 n hp => ?_, g.setR _ a3⟩
    · unfold vm_VM_one_j1; rw [if_neg (by decide), if_pos c6, if_pos (A _ Va), a1]; simp only [Option.bind_some]; rw [if_pos R']
    · unfold ref_Going_one_3; rw [if_neg c1, if_neg c2, if_neg c4, if_neg c3, if_neg c5, if_pos c6, if_pos (A2 _ Va p2 hp), a2]; simp only [Option.bind_some]; rw [if_pos (R2 p2 hp)]
  by_cases c7 : x.op = 7
  · have Va := va (by omega)
    have Vb := vb (by omega)
    obtain ⟨a1, a2, a3⟩ := apply_eq x.k (r.getD x.a.toNat default) (r.getD x.b.toNat default) (ok_getD g.orr _) (ok_getD g.orr _)
    refine ⟨true, c, r.set x.r_.toNat (app x.k (r.getD x.a.toNat default) (r.getD x.b.toNat default)), fun p2 p3 p4 p5 p6 p7 p8 p9 => hjv' _ _ _ _ _ _ _ _ _ ?_, fun p2 p3 p4 p5 p6 p7 p8 p9 n hp => ?_, g.setR _ a3⟩
    · unfold vm_VM_one_j1; rw [if_neg (by decide), if_neg c6, if_pos c7, if_pos ⟨A _ Va, A _ Vb⟩, a1]; simp only [Option.bind_some]; rw [if_pos R']
    · have q1 := A2 _ Va p2 hp
      have q2 := A2 _ Vb p2 hp
      unfold ref_Going_one_3; rw [if_neg c1, if_neg c2, if_neg c4, if_neg c3, if_neg c5, if_neg c6, if_pos c7, if_pos ⟨q1.1, q1.2, q2⟩, a2]; simp only [Option.bind_some]; rw [if_pos (R2 p2 hp)]
  by_cases c8 : x.op = 8
  · have Va := va (by omega)
    have Vb := vb (by omega)
    by_cases z : r.getD x.r_.toNat default = 0
    · refine ⟨true, c, r.set x.r_.toNat (r.getD x.b.toNat default), fun p2 p3 p4 p5 p6 p7 p8 p9 => hjv' _ _ _ _ _ _ _ _ _ ?_, fun p2 p3 p4 p5 p6 p7 p8 p9 n hp => ?_, g.setR _ (ok_getD g.orr _)⟩
      · unfold vm_VM_one_j1; rw [if_neg (by decide), if_neg c6, if_neg c7, if_pos c8, if_pos R', if_neg (fun h => h z), if_pos (A _ Vb)]
      · unfold ref_Going_one_3; rw [if_neg c1, if_neg c2, if_neg c4, if_neg c3, if_neg c5, if_neg c6, if_neg c7, if_pos c8, if_pos (R2 p2 hp), if_pos z, if_pos (A2 _ Vb p2 hp)]
    · refine ⟨true, c, r.set x.r_.toNat (r.getD x.a.toNat default), fun p2 p3 p4 p5 p6 p7 p8 p9 => hjv' _ _ _ _ _ _ _ _ _ ?_, fun p2 p3 p4 p5 p6 p7 p8 p9 n hp => ?_, g.setR _ (ok_getD g.orr _)⟩
      · unfold vm_VM_one_j1; rw [if_neg (by decide), if_neg c6, if_neg c7, if_pos c8, if_pos R', if_pos z, if_pos (A _ Va)]
      · unfold ref_Going_one_3; rw [if_neg c1, if_neg c2, if_neg c4, if_neg c3, if_neg c5, if_neg c6, if_neg c7, if_pos c8, if_pos (R2 p2 hp), if_neg z, if_pos (A2 _ Va p2 hp)]
  have c9 : x.op = 9 := by omega
  have Va := va (by omega)
  refine ⟨true, c, r.set x.r_.toNat (r.getD x.a.toNat default), fun p2 p3 p4 p5 p6 p7 p8 p9 => hjv' _ _ _ _ _ _ _ _ _ ?_, fun p2 p3 p4 p5 p6 p7 p8 p9 n hp => ?_, g.setR _ (ok_getD g.orr _)⟩
  · unfold vm_VM_one_j1; rw [if_neg (by decide), if_neg c6, if_neg c7, if_neg c8, if_pos c9, if_pos ⟨A _ Va, R'⟩]
  · have q1 := A2 _ Va p2 hp
    have q2 := R2 p2 hp
    unfold ref_Going_one_3; rw [if_neg c1, if_neg c2, if_neg c4, if_neg c3, if_neg c5, if_neg c6, if_neg c7, if_neg c8, if_pos c9, if_pos ⟨q1.1, q1.2, q2⟩]
end Pam

/- All instructions of code: the program's flat walk and the document's loops in loops do the same. -/
namespace Pam
open Go

/-- code in its parts, and what it costs -/
inductive Flat : List TIns → Int → Prop
  | nil : Flat [] 0
  | one {x : TIns} {l : List TIns} {K : Int} : x.op ≠ 10 → x.op ≠ 11 → Flat l K → Flat (x :: l) (1 + K)
  | loop {x : TIns} {body : List TIns} {y : TIns} {l : List TIns} {K : Int} : x.op = 10 → 1 ≤ x.n → x.n ≤ 300 → (∀ z ∈ body, z.op ≠ 10 ∧ z.op ≠ 11) → y.op = 11 → Flat l K →
      Flat (x :: (body ++ y :: l)) (1 + x.n * (body.length + 1) + K)

theorem loop_part : ∀ (l : List TIns) (q N : Int), costL q N 1 l ≠ 0 → ∃ body y l', l = body ++ y :: l' ∧ (∀ z ∈ body, z.op ≠ 10 ∧ z.op ≠ 11) ∧ y.op = 11 ∧ costL q N 1 l = costL (q + N * (body.length + 1)) 1 0 l'
  | [], q, N, h => by simp [costL] at h
  | x :: l, q, N, h => by
    simp only [costL] at h ⊢
    by_cases c1 : x.op = 10
    · rw [if_pos c1, if_pos (by omega)] at h; exact (h rfl).elim
    rw [if_neg c1] at h ⊢
    by_cases c2 : x.op = 11
    · rw [if_pos c2, if_neg (by omega)] at h ⊢
      exact ⟨[], x, l, rfl, by simp, c2, by simp⟩
    · rw [if_neg c2] at h ⊢
      obtain ⟨body, y, l', e1, e2, e3, e4⟩ := loop_part l _ _ h
      refine ⟨x :: body, y, l', by rw [e1]; rfl, ?_, e3, ?_⟩
      · intro z hz
        rcases List.mem_cons.1 hz with rfl | hz
        · exact ⟨c1, c2⟩
        · exact e2 z hz
      · rw [e4]; congr 1
        simp only [List.length_cons]
        rw [Int.add_assoc, show ((body.length + 1 : Nat) : Int) + 1 = 1 + ((body.length : Int) + 1) by omega, Int.mul_add N 1, Int.mul_one]

theorem flat_of : ∀ (k : Nat) (l : List TIns), l.length ≤ k → ∀ q, costL q 1 0 l ≠ 0 ∨ l = [] → ∃ K, Flat l K ∧ costL q 1 0 l = q + K
  | k, [], _, q, _ => ⟨0, .nil, by simp [costL]⟩
  | 0, x :: l, h, _, _ => by simp at h
  | k + 1, x :: l, h, q, hc => by
    have hc : costL q 1 0 (x :: l) ≠ 0 := by rcases hc with hc | hc; exact hc; cases hc
    simp only [List.length_cons] at h
    simp only [costL] at hc ⊢
    by_cases c1 : x.op = 10
    · rw [if_pos c1] at hc ⊢
      by_cases c2 : (1 : Int) > 1 ∨ (0 : Int) > 0 ∨ x.n < 1 ∨ x.n > 300
      · rw [if_pos c2] at hc; exact (hc rfl).elim
      · rw [if_neg c2] at hc ⊢
        obtain ⟨body, y, l', e1, e2, e3, e4⟩ := loop_part l _ _ hc
        rw [e4] at hc
        have hl' : l'.length ≤ k := by rw [e1] at h; simp at h; omega
        obtain ⟨K, f1, f2⟩ := flat_of k l' hl' _ (.inl hc)
        refine ⟨1 + x.n * (body.length + 1) + K, ?_, ?_⟩
        · rw [e1]; exact .loop c1 (by omega) (by omega) e2 e3 f1
        · rw [e4, f2]; omega
    · rw [if_neg c1] at hc ⊢
      by_cases c2 : x.op = 11
      · rw [if_pos c2, if_pos trivial] at hc; exact (hc rfl).elim
      · rw [if_neg c2] at hc ⊢
        obtain ⟨K, f1, f2⟩ := flat_of k l (by omega) _ (.inl hc)
        exact ⟨1 + K, .one c1 c2 f1, by rw [f2]; omega⟩

abbrev VS := Int × List Int × List Int
noncomputable def act (x : TIns) (c r : List Int) : Bool × List Int × List Int := (vm_VM_one x 0 0 0 [] [] [] [] 0 c r).getD (false, c, r)

/-- what is known of an image that may be run -/
structure Ctx (m : TImage) : Prop where
  c1 : 1 ≤ m.cells
  c2 : m.cells ≤ 6000
  r1 : 1 ≤ m.regs
  r2 : m.regs ≤ 40
  v : ∀ i, i < m.code.length → InsV m.cells m.regs (m.code.getD i default)
  n : ∀ i, okI .i64 (m.code.getD i default).n
  len : m.code.length ≤ 200000

theorem act_eq {m : TImage} (C : Ctx m) {i : Nat} (hi : i < m.code.length) {c r : List Int} (g : VGood m.cells m.regs c r) (h10 : (m.code.getD i default).op ≠ 10) (h11 : (m.code.getD i default).op ≠ 11) :
    VGood m.cells m.regs (act (m.code.getD i default) c r).2.1 (act (m.code.getD i default) c r).2.2 ∧
    (∀ p2 p3 p4 p5 p6 p7 p8 p9, vm_VM_one (m.code.getD i default) p2 p3 p4 p5 p6 p7 p8 p9 c r = some (act (m.code.getD i default) c r)) ∧
    (∀ p3 p4 p5 p6 p7 p8 p9 n, ref_Going_one_3 (m.code.getD i default) m.regs.toNat p3 p4 p5 p6 p7 p8 p9 n r c = some ((act (m.code.getD i default) c r).1, IntKind.wrap .i64 (n + 1), (act (m.code.getD i default) c r).2.2, (act (m.code.getD i default) c r).2.1)) := by
  obtain ⟨b, c', r', e1, e2, e3⟩ := one_eq (hnc := C.c2) (C.n i) (C.v i hi) g h10 h11
  have : act (m.code.getD i default) c r = (b, c', r') := by unfold act; rw [e1]; rfl
  rw [this]
  have hr := C.r1
  exact ⟨e3, e1, fun p3 p4 p5 p6 p7 p8 p9 n => e2 m.regs.toNat p3 p4 p5 p6 p7 p8 p9 n (by omega)⟩

/-- so many instructions that are no loops', one behind the other -/
noncomputable def plain (code : List TIns) : Nat → Nat → VS → VS ⊕ (Nat × VS)
  | 0, _, s => .inl s
  | k + 1, i, s => if (act (code.getD i default) s.2.1 s.2.2).1 = true then plain code k (i + 1) (IntKind.wrap .i64 (s.1 + 1), (act (code.getD i default) s.2.1 s.2.2).2)
      else .inr (i, IntKind.wrap .i64 (s.1 + 1), (act (code.getD i default) s.2.1 s.2.2).2)

noncomputable def vmL (m : TImage) (n : Int) (c r : List Int) (f t i : Int) := loop (fun (x31, l32, l33, x34, x35, x36) => vm_VM_run_l1 m.cells m.regs m.cost m.put m.bools m.get m.code x31 l32 l33 x34 x35 x36) (n, c, r, f, t, i)
noncomputable def refI (m : TImage) (e : Int) (n : Int) (c r : List Int) (i : Int) := loop (fun (x79, l80, l81, x82) => ref_Going_all_l3 m.cells m.regs m.cost m.put m.bools m.get m.code e x79 l80 l81 x82) (n, c, r, i)
noncomputable def refT (m : TImage) (a e : Int) (n : Int) (c r : List Int) (t : Int) := loop (fun (x51, l52, l53, x54) => ref_Going_all_l2 m.cells m.regs m.cost m.put m.bools m.get m.code a e x51 l52 l53 x54) (n, c, r, t)
noncomputable def refL (m : TImage) (n : Int) (c r : List Int) (i : Int) := loop (fun (x20, l21, l22, x23) => ref_Going_all_l1 m.cells m.regs m.cost m.put m.bools m.get m.code x20 l21 l22 x23) (n, c, r, i)

theorem vm_one {m : TImage} (C : Ctx m) {i : Nat} (hi : i < m.code.length) {c r : List Int} (g : VGood m.cells m.regs c r) (h10 : (m.code.getD i default).op ≠ 10) (h11 : (m.code.getD i default).op ≠ 11) (n f t : Int) :
    vmL m n c r f t i = if (act (m.code.getD i default) c r).1 = true then vmL m (IntKind.wrap .i64 (n + 1)) (act (m.code.getD i default) c r).2.1 (act (m.code.getD i default) c r).2.2 f t ((i + 1 : Nat) : Int)
      else some (.inr ((i : Int), (act (m.code.getD i default) c r).2.2, IntKind.wrap .i64 (n + 1), (act (m.code.getD i default) c r).2.1)) := by
  obtain ⟨_, e1, _⟩ := act_eq C hi g h10 h11
  have hl := C.len
  have hb : vm_VM_run_l1 m.cells m.regs m.cost m.put m.bools m.get m.code n c r f t i = if (act (m.code.getD i default) c r).1 = true then some (.inl (IntKind.wrap .i64 (n + 1), (act (m.code.getD i default) c r).2.1, (act (m.code.getD i default) c r).2.2, f, t, ((i + 1 : Nat) : Int)))
      else some (.inr (.inr ((i : Int), (act (m.code.getD i default) c r).2.2, IntKind.wrap .i64 (n + 1), (act (m.code.getD i default) c r).2.1))) := by
    unfold vm_VM_run_l1
    rw [if_pos (ltI hi), if_pos (inI hi), Int.toNat_natCast, if_neg h10, if_neg h11, e1, wrs i (by omega)]
    rfl
  by_cases h : (act (m.code.getD i default) c r).1 = true
  · rw [if_pos h] at hb ⊢; unfold vmL; rw [loop_next hb]
  · rw [if_neg h] at hb ⊢; unfold vmL; exact loop_done hb

theorem vm_plain {m : TImage} (C : Ctx m) (f t : Int) : ∀ (k i : Nat) (s : VS), VGood m.cells m.regs s.2.1 s.2.2 → i + k ≤ m.code.length → (∀ j, i ≤ j → j < i + k → (m.code.getD j default).op ≠ 10 ∧ (m.code.getD j default).op ≠ 11) →
    match plain m.code k i s with
    | .inl s' => vmL m s.1 s.2.1 s.2.2 f t i = vmL m s'.1 s'.2.1 s'.2.2 f t ((i + k : Nat) : Int) ∧ VGood m.cells m.regs s'.2.1 s'.2.2
    | .inr (j, s') => vmL m s.1 s.2.1 s.2.2 f t i = some (.inr ((j : Int), s'.2.2, s'.1, s'.2.1)) ∧ VGood m.cells m.regs s'.2.1 s'.2.2
  | 0, i, s, g, _, _ => ⟨rfl, g⟩
  | k + 1, i, s, g, hk, hp => by
    obtain ⟨h10, h11⟩ := hp i (Nat.le_refl _) (by omega)
    have hi : i < m.code.length := by omega
    have g' := (act_eq C hi g h10 h11).1
    rw [vm_one C hi g h10 h11]
    unfold plain
    by_cases h : (act (m.code.getD i default) s.2.1 s.2.2).1 = true
    · rw [if_pos h, if_pos h]
      have ih := vm_plain C f t k (i + 1) (IntKind.wrap .i64 (s.1 + 1), (act (m.code.getD i default) s.2.1 s.2.2).2) g' (by omega) fun j h1 h2 => hp j (by omega) (by omega)
      rw [show i + (k + 1) = i + 1 + k by omega]
      exact ih
    · rw [if_neg h, if_neg h]
      exact ⟨rfl, g'⟩

theorem ref_plain {m : TImage} (C : Ctx m) (e : Nat) (he : e ≤ m.code.length) : ∀ (k i : Nat) (s : VS), VGood m.cells m.regs s.2.1 s.2.2 → i + k = e → (∀ j, i ≤ j → j < e → (m.code.getD j default).op ≠ 10 ∧ (m.code.getD j default).op ≠ 11) →
    refI m e s.1 s.2.1 s.2.2 i = match plain m.code k i s with
    | .inl s' => some (.inl s')
    | .inr (j, s') => some (.inr ((j : Int), s'.1, s'.2.1))
  | 0, i, s, g, hk, _ => by
    have : i = e := by omega
    subst this
    unfold refI
    exact loop_done (by show ref_Going_all_l3 _ _ _ _ _ _ _ _ _ _ _ _ = _; unfold ref_Going_all_l3; rw [if_neg (by omega)])
  | k + 1, i, s, g, hk, hp => by
    obtain ⟨h10, h11⟩ := hp i (Nat.le_refl _) (by omega)
    have hi : i < m.code.length := by omega
    obtain ⟨g', _, e2⟩ := act_eq C hi g h10 h11
    have hl := C.len
    have hb : ref_Going_all_l3 m.cells m.regs m.cost m.put m.bools m.get m.code e s.1 s.2.1 s.2.2 i = if (act (m.code.getD i default) s.2.1 s.2.2).1 = true then some (.inl (IntKind.wrap .i64 (s.1 + 1), (act (m.code.getD i default) s.2.1 s.2.2).2.1, (act (m.code.getD i default) s.2.1 s.2.2).2.2, ((i + 1 : Nat) : Int)))
        else some (.inr (.inr ((i : Int), IntKind.wrap .i64 (s.1 + 1), (act (m.code.getD i default) s.2.1 s.2.2).2.1))) := by
      unfold ref_Going_all_l3
      rw [if_pos (by omega), if_pos (inI hi), Int.toNat_natCast, e2, wrs i (by omega)]
      rfl
    unfold plain
    by_cases h : (act (m.code.getD i default) s.2.1 s.2.2).1 = true
    · rw [if_pos h] at hb ⊢
      unfold refI
      rw [loop_next hb]
      exact ref_plain C e he k (i + 1) (IntKind.wrap .i64 (s.1 + 1), (act (m.code.getD i default) s.2.1 s.2.2).2) g' (by omega) fun j h1 h2 => hp j (by omega) (by omega)
    · rw [if_neg h] at hb ⊢
      unfold refI
      exact loop_done hb

/-- the turns of the loop at i, which ends at e, from the turn t on -/
noncomputable def turns (code : List TIns) (i e : Nat) : Nat → Nat → VS → VS ⊕ (Nat × VS)
  | 0, _, s => .inl s
  | k + 1, t, s => match plain code (e - (i + 1)) (i + 1) (s.1, s.2.1, s.2.2.set (code.getD i default).r_.toNat t) with
    | .inl s' => turns code i e k (t + 1) (IntKind.wrap .i64 (s'.1 + 1), s'.2)
    | .inr q => .inr q

theorem okI_nat {t : Nat} (h : t ≤ 300) : okI .i64 (t : Int) := ⟨by show (-9223372036854775808 : Int) ≤ _; omega, by show (_ : Int) ≤ 9223372036854775807; omega⟩

theorem vm_turns {m : TImage} (C : Ctx m) {i e : Nat} (hie : i < e) (he : e < m.code.length) (h10 : (m.code.getD i default).op = 10) (h11 : (m.code.getD e default).op = 11)
    (hp : ∀ j, i + 1 ≤ j → j < e → (m.code.getD j default).op ≠ 10 ∧ (m.code.getD j default).op ≠ 11) : ∀ (k t : Nat) (s : VS), VGood m.cells m.regs s.2.1 s.2.2 → ((t + (k + 1) : Nat) : Int) = (m.code.getD i default).n → 
    match turns m.code i e (k + 1) t s with
    | .inl s' => vmL m s.1 s.2.1 (s.2.2.set (m.code.getD i default).r_.toNat t) i t ((i + 1 : Nat) : Int) = vmL m s'.1 s'.2.1 s'.2.2 i ((t + (k + 1) : Nat) : Int) ((e + 1 : Nat) : Int) ∧ VGood m.cells m.regs s'.2.1 s'.2.2
    | .inr (j, s') => vmL m s.1 s.2.1 (s.2.2.set (m.code.getD i default).r_.toNat t) i t ((i + 1 : Nat) : Int) = some (.inr ((j : Int), s'.2.2, s'.1, s'.2.1)) ∧ VGood m.cells m.regs s'.2.1 s'.2.2 := by
  intro k
  induction k with
  | zero =>
    intro t s g ht
    have hv := C.v i (by omega)
    have hN := hv.l h10
    have g0 : VGood m.cells m.regs s.2.1 (s.2.2.set (m.code.getD i default).r_.toNat t) := g.setR _ (okI_nat (by omega))
    have hpl := vm_plain C (i : Int) (t : Int) (e - (i + 1)) (i + 1) (s.1, s.2.1, s.2.2.set (m.code.getD i default).r_.toNat t) g0 (by omega) fun j h1 h2 => hp j h1 (by omega)
    unfold turns
    revert hpl
    cases hq : plain m.code (e - (i + 1)) (i + 1) (s.1, s.2.1, s.2.2.set (m.code.getD i default).r_.toNat t) with
    | inr q => exact fun h => h
    | inl s' =>
      simp only [turns]
      rintro ⟨h1, g'⟩
      rw [show i + 1 + (e - (i + 1)) = e by omega] at h1
      refine ⟨h1.trans ?_, g'⟩
      have hl := C.len
      unfold vmL
      refine loop_next ?_
      show vm_VM_run_l1 _ _ _ _ _ _ _ _ _ _ _ _ _ = _
      unfold vm_VM_run_l1
      rw [if_pos (ltI he), if_pos (inI he), Int.toNat_natCast, if_neg (by omega), if_pos h11, if_pos (inI (by omega)), Int.toNat_natCast, wrs t (by omega), if_neg (by omega), wrs e (by omega)]
  | succ k ih =>
    intro t s g ht
    have hv := C.v i (by omega)
    have hN := hv.l h10
    have hR := hv.r (by omega)
    have g0 : VGood m.cells m.regs s.2.1 (s.2.2.set (m.code.getD i default).r_.toNat t) := g.setR _ (okI_nat (by omega))
    have hpl := vm_plain C (i : Int) (t : Int) (e - (i + 1)) (i + 1) (s.1, s.2.1, s.2.2.set (m.code.getD i default).r_.toNat t) g0 (by omega) fun j h1 h2 => hp j h1 (by omega)
    unfold turns
    revert hpl
    cases hq : plain m.code (e - (i + 1)) (i + 1) (s.1, s.2.1, s.2.2.set (m.code.getD i default).r_.toNat t) with
    | inr q => exact fun h => h
    | inl s' =>
      simp only
      rintro ⟨h1, g'⟩
      rw [show i + 1 + (e - (i + 1)) = e by omega] at h1
      have hl := C.len
      have h2 : vmL m s'.1 s'.2.1 s'.2.2 i t e = vmL m (IntKind.wrap .i64 (s'.1 + 1)) s'.2.1 (s'.2.2.set (m.code.getD i default).r_.toNat ((t + 1 : Nat) : Int)) i ((t + 1 : Nat) : Int) ((i + 1 : Nat) : Int) := by
        unfold vmL
        refine loop_next ?_
        show vm_VM_run_l1 _ _ _ _ _ _ _ _ _ _ _ _ _ = _
        have hlr := g'.lr
        unfold regV at hR
        unfold vm_VM_run_l1
        rw [if_pos (ltI he), if_pos (inI he), Int.toNat_natCast, if_neg (by omega), if_pos h11, if_pos (inI (by omega)), Int.toNat_natCast, wrs t (by omega), if_pos (by omega), if_pos ⟨hR.1, by omega⟩, wrs i (by omega)]
      have h3 := ih (t + 1) (IntKind.wrap .i64 (s'.1 + 1), s'.2) g' (by omega)
      rw [show t + 1 + (k + 1) = t + (k + 1 + 1) by omega] at h3
      revert h3
      cases turns m.code i e (k + 1) (t + 1) (IntKind.wrap .i64 (s'.1 + 1), s'.2) with
      | inl s2 => exact fun h => ⟨h1.trans (h2.trans h.1), h.2⟩
      | inr q => exact fun h => ⟨h1.trans (h2.trans h.1), h.2⟩

theorem ref_turns {m : TImage} (C : Ctx m) {i e : Nat} (hie : i < e) (he : e < m.code.length) (h10 : (m.code.getD i default).op = 10)
    (hp : ∀ j, i + 1 ≤ j → j < e → (m.code.getD j default).op ≠ 10 ∧ (m.code.getD j default).op ≠ 11) : ∀ (k t : Nat) (s : VS), VGood m.cells m.regs s.2.1 s.2.2 → ((t + k : Nat) : Int) = (m.code.getD i default).n → 
    refT m i e s.1 s.2.1 s.2.2 t = match turns m.code i e k t s with
    | .inl s' => some (.inl s')
    | .inr (j, s') => some (.inr ((j : Int), s'.1, s'.2.1)) := by
  intro k
  induction k with
  | zero =>
    intro t s g ht
    unfold refT
    refine loop_done ?_
    show ref_Going_all_l2 _ _ _ _ _ _ _ _ _ _ _ _ _ = _
    unfold ref_Going_all_l2
    rw [Int.toNat_natCast, if_neg (by omega)]
  | succ k ih =>
    intro t s g ht
    have hv := C.v i (by omega)
    have hN := hv.l h10
    have hR := hv.r (by omega)
    have hl := C.len
    have hlr := g.lr
    unfold regV at hR
    have g0 : VGood m.cells m.regs s.2.1 (s.2.2.set (m.code.getD i default).r_.toNat t) := g.setR _ (okI_nat (by omega))
    have hpl := ref_plain C e (by omega) (e - (i + 1)) (i + 1) (s.1, s.2.1, s.2.2.set (m.code.getD i default).r_.toNat t) g0 (by omega) fun j h1 h2 => hp j h1 h2
    have hb : ref_Going_all_l2 m.cells m.regs m.cost m.put m.bools m.get m.code i e s.1 s.2.1 s.2.2 t = (refI m e s.1 s.2.1 (s.2.2.set (m.code.getD i default).r_.toNat t) ((i + 1 : Nat) : Int)).bind (Sum.elim (fun (z84, z85, z86) => ref_Going_all_j6 t z84 z85 z86) (fun z87 => some (.inr (.inr z87)))) := by
      unfold ref_Going_all_l2
      rw [Int.toNat_natCast, if_pos (by omega), if_pos ⟨⟨hR.1, by omega⟩, by omega⟩, wrs i (by omega)]
      rfl
    rw [hpl] at hb
    unfold turns
    have hpg := vm_plain C 0 0 (e - (i + 1)) (i + 1) (s.1, s.2.1, s.2.2.set (m.code.getD i default).r_.toNat t) g0 (by omega) fun j h1 h2 => hp j h1 (by omega)
    revert hpg hb
    cases hq : plain m.code (e - (i + 1)) (i + 1) (s.1, s.2.1, s.2.2.set (m.code.getD i default).r_.toNat t) with
    | inr q =>
      intro hb _
      unfold refT
      exact loop_done hb
    | inl s' =>
      simp only
      rintro hb ⟨_, g'⟩
      simp only [Option.bind_some, Sum.elim_inl, ref_Going_all_j6, ref_Going_all_j5] at hb
      rw [wrs t (by omega)] at hb
      unfold refT
      rw [loop_next hb]
      exact ih (t + 1) (IntKind.wrap .i64 (s'.1 + 1), s'.2) g' (by omega)

theorem getD_drop {α : Type} [Inhabited α] (l : List α) (i j : Nat) : (l.drop i).getD j default = l.getD (i + j) default := by
  simp [List.getD, List.getElem?_drop]

theorem wrap_add_wrap (a b : Int) : IntKind.wrap .i64 (IntKind.wrap .i64 a + b) = IntKind.wrap .i64 (a + b) := by
  obtain ⟨t, h⟩ := wrap_is a
  rw [h, show a + 18446744073709551616 * t + b = (a + b) + 18446744073709551616 * t by omega, wrap_add_mul]

theorem plain_steps (code : List TIns) : ∀ (k i : Nat) (s : VS), match plain code k i s with
    | .inl s' => okI .i64 s.1 → s'.1 = IntKind.wrap .i64 (s.1 + k)
    | .inr _ => True
  | 0, i, s => fun h => by simp only [Int.natCast_zero, Int.add_zero]; exact (wrap_id h).symm
  | k + 1, i, s => by
    unfold plain
    by_cases h : (act (code.getD i default) s.2.1 s.2.2).1 = true
    · rw [if_pos h]
      have ih := plain_steps code k (i + 1) (IntKind.wrap .i64 (s.1 + 1), (act (code.getD i default) s.2.1 s.2.2).2)
      revert ih
      cases plain code k (i + 1) (IntKind.wrap .i64 (s.1 + 1), (act (code.getD i default) s.2.1 s.2.2).2) with
      | inr q => exact fun _ => trivial
      | inl s' =>
        simp only
        intro ih h0
        rw [ih (wrap_ok _), wrap_add_wrap]
        congr 1; omega
    · rw [if_neg h]; trivial

theorem turns_steps (code : List TIns) (i e : Nat) (hie : i < e) : ∀ (k t : Nat) (s : VS), match turns code i e k t s with
    | .inl s' => okI .i64 s.1 → s'.1 = IntKind.wrap .i64 (s.1 + k * ((e - i : Nat) : Int))
    | .inr _ => True
  | 0, t, s => fun h => by simp only [Int.natCast_zero, Int.zero_mul, Int.add_zero]; exact (wrap_id h).symm
  | k + 1, t, s => by
    unfold turns
    have hp := plain_steps code (e - (i + 1)) (i + 1) (s.1, s.2.1, s.2.2.set (code.getD i default).r_.toNat t)
    revert hp
    cases plain code (e - (i + 1)) (i + 1) (s.1, s.2.1, s.2.2.set (code.getD i default).r_.toNat t) with
    | inr q => exact fun _ => trivial
    | inl s' =>
      simp only
      intro hp
      have ih := turns_steps code i e hie k (t + 1) (IntKind.wrap .i64 (s'.1 + 1), s'.2)
      revert ih
      cases turns code i e k (t + 1) (IntKind.wrap .i64 (s'.1 + 1), s'.2) with
      | inr q => exact fun _ => trivial
      | inl s2 =>
        simp only
        intro ih h0
        rw [ih (wrap_ok _), hp h0, wrap_add_wrap, Int.add_assoc (IntKind.wrap _ _), wrap_add_wrap]
        congr 1
        rw [show ((k + 1 : Nat) : Int) = 1 + (k : Int) by omega, Int.add_mul, Int.one_mul]
        generalize (k : Int) * ((e - i : Nat) : Int) = z
        omega

/-- the whole code, from a place on: both walks come to the same end -/
theorem walk {m : TImage} (C : Ctx m) {l : List TIns} {K : Int} (hF : Flat l K) : ∀ (i : Nat) (s : VS) (f t : Int), m.code.drop i = l → i ≤ m.code.length → VGood m.cells m.regs s.2.1 s.2.2 →
    ∃ res : VS ⊕ (Nat × VS), (vmL m s.1 s.2.1 s.2.2 f t i = match res with | .inl s' => some (.inl s') | .inr (j, s') => some (.inr ((j : Int), s'.2.2, s'.1, s'.2.1))) ∧
      (refL m s.1 s.2.1 s.2.2 i = match res with | .inl s' => some (.inl s') | .inr (j, s') => some (.inr ((j : Int), s'.1, s'.2.1))) ∧
      (match res with | .inl s' => VGood m.cells m.regs s'.2.1 s'.2.2 ∧ (okI .i64 s.1 → s'.1 = IntKind.wrap .i64 (s.1 + K)) | .inr (_, s') => VGood m.cells m.regs s'.2.1 s'.2.2) := by
  have hl := C.len
  induction hF with
  | nil =>
    intro i s f t hd hi g
    have hi : i = m.code.length := by
      have := congrArg List.length hd
      simp only [List.length_drop, List.length_nil] at this
      omega
    subst hi
    refine ⟨.inl s, ?_, ?_, g, fun h => by rw [Int.add_zero]; exact (wrap_id h).symm⟩
    · unfold vmL
      exact loop_done (by show vm_VM_run_l1 _ _ _ _ _ _ _ _ _ _ _ _ _ = _; unfold vm_VM_run_l1; rw [if_neg (not_ltI _)])
    · unfold refL
      exact loop_done (by show ref_Going_all_l1 _ _ _ _ _ _ _ _ _ _ _ = _; unfold ref_Going_all_l1; rw [if_neg (not_ltI _)])
  | @one x l K h10 h11 hF ih =>
    intro i s f t hd hi g
    have hlt : i < m.code.length := by
      have := congrArg List.length hd
      simp only [List.length_drop, List.length_cons] at this
      omega
    have hx : m.code.getD i default = x := by
      have := getD_drop m.code i 0
      rw [hd] at this
      simpa using this.symm
    have hd' : m.code.drop (i + 1) = l := by rw [← List.drop_drop, hd]; rfl
    rw [← hx] at h10 h11
    obtain ⟨g', _, e2⟩ := act_eq C hlt g h10 h11
    have hv := vm_one C hlt g h10 h11 s.1 f t
    have hb : ref_Going_all_l1 m.cells m.regs m.cost m.put m.bools m.get m.code s.1 s.2.1 s.2.2 i = if (act (m.code.getD i default) s.2.1 s.2.2).1 = true then some (.inl (IntKind.wrap .i64 (s.1 + 1), (act (m.code.getD i default) s.2.1 s.2.2).2.1, (act (m.code.getD i default) s.2.1 s.2.2).2.2, ((i + 1 : Nat) : Int)))
        else some (.inr (.inr ((i : Int), IntKind.wrap .i64 (s.1 + 1), (act (m.code.getD i default) s.2.1 s.2.2).2.1))) := by
      unfold ref_Going_all_l1
      rw [if_pos (ltI hlt), if_pos (inI hlt), Int.toNat_natCast, if_pos h10, e2]
      simp only [Option.bind_some, ref_Going_all_j2]
      rw [wrs i (by omega)]
    by_cases h : (act (m.code.getD i default) s.2.1 s.2.2).1 = true
    · rw [if_pos h] at hv hb
      obtain ⟨res, r1, r2, r3⟩ := ih (i + 1) (IntKind.wrap .i64 (s.1 + 1), (act (m.code.getD i default) s.2.1 s.2.2).2) f t hd' (by omega) g'
      refine ⟨res, hv.trans r1, ?_, ?_⟩
      · rw [← r2]; unfold refL; exact loop_next hb
      · revert r3
        cases res with
        | inr q => exact fun h => h
        | inl s' =>
          rintro ⟨k1, k2⟩
          refine ⟨k1, fun h0 => ?_⟩
          rw [k2 (wrap_ok _), wrap_add_wrap]; congr 1; omega
    · rw [if_neg h] at hv hb
      refine ⟨.inr (i, IntKind.wrap .i64 (s.1 + 1), (act (m.code.getD i default) s.2.1 s.2.2).2), hv, ?_, g'⟩
      unfold refL; exact loop_done hb
  | @loop x body y l K h10 hN1 hN2 hbody h11 hF ih =>
    intro i s f t hd hi g
    have hlen : m.code.length = i + (1 + body.length + 1 + l.length) := by
      have := congrArg List.length hd
      simp only [List.length_drop, List.length_cons, List.length_append] at this
      omega
    have hlt : i < m.code.length := by omega
    obtain ⟨e, he⟩ : ∃ e, e = i + 1 + body.length := ⟨_, rfl⟩
    have hx : m.code.getD i default = x := by
      have := getD_drop m.code i 0
      rw [hd] at this
      simpa using this.symm
    have hye : m.code.getD e default = y := by
      have := getD_drop m.code i (1 + body.length)
      rw [hd] at this
      rw [he, show i + 1 + body.length = i + (1 + body.length) by omega, ← this, show 1 + body.length = body.length + 1 by omega]
      simp [List.getD, List.getElem?_append_right]
    have hpl : ∀ j, i + 1 ≤ j → j < e → (m.code.getD j default).op ≠ 10 ∧ (m.code.getD j default).op ≠ 11 := by
      intro j h1 h2
      have := getD_drop m.code i (j - i)
      rw [hd, show i + (j - i) = j by omega] at this
      obtain ⟨q, hq⟩ : ∃ q, j - i = q + 1 := ⟨j - i - 1, by omega⟩
      have hqb : q < body.length := by omega
      rw [hq] at this
      have h3 : (x :: (body ++ y :: l)).getD (q + 1) default = body[q] := by simp [List.getD, List.getElem?_append_left hqb, hqb]
      rw [← this, h3]
      exact hbody _ (List.getElem_mem hqb)
    have hd' : m.code.drop (e + 1) = l := by
      rw [show e + 1 = i + (1 + body.length + 1) by omega, ← List.drop_drop, hd, show 1 + body.length + 1 = (body.length + 1) + 1 by omega, List.drop_succ_cons, List.drop_append, List.drop_eq_nil_of_le (by omega)]
      simp
    rw [← hx] at h10 hN1 hN2
    rw [← hye] at h11
    have hV := C.v i hlt
    have hR := hV.r (by omega)
    have hlr := g.lr
    unfold regV at hR
    obtain ⟨N, hN⟩ : ∃ N : Nat, (m.code.getD i default).n = ((N + 1 : Nat) : Int) := ⟨((m.code.getD i default).n - 1).toNat, by omega⟩
    -- the program's walk
    have hv1 : vmL m s.1 s.2.1 s.2.2 f t i = vmL m (IntKind.wrap .i64 (s.1 + 1)) s.2.1 (s.2.2.set (m.code.getD i default).r_.toNat ((0 : Nat) : Int)) i ((0 : Nat) : Int) ((i + 1 : Nat) : Int) := by
      unfold vmL
      refine loop_next ?_
      show vm_VM_run_l1 _ _ _ _ _ _ _ _ _ _ _ _ _ = _
      unfold vm_VM_run_l1
      rw [if_pos (ltI hlt), if_pos (inI hlt), Int.toNat_natCast, if_pos h10, if_pos ⟨hR.1, by omega⟩, wrs i (by omega)]
      rfl
    have hv2 := vm_turns C (by omega) (by omega) h10 h11 hpl N 0 (IntKind.wrap .i64 (s.1 + 1), s.2) g (by omega)
    have hst := turns_steps m.code i e (by omega) (N + 1) 0 (IntKind.wrap .i64 (s.1 + 1), s.2)
    -- the document's
    have hend : ∀ (k j : Nat), j + k = e → i ≤ j → loop (fun x94 => ref_Going_all_l4 m.code x94) (j : Int) = some (e : Int) := by
      intro k
      induction k with
      | zero =>
        intro j hj hij
        have : j = e := by omega
        subst this
        refine loop_done ?_
        unfold ref_Going_all_l4
        rw [if_pos (inI (by omega)), Int.toNat_natCast, if_neg (by omega)]
      | succ k ihk =>
        intro j hj hij
        have hne : (m.code.getD j default).op ≠ 11 := by
          by_cases hji : j = i
          · rw [hji]; omega
          · exact (hpl j (by omega) (by omega)).2
        rw [loop_next (s' := ((j + 1 : Nat) : Int)) (by unfold ref_Going_all_l4; rw [if_pos (inI (by omega)), Int.toNat_natCast, if_pos hne, wrs j (by omega)])]
        exact ihk (j + 1) (by omega) (by omega)
    have hb : ref_Going_all_l1 m.cells m.regs m.cost m.put m.bools m.get m.code s.1 s.2.1 s.2.2 i = (refT m i e (IntKind.wrap .i64 (s.1 + 1)) s.2.1 s.2.2 ((0 : Nat) : Int)).bind (Sum.elim (fun (z88, z89, z90) => ref_Going_all_j4 e z88 z89 z90) (fun z91 => some (.inr (.inr z91)))) := by
      unfold ref_Going_all_l1
      rw [if_pos (ltI hlt), if_pos (inI hlt), Int.toNat_natCast, if_neg (by omega), hend (e - i) i (by omega) (Nat.le_refl _)]
      rfl
    rw [ref_turns C (by omega) (by omega) h10 hpl (N + 1) 0 (IntKind.wrap .i64 (s.1 + 1), s.2) g (by omega)] at hb
    revert hv2 hst hb
    cases hq : turns m.code i e (N + 1) 0 (IntKind.wrap .i64 (s.1 + 1), s.2) with
    | inr q =>
      rintro ⟨k1, k2⟩ _ hb
      exact ⟨.inr q, hv1.trans k1, by unfold refL; exact loop_done hb, k2⟩
    | inl s' =>
      simp only
      rintro ⟨k1, k2⟩ hst hb
      simp only [Option.bind_some, Sum.elim_inl, ref_Going_all_j4, ref_Going_all_j2] at hb
      rw [wrs e (by omega)] at hb
      obtain ⟨res, r1, r2, r3⟩ := ih (e + 1) s' (i : Int) ((0 + (N + 1) : Nat) : Int) hd' (by omega) k2
      refine ⟨res, hv1.trans (k1.trans r1), ?_, ?_⟩
      · rw [← r2]; unfold refL; exact loop_next hb
      · revert r3
        cases res with
        | inr q => exact fun h => h
        | inl s2 =>
          rintro ⟨q1, q2⟩
          refine ⟨q1, fun h0 => ?_⟩
          have hs' := hst (wrap_ok _)
          rw [q2 (by rw [hs']; exact wrap_ok _), hs', wrap_add_wrap, Int.add_assoc, wrap_add_wrap, ← hx, hN]
          congr 1
          rw [show ((e - i : Nat) : Int) = (body.length : Int) + 1 by omega]
          omega
end Pam

/- A row of code: the program and the document tell the same of it. -/
namespace Pam
open Go

/-- what an image that may be run is -/
structure Img (m : TImage) : Prop where
  ctx : Ctx m
  put : ∀ i, i < m.put.length → 0 ≤ m.put.getD i default ∧ m.put.getD i default < m.cells
  get : ∀ i, i < m.get.length → 0 ≤ m.get.getD i default ∧ m.get.getD i default < m.cells
  l1 : m.put.length ≤ 6000
  l2 : m.bools.length ≤ 6000
  l3 : m.get.length ≤ 120000
  flat : Flat m.code m.cost

theorem upto_inl {T Z : Type} {n : Nat} {f : Nat → Option Z} {t t' : T} (h : upto n f t = .inl t') : ∀ i, i < n → f i = none := by
  rcases upto_cases n f t with ⟨_, h2⟩ | ⟨i, z, _, _, h2⟩
  · exact h2
  · rw [h2] at h; cases h

theorem okn_default (l : List TIns) (h : ∀ y ∈ l, TIns.ok y) (i : Nat) : okI .i64 (l.getD i default).n := by
  by_cases hi : i < l.length
  · have := h _ (getD_mem hi)
    unfold TIns.ok at this
    exact this.2.2.2.2.2
  · have : l.getD i default = default := by simp [List.getD, List.getElem?_eq_none (Nat.le_of_not_lt hi)]
    rw [this]; exact okI_zero

theorem img_of (m : TImage) (hok : m.ok) (hl : m.put.length ≤ 9000000 ∧ m.bools.length ≤ 9000000 ∧ m.get.length ≤ 9000000 ∧ m.code.length ≤ 9000000) (h : (imgF m).code = 0) : Img m := by
  unfold imgF at h
  by_cases c1 : m.cells < 1 ∨ m.cells > 6000 ∨ m.regs < 1 ∨ m.regs > 40
  · rw [if_pos c1] at h; cases h
  rw [if_neg c1] at h
  by_cases c2 : (m.put.length : Int) > 6000 ∨ (m.bools.length : Int) > 6000 ∨ (m.get.length : Int) > 120000 ∨ (m.code.length : Int) > 200000
  · rw [if_pos c2] at h; cases h
  rw [if_neg c2] at h
  have hcells : 1 ≤ m.cells ∧ m.cells ≤ 6000 := by omega
  have nz : ∀ i z, outs m (lists m i) = some z → z.code ≠ 0 := by
    intro i z hz
    unfold outs at hz
    rcases upto_cases (lists m i).length (outF m (lists m i)) () with ⟨e, _⟩ | ⟨j, z', _, hf, e⟩
    · rw [e] at hz; cases hz
    · rw [e] at hz
      simp only [Option.some.injEq] at hz
      subst hz
      unfold outF at hf
      split at hf
      · simp only [Option.some.injEq] at hf; subst hf; decide
      · cases hf
  have e1 : F1 m = .inl () := by
    unfold F1 at h ⊢
    rcases upto_cases 3 (fun i => outs m (lists m i)) () with ⟨e, _⟩ | ⟨j, z, _, hf, e⟩
    · exact e
    · rw [e] at h; exact (nz j z hf h).elim
  rw [e1] at h
  simp only at h
  have e2 : F2 m = .inl () := by
    unfold F2 at h ⊢
    rcases upto_cases m.code.length (fun i => if insOk m (m.code.getD i default) then none else some (TFault.mk 4 i)) () with ⟨e, _⟩ | ⟨j, z, _, hf, e⟩
    · exact e
    · rw [e] at h
      simp only at h hf
      split at hf
      · cases hf
      · simp only [Option.some.injEq] at hf; subst hf; cases h
  rw [e2] at h
  simp only at h
  unfold F3 at h
  by_cases c3 : costL 0 1 0 m.code ≠ m.cost ∨ (costL 0 1 0 m.code = 0 ∧ (m.code.length : Int) > 0)
  · rw [if_pos c3] at h; cases h
  have hout := fun i hi => upto_inl e1 i hi
  have hlist : ∀ i, i < 3 → ∀ j, j < (lists m i).length → 0 ≤ (lists m i).getD j default ∧ (lists m i).getD j default < m.cells := by
    intro i hi j hj
    have := hout i hi
    simp only [outs] at this
    rcases upto_cases (lists m i).length (outF m (lists m i)) () with ⟨e, h2⟩ | ⟨q, z, _, _, e⟩
    · have := h2 j hj
      unfold outF at this
      split at this
      · cases this
      · omega
    · rw [e] at this; cases this
  have hcl : costL 0 1 0 m.code = m.cost := by omega
  obtain ⟨K, f1, f2⟩ := flat_of m.code.length m.code (Nat.le_refl _) 0 (by
    by_cases z : m.code = []
    · exact .inr z
    · left
      have : 0 < m.code.length := List.length_pos_iff.2 z
      omega)
  have hK : K = m.cost := by omega
  subst hK
  have hok' := hok
  unfold TImage.ok at hok'
  refine ⟨⟨hcells.1, hcells.2, by omega, by omega, fun i hi => ?_, fun i => okn_default m.code hok'.2.2.2.2.2.2 i, by omega⟩, hlist 0 (by omega), hlist 2 (by omega), by omega, by omega, by omega, f1⟩
  have := upto_inl e2 i hi
  have hi2 : insOk m (m.code.getD i default) = true := by
    cases hh : insOk m (m.code.getD i default) with
    | true => rfl
    | false => rw [hh] at this; cases this
  have h3 := (ins_eq m (m.code.getD i default) hcells.1 hcells.2).2
  rw [hi2] at h3
  exact insV_of m _ hcells.1 hcells.2 h3

theorem findSome_map {α β γ : Type} (f : α → Option β) (g : β → γ) : ∀ l : List α, (l.findSome? f).map g = l.findSome? fun i => (f i).map g
  | [] => rfl
  | a :: l => by
    rw [List.findSome?_cons, List.findSome?_cons]
    cases f a with
    | some b => rfl
    | none => exact findSome_map f g l

/-! parts of a row -/
theorem contains_upto (l : List Int) (v : Int) : (match upto l.length (fun i => if l.getD i default = v then some i else none) () with | .inr _ => true | .inl _ => false) = l.contains v := by
  rcases upto_cases l.length (fun i => if l.getD i default = v then some i else none) () with ⟨e, h⟩ | ⟨j, z, hj, hf, e⟩
  · rw [e]
    symm
    simp only [List.contains_eq_mem, decide_eq_false_iff_not]
    intro hm
    obtain ⟨i, hi, he⟩ := List.getElem_of_mem hm
    have := h i hi
    rw [show l.getD i default = l[i] by simp [List.getD, hi], if_pos he] at this
    cases this
  · rw [e]
    symm
    simp only [List.contains_eq_mem, decide_eq_true_eq]
    split at hf
    · rename_i hh; rw [← hh]; exact getD_mem hj
    · cases hf

theorem contains_eq (l : List Int) (v : Int) (hl : l.length ≤ 9000000) : slices_Contains_int_int l v = some (l.contains v) := by
  unfold slices_Contains_int_int slices_Index_int_int
  rw [loop_upto l.length (fun i => if l.getD i default = v then some (i : Int) else none) ()]
  · rw [← contains_upto]
    rcases upto_cases l.length (fun i => if l.getD i default = v then some (i : Int) else none) () with ⟨e, h⟩ | ⟨j, z, hj, hf, e⟩
    · rw [e, upto_none (fun i hi => by have := h i hi; split at this <;> simp_all)]; rfl
    · rw [e]
      simp only [Option.bind_some, Sum.elim_inr]
      rcases upto_cases l.length (fun i => if l.getD i default = v then some i else none) () with ⟨e', h'⟩ | ⟨j', z', hj', hf', e'⟩
      · have := h' j hj
        split at hf
        · simp_all
        · cases hf
      · rw [e']
        congr 1
        rw [decide_eq_true_eq]
        split at hf
        · simp only [Option.some.injEq] at hf; omega
        · cases hf
  · intro i hi
    unfold slices_Index_int_int_l1
    rw [if_pos (ltI hi), if_pos (inI hi), Int.toNat_natCast, wrs i (by omega)]
    by_cases z : l.getD i default = v
    · rw [if_pos z.symm, if_pos z]
    · rw [if_neg (fun h => z h.symm), if_neg z]
  · unfold slices_Index_int_int_l1; rw [if_neg (not_ltI _)]

theorem refIn_eq (l : List Int) (v : Int) (hl : l.length ≤ 9000000) : ref_In l v = some (l.contains v) := by
  unfold ref_In
  rw [loop_upto l.length (fun i => if l.getD i default = v then some true else none) ()]
  · rw [← contains_upto]
    rcases upto_cases l.length (fun i => if l.getD i default = v then some true else none) () with ⟨e, h⟩ | ⟨j, z, hj, hf, e⟩
    · rw [e, upto_none (fun i hi => by have := h i hi; split at this <;> simp_all)]; rfl
    · rw [e]
      simp only [Option.bind_some, Sum.elim_inr]
      rcases upto_cases l.length (fun i => if l.getD i default = v then some i else none) () with ⟨e', h'⟩ | ⟨j', z', hj', hf', e'⟩
      · have := h' j hj
        split at hf
        · simp_all
        · cases hf
      · rw [e']
        split at hf
        · simp only [Option.some.injEq] at hf; rw [← hf]
        · cases hf
  · intro i hi
    unfold ref_In_l1
    rw [if_pos (ltI hi), if_pos (inI hi), Int.toNat_natCast, wrs i (by omega)]
    by_cases z : l.getD i default = v
    · rw [if_pos z, if_pos z]
    · rw [if_neg z, if_neg z]
  · unfold ref_In_l1; rw [if_neg (not_ltI _)]

/-- a number of a row that is no truth and ought to be one -/
def badAt (m : TImage) (inn : List Int) (i : Nat) : Bool := m.bools.contains (m.put.getD i default) && (inn.getD i default != 0) && (inn.getD i default != 1)

/-- what is given lies where it ought to -/
def putF (put inn : List Int) : Nat → Nat → List Int → List Int
  | 0, _, c => c
  | k + 1, i, c => putF put inn k (i + 1) (c.set (put.getD i default).toNat (inn.getD i default))

theorem putF_good {put inn : List Int} (hin : ∀ y ∈ inn, okI .i64 y) : ∀ (k i : Nat) (c : List Int), (∀ y ∈ c, okI .i64 y) → (putF put inn k i c).length = c.length ∧ ∀ y ∈ putF put inn k i c, okI .i64 y
  | 0, _, c, h => ⟨rfl, h⟩
  | k + 1, i, c, h => by
    obtain ⟨h1, h2⟩ := putF_good hin k (i + 1) (c.set (put.getD i default).toNat (inn.getD i default)) (ok_set h (ok_getD hin i))
    exact ⟨by rw [putF, h1, List.length_set], h2⟩

theorem vm_put {put inn : List Int} {nc : Int} (hp : ∀ i, i < put.length → 0 ≤ put.getD i default ∧ put.getD i default < nc) (hlen : inn.length = put.length) (hl : put.length ≤ 6000) : ∀ (k i : Nat) (c : List Int), i + k = put.length → (c.length : Int) = nc →
    loop (fun (l32, x33) => vm_VM_Row_2_l2 inn put l32 x33) (c, (i : Int)) = some (putF put inn k i c)
  | 0, i, c, hi, _ => by
    have : i = put.length := by omega
    subst this
    exact loop_done (by show vm_VM_Row_2_l2 _ _ _ _ = _; unfold vm_VM_Row_2_l2; rw [if_neg (not_ltI _)]; rfl)
  | k + 1, i, c, hi, hc => by
    have hlt : i < put.length := by omega
    have := hp i hlt
    rw [loop_next (s' := (c.set (put.getD i default).toNat (inn.getD i default), ((i + 1 : Nat) : Int))) (by show vm_VM_Row_2_l2 _ _ _ _ = _; unfold vm_VM_Row_2_l2; rw [if_pos (ltI hlt), if_pos (inI hlt), Int.toNat_natCast, if_pos ⟨by omega, by omega⟩, wrs i (by omega)])]
    exact vm_put hp hlen hl k (i + 1) _ (by omega) (by rw [List.length_set]; exact hc)

theorem ref_put {put inn : List Int} {nc : Int} (hp : ∀ i, i < put.length → 0 ≤ put.getD i default ∧ put.getD i default < nc) (hlen : inn.length = put.length) (hl : put.length ≤ 6000) : ∀ (k i : Nat) (c : List Int), i + k = put.length → (c.length : Int) = nc →
    loop (fun (l33, x34) => ref_Going_Row_l2 inn put l33 x34) (c, (i : Int)) = some (putF put inn k i c)
  | 0, i, c, hi, _ => by
    have : i = inn.length := by omega
    subst this
    exact loop_done (by show ref_Going_Row_l2 _ _ _ _ = _; unfold ref_Going_Row_l2; rw [if_neg (not_ltI _)]; rfl)
  | k + 1, i, c, hi, hc => by
    have hlt : i < put.length := by omega
    have := hp i hlt
    rw [loop_next (s' := (c.set (put.getD i default).toNat (inn.getD i default), ((i + 1 : Nat) : Int))) (by show ref_Going_Row_l2 _ _ _ _ = _; unfold ref_Going_Row_l2; rw [if_pos (by omega), Int.toNat_natCast, if_pos ⟨by omega, by omega, by omega⟩, wrs i (by omega)])]
    exact ref_put hp hlen hl k (i + 1) _ (by omega) (by rw [List.length_set]; exact hc)

/-- what is told -/
def getF (get c : List Int) : List Int := get.map fun a => c.getD a.toNat default

theorem take_getF (get c : List Int) (i : Nat) (hi : i < get.length) : (getF get c).take (i + 1) = (getF get c).take i ++ [c.getD (get.getD i default).toNat default] := by
  have hl : i < (getF get c).length := by unfold getF; simpa using hi
  rw [List.take_succ, List.getElem?_eq_getElem hl]
  simp [getF, List.getD, hi]

theorem room_ok {n b : Nat} (h : n ≤ 200000) (hb : b ≤ 1000) : room n b := by
  have h1 : n * b ≤ 200000 * 1000 := Nat.mul_le_mul h hb
  exact ⟨by omega, by simp only [maxLen]; omega⟩

theorem vm_get {get : List Int} {nc : Int} (y4 : Int × List Int × Int × List Int) (hp : ∀ i, i < get.length → 0 ≤ get.getD i default ∧ get.getD i default < nc) (hl : get.length ≤ 120000) (hc : (y4.2.2.2.length : Int) = nc) : ∀ (k i : Nat), i + k = get.length →
    loop (fun (l21, x23) => vm_VM_Row_2_l1 get y4 l21 x23) ((getF get y4.2.2.2).take i, (i : Int)) = some (getF get y4.2.2.2)
  | 0, i, hi => by
    have : i = get.length := by omega
    subst this
    rw [List.take_of_length_le (by simp [getF])]
    exact loop_done (by show vm_VM_Row_2_l1 _ _ _ _ = _; unfold vm_VM_Row_2_l1; rw [if_neg (not_ltI _)])
  | k + 1, i, hi => by
    have hlt : i < get.length := by omega
    have := hp i hlt
    rw [loop_next (s' := ((getF get y4.2.2.2).take (i + 1), ((i + 1 : Nat) : Int))) (by
      show vm_VM_Row_2_l1 _ _ _ _ = _
      unfold vm_VM_Row_2_l1
      rw [if_pos (ltI hlt), if_pos (inI hlt), Int.toNat_natCast, if_pos ⟨by omega, room_ok (by simp [getF]; omega) (by omega)⟩, wrs i (by omega), take_getF get _ i hlt]
      rfl)]
    exact vm_get y4 hp hl hc k (i + 1) (by omega)

theorem ref_get {get : List Int} {nc : Int} (y4 : Int × Int × List Int) (hp : ∀ i, i < get.length → 0 ≤ get.getD i default ∧ get.getD i default < nc) (hl : get.length ≤ 120000) (hc : (y4.2.2.length : Int) = nc) : ∀ (k i : Nat), i + k = get.length →
    loop (fun (l22, x24) => ref_Going_Row_l1 get y4 l22 x24) ((getF get y4.2.2).take i, (i : Int)) = some (getF get y4.2.2)
  | 0, i, hi => by
    have : i = get.length := by omega
    subst this
    rw [List.take_of_length_le (by simp [getF])]
    exact loop_done (by show ref_Going_Row_l1 _ _ _ _ = _; unfold ref_Going_Row_l1; rw [if_neg (not_ltI _)])
  | k + 1, i, hi => by
    have hlt : i < get.length := by omega
    have := hp i hlt
    rw [loop_next (s' := ((getF get y4.2.2).take (i + 1), ((i + 1 : Nat) : Int))) (by
      show ref_Going_Row_l1 _ _ _ _ = _
      unfold ref_Going_Row_l1
      rw [if_pos (ltI hlt), Int.toNat_natCast, if_pos ⟨inI hlt, by omega, room_ok (by simp [getF]; omega) (by omega)⟩, wrs i (by omega), take_getF get _ i hlt]
      rfl)]
    exact ref_get y4 hp hl hc k (i + 1) (by omega)

theorem clone64 (l : List Int) (h : l.length ≤ 200000) : slices_Clone_int64_int64 l = some l := by
  unfold slices_Clone_int64_int64
  by_cases z : l.length = 0
  · rw [if_pos z, List.eq_nil_of_length_eq_zero z]
  · rw [if_neg z, if_pos (room_ok h (by omega))]

/-- what a row comes to -/
structure RowR (m : TImage) (n : Int) (c : List Int) (out : List Int) (F : TFault) (n' : Int) (c' : List Int) : Prop where
  len : (c'.length : Int) = m.cells
  ok : ∀ y ∈ c', okI .i64 y
  bad : F.code ≠ 0 → out = [] ∧ n' = n ∧ c' = c
  good : F.code = 0 → okI .i64 n → n' = IntKind.wrap .i64 (n + m.cost)
  okn : okI .i64 n → okI .i64 n'
  lo : out.length ≤ 120000

/-- how the two walks tell an end -/
def endV : VS ⊕ (Nat × VS) → Int × List Int × Int × List Int
  | .inl s' => (-1, s'.2.2, s'.1, s'.2.1)
  | .inr (j, s') => ((j : Int), s'.2.2, s'.1, s'.2.1)
def endR : VS ⊕ (Nat × VS) → Int × Int × List Int
  | .inl s' => (-1, s'.1, s'.2.1)
  | .inr (j, s') => ((j : Int), s'.1, s'.2.1)

theorem row_eq {m : TImage} (I : Img m) (inn : List Int) (hin : ∀ y ∈ inn, okI .i64 y) (c : List Int) (hc : (c.length : Int) = m.cells) (hok : ∀ y ∈ c, okI .i64 y) (n : Int) (rg : List Int) :
    ∃ out F rg' n' c', vm_VM_Row_2 inn m.cells m.regs m.cost m.put m.bools m.get m.code rg n c = some (out, F, rg', n', c') ∧ ref_Going_Row inn m.cells m.regs m.cost m.put m.bools m.get m.code n c = some (out, F, n', c') ∧ RowR m n c out F n' c' := by
  obtain ⟨C, hput, hget, l1, l2, l3, hF⟩ := I
  have hC1 := C.c1
  have hC2 := C.c2
  have hr1 := C.r1
  have hr2 := C.r2
  unfold vm_VM_Row_2 ref_Going_Row
  by_cases hl : (inn.length : Int) = m.put.length
  case neg =>
    rw [if_pos hl, if_pos hl]
    exact ⟨[], TFault.mk 17 (-1), rg, n, c, rfl, rfl, hc, hok, fun _ => ⟨rfl, rfl, rfl⟩, fun h => (by cases h), fun h => h, by simp⟩
  rw [if_neg (fun h => h hl), if_neg (fun h => h hl)]
  have hl' : inn.length = m.put.length := by omega
  -- truths
  have hv : loop (fun x37 => vm_VM_Row_2_l3 inn m.put m.bools rg n c x37) 0 = some (upto m.put.length (fun i => if badAt m inn i = true then some ([], TFault.mk 17 i, rg, n, c) else none) ()) := by
    refine loop_upto _ _ _ (fun i hi => ?_) ?_
    · unfold vm_VM_Row_2_l3
      rw [if_pos (ltI hi), if_pos (inI hi), Int.toNat_natCast, contains_eq _ _ (by omega), wrs i (by omega)]
      simp only [Option.bind_some]
      unfold badAt
      cases hh : m.bools.contains (m.put.getD i default) with
      | false => rfl
      | true =>
        rw [if_pos rfl]
        by_cases z : inn.getD i default = 0
        · have e1 : (inn.getD i default != 0) = false := by rw [z]; rfl
          rw [if_neg (fun h => h z), if_pos (by omega), e1]; rfl
        · rw [if_pos z, if_pos (by omega)]
          by_cases z1 : inn.getD i default = 1
          · have e1 : (inn.getD i default != 1) = false := by rw [z1]; rfl
            rw [if_neg (fun h => h z1), e1, Bool.and_false]; rfl
          · rw [if_pos z1]
            have e1 : (inn.getD i default != 0) = true := bne_iff_ne.2 z
            have e2 : (inn.getD i default != 1) = true := bne_iff_ne.2 z1
            rw [e1, e2]; rfl
    · unfold vm_VM_Row_2_l3; rw [if_neg (not_ltI _)]
  have hr : loop (fun x38 => ref_Going_Row_l3 inn m.put m.bools n c x38) 0 = some (upto m.put.length (fun i => if badAt m inn i = true then some ([], TFault.mk 17 i, n, c) else none) ()) := by
    refine loop_upto _ _ _ (fun i hi => ?_) ?_
    · unfold ref_Going_Row_l3 ref_F
      rw [if_pos (by omega), Int.toNat_natCast, wrs i (by omega)]
      have hin' : 0 ≤ (i : Int) ∧ (i : Int) < inn.length := by omega
      unfold badAt
      by_cases z : inn.getD i default = 0
      · have e1 : (inn.getD i default != 0) = false := by rw [z]; rfl
        rw [if_neg (fun h => h z), if_pos hin', e1, Bool.and_false]; rfl
      · rw [if_pos z]
        by_cases z1 : inn.getD i default = 1
        · have e1 : (inn.getD i default != 1) = false := by rw [z1]; rfl
          rw [if_neg (fun h => h z1), if_pos hin', e1, Bool.and_false]; rfl
        · rw [if_pos z1, if_pos ⟨hin', inI hi⟩, refIn_eq _ _ (by omega)]
          simp only [Option.bind_some]
          have e1 : (inn.getD i default != 0) = true := bne_iff_ne.2 z
          have e2 : (inn.getD i default != 1) = true := bne_iff_ne.2 z1
          rw [e1, e2]
          cases m.bools.contains (m.put.getD i default) <;> rfl
    · unfold ref_Going_Row_l3; rw [← hl', if_neg (not_ltI _)]
  rw [hv, hr]
  by_cases hbad : ∃ i, i < m.put.length ∧ badAt m inn i = true
  · rcases upto_cases m.put.length (fun i => if badAt m inn i = true then some (i : Nat) else none) () with ⟨e, h⟩ | ⟨j, z, hj, hf, e⟩
    · obtain ⟨i, hi, hb⟩ := hbad
      have := h i hi
      rw [if_pos hb] at this; cases this
    · have conv : ∀ {Z : Type} (g : Nat → Z), upto m.put.length (fun i => if badAt m inn i = true then some (g i) else none) () = .inr (g z) := by
        intro Z g
        have : (fun i => if badAt m inn i = true then some (g i) else none) = (fun i => (if badAt m inn i = true then some (i : Nat) else none).map g) := by
          funext i; split <;> rfl
        rw [this]
        unfold upto at e ⊢
        rw [← findSome_map]
        revert e
        cases List.findSome? (fun i => if badAt m inn i = true then some (i : Nat) else none) (List.range m.put.length) with
        | none => intro e; cases e
        | some q => intro e; simp only [Sum.inr.injEq] at e; subst e; rfl
      rw [conv (fun i => (([] : List Int), TFault.mk 17 i, rg, n, c)), conv (fun i => (([] : List Int), TFault.mk 17 i, n, c))]
      exact ⟨[], TFault.mk 17 z, rg, n, c, rfl, rfl, hc, hok, fun _ => ⟨rfl, rfl, rfl⟩, fun h => (by cases h), fun h => h, by simp⟩
  · have hnb : ∀ i, i < m.put.length → ¬ badAt m inn i = true := fun i hi hb => hbad ⟨i, hi, hb⟩
    rw [upto_none (fun i hi => if_neg (hnb i hi)), upto_none (fun i hi => if_neg (hnb i hi))]
    simp only [Option.bind_some, Sum.elim_inl]
    unfold vm_VM_Row_2_j1 ref_Going_Row_j1
    rw [clone64 c (by omega), if_pos (room_ok (by omega) (by omega))]
    have hp1 := vm_put (nc := m.cells) hput hl' l1 m.put.length 0 c (by omega) hc
    have hp2 := ref_put (nc := m.cells) hput hl' l1 m.put.length 0 c (by omega) hc
    simp only [Option.bind_some]
    simp only [Int.natCast_zero] at hp1 hp2
    rw [hp1, hp2]
    obtain ⟨g1, g2⟩ := putF_good (put := m.put) hin m.put.length 0 c hok
    generalize putF m.put inn m.put.length 0 c = c0 at g1 g2
    simp only [Option.bind_some]
    unfold vm_VM_Row_2_j2 ref_Going_Row_j2
    have hregs : (0 ≤ m.regs ∧ m.regs ≤ m.regs) ∧ room m.regs.toNat 8 := ⟨by omega, room_ok (by omega) (by omega)⟩
    have hg0 : VGood m.cells m.regs c0 (List.replicate m.regs.toNat 0) := ⟨by omega, by simp; omega, g2, fun y hy => by rw [(List.mem_replicate.1 hy).2]; exact okI_zero⟩
    obtain ⟨res, w1, w2, w3⟩ := walk C hF 0 (n, c0, List.replicate m.regs.toNat 0) 0 0 rfl (Nat.zero_le _) hg0
    have hrun : vm_VM_run m.cells m.regs m.cost m.put m.bools m.get m.code rg n c0 = some (endV res) := by
      unfold vm_VM_run
      rw [if_pos hregs]
      have : vmL m n c0 (List.replicate m.regs.toNat 0) 0 0 0 = _ := w1
      unfold vmL at this
      rw [this]
      cases res <;> rfl
    have hall : ref_Going_all m.cells m.regs m.cost m.put m.bools m.get m.code n c0 = some (endR res) := by
      unfold ref_Going_all
      rw [if_pos hregs]
      have : refL m n c0 (List.replicate m.regs.toNat 0) 0 = _ := w2
      unfold refL at this
      rw [this]
      cases res <;> rfl
    clear w1 w2
    cases res with
    | inr q =>
      obtain ⟨j, s'⟩ := q
      have hrun : vm_VM_run m.cells m.regs m.cost m.put m.bools m.get m.code rg n c0 = some ((j : Int), s'.2.2, s'.1, s'.2.1) := hrun
      have hall : ref_Going_all m.cells m.regs m.cost m.put m.bools m.get m.code n c0 = some ((j : Int), s'.1, s'.2.1) := hall
      rw [hrun, hall]
      simp only [Option.bind_some]
      rw [if_pos (by omega), if_pos (by omega)]
      exact ⟨[], TFault.mk 16 j, s'.2.2, n, c, rfl, rfl, hc, hok, fun _ => ⟨rfl, rfl, rfl⟩, fun h => (by cases h), fun h => h, by simp⟩
    | inl s' =>
      have hrun : vm_VM_run m.cells m.regs m.cost m.put m.bools m.get m.code rg n c0 = some (-1, s'.2.2, s'.1, s'.2.1) := hrun
      have hall : ref_Going_all m.cells m.regs m.cost m.put m.bools m.get m.code n c0 = some (-1, s'.1, s'.2.1) := hall
      obtain ⟨w3, w4⟩ := w3
      rw [hrun, hall]
      simp only [Option.bind_some]
      rw [if_neg (by omega), if_neg (by omega)]
      have q1 := vm_get (-1, s'.2.2, s'.1, s'.2.1) hget l3 w3.lc m.get.length 0 (by omega)
      have q2 := ref_get (-1, s'.1, s'.2.1) hget l3 w3.lc m.get.length 0 (by omega)
      simp only [List.take_zero, Int.natCast_zero] at q1 q2
      rw [q1, q2]
      refine ⟨getF m.get s'.2.1, TFault.mk 0 0, s'.2.2, s'.1, s'.2.1, rfl, rfl, w3.lc, w3.oc, fun h => (h rfl).elim, fun _ h => w4 h, fun h => ?_, by simp [getF]; omega⟩
      rw [w4 h]; exact wrap_ok _
end Pam

/- Rows of an image: what both laws of code that runs lean on. -/
namespace Pam
open Go

theorem clone_int (l : List Int) (h : l.length ≤ 200000) : slices_Clone_int_int l = some l := by
  unfold slices_Clone_int_int
  by_cases z : l = []
  · rw [if_pos z, z]
  · rw [if_neg z, if_pos (room_ok h (by omega))]
theorem clone_ins (l : List TIns) (h : l.length ≤ 200000) : slices_Clone_api_Ins_api_Ins l = some l := by
  unfold slices_Clone_api_Ins_api_Ins
  by_cases z : l = []
  · rw [if_pos z, z]
  · rw [if_neg z, if_pos (room_ok h (by omega))]

/-- vm.New, of an image that may be run, and of one that may not -/
theorem new_bad {m : TImage} (hl : m.put.length ≤ 9000000 ∧ m.bools.length ≤ 9000000 ∧ m.get.length ≤ 9000000 ∧ m.code.length ≤ 9000000) (h : (imgF m).code ≠ 0) : vm_New m = some (.inl (imgF m)) := by
  unfold vm_New
  rw [check_eq m hl]
  simp only [Option.bind_some]
  rw [if_pos h]
theorem new_good {m : TImage} (hl : m.put.length ≤ 9000000 ∧ m.bools.length ≤ 9000000 ∧ m.get.length ≤ 9000000 ∧ m.code.length ≤ 9000000) (I : Img m) (h : (imgF m).code = 0) :
    vm_New m = some (.inr (TFault.mk 0 0, m.cells, m.regs, m.cost, m.put, m.bools, m.get, m.code, [], 0, 0, 0, List.replicate m.cells.toNat 0)) := by
  obtain ⟨C, _, _, l1, l2, l3, _⟩ := I
  have h1 := C.c1
  have h2 := C.c2
  unfold vm_New
  rw [check_eq m hl]
  simp only [Option.bind_some]
  rw [if_neg (fun k => k h), clone_int _ (by omega), clone_int _ (by omega), clone_int _ (by omega), clone_ins _ C.len]
  simp only [Option.bind_some]
  rw [if_pos ⟨by omega, room_ok (by omega) (by omega)⟩]

theorem begin_good {m : TImage} (I : Img m) : ref_BeginCode m = some (m.cells, m.regs, m.cost, m.put, m.bools, m.get, m.code, 0, List.replicate m.cells.toNat 0) := by
  have h1 := I.ctx.c1
  have h2 := I.ctx.c2
  unfold ref_BeginCode
  rw [if_pos ⟨by omega, room_ok (by omega) (by omega)⟩]

theorem sameLongs_refl (l : List Int) (hl : l.length ≤ 9000000) : ref_SameLongs l l = some true := by
  unfold ref_SameLongs
  rw [if_neg (by simp), loop_upto l.length (fun _ => none) ()]
  · rw [upto_none (fun _ _ => rfl)]; rfl
  · intro i hi
    unfold ref_SameLongs_l1
    rw [if_pos (ltI hi), if_pos ⟨inI hi, inI hi⟩, if_neg (by simp), wrs i (by omega)]
  · unfold ref_SameLongs_l1; rw [if_neg (not_ltI _)]
theorem sameLongs2_refl (l : List Int) (hl : l.length ≤ 9000000) : ref_SameLongs_2 l l = some true := by
  unfold ref_SameLongs_2
  rw [if_neg (by simp), loop_upto l.length (fun _ => none) ()]
  · rw [upto_none (fun _ _ => rfl)]; rfl
  · intro i hi
    unfold ref_SameLongs_2_l1
    rw [if_pos (ltI hi), if_pos ⟨inI hi, inI hi⟩, if_neg (by simp), wrs i (by omega)]
  · unfold ref_SameLongs_2_l1; rw [if_neg (not_ltI _)]

theorem cells_clone (p1 p2 p3 : Int) (p4 p5 p6 : List Int) (p7 : List TIns) (p8 : List Int) (p9 : Int) (c : List Int) (h : c.length ≤ 200000) : vm_VM_Cells p1 p2 p3 p4 p5 p6 p7 p8 p9 c = some c := by
  unfold vm_VM_Cells; rw [clone64 c h]; rfl

/-- the image of the document's first words -/
def begunVm : TImage := TImage.mk 6 2 4 (lit [1]) [] (lit [5]) (lit [TIns.mk 2 0 0 0 0 1, TIns.mk 1 0 1 0 0 2, TIns.mk 7 1 0 0 1 0, TIns.mk 4 0 0 0 0 5])
theorem begunVm_chk : imgF begunVm = TFault.mk 0 0 := by
  unfold imgF
  rw [if_neg (by decide), if_neg (by decide)]
  have f1 : F1 begunVm = .inl () := by
    unfold F1
    refine upto_none fun i hi => ?_
    have : i = 0 ∨ i = 1 ∨ i = 2 := by omega
    rcases this with rfl | rfl | rfl <;> rfl
  rw [f1]
  have f2 : F2 begunVm = .inl () := by
    unfold F2
    refine upto_none fun i hi => ?_
    have hi' : i < 4 := hi
    have : i = 0 ∨ i = 1 ∨ i = 2 ∨ i = 3 := by omega
    have key : ∀ x : TIns, ref_insOK begunVm x = some true → (if insOk begunVm x then none else some (TFault.mk 4 i)) = none := fun x hx => by
      rw [insOk_eq begunVm x true (by decide) (by decide) hx]; rfl
    have reg : ∀ l : List Int, l.length ≤ 9000000 → ref_regsOK begunVm l = some (l.all (regOk begunVm.regs)) := fun l hl => regsOK_eq _ l hl
    have opx : ∀ k, ∃ a b, ref_OpOf k = some (a, b, takes k) := opOf_eq
    rcases this with rfl | rfl | rfl | rfl
    · refine key (TIns.mk 2 0 0 0 0 1) ?_
      obtain ⟨a, b, e⟩ := opx 0
      unfold ref_insOK ref_insOK_j1
      rw [show (TIns.mk 2 0 0 0 0 1).k = 0 from rfl, e]
      simp only [Option.bind_some]
      rw [if_neg (by decide), if_pos (by decide), if_pos (by decide), reg _ (by decide)]
      rfl
    · refine key (TIns.mk 1 0 1 0 0 2) ?_
      obtain ⟨a, b, e⟩ := opx 0
      unfold ref_insOK
      rw [show (TIns.mk 1 0 1 0 0 2).k = 0 from rfl, e]
      simp only [Option.bind_some]
      rw [if_pos (by decide), reg _ (by decide)]
      rfl
    · refine key (TIns.mk 7 1 0 0 1 0) ?_
      obtain ⟨a, b, e⟩ := opx 1
      unfold ref_insOK ref_insOK_j1 ref_insOK_j2
      rw [show (TIns.mk 7 1 0 0 1 0).k = 1 from rfl, e]
      simp only [Option.bind_some]
      rw [if_neg (by decide), if_neg (by decide), if_neg (by decide), if_neg (by decide), if_neg (by decide), if_neg (by decide), if_pos (by decide), reg _ (by decide)]
      rfl
    · refine key (TIns.mk 4 0 0 0 0 5) ?_
      obtain ⟨a, b, e⟩ := opx 0
      unfold ref_insOK ref_insOK_j1
      rw [show (TIns.mk 4 0 0 0 0 5).k = 0 from rfl, e]
      simp only [Option.bind_some]
      rw [if_neg (by decide), if_neg (by decide), if_pos (by decide), reg _ (by decide)]
      rfl
  rw [f2]
  rfl

theorem begunVm_row : vm_VM_Row_2 (lit [7]) 6 2 4 (lit [1]) [] (lit [5]) begunVm.code [] 0 (List.replicate 6 0) = some ([9], TFault.mk 0 0, [9, 2], 4, [0, 7, 0, 0, 0, 9]) := by
  unfold vm_VM_Row_2
  rw [if_neg (by decide)]
  rw [loop_next (s' := 1) (by
    unfold vm_VM_Row_2_l3
    rw [if_pos (by decide), if_pos (by decide), contains_eq [] _ (by decide)]
    rfl), loop_done (o := .inl ()) (by rfl)]
  simp only [Option.bind_some, Sum.elim_inl]
  unfold vm_VM_Row_2_j1
  rw [clone64 _ (by decide)]
  simp only [Option.bind_some]
  rw [loop_next (s' := ([0, 7, 0, 0, 0, 0], 1)) (by rfl), loop_done (o := [0, 7, 0, 0, 0, 0]) (by rfl)]
  simp only [Option.bind_some]
  unfold vm_VM_Row_2_j2 vm_VM_run
  rw [if_pos (by decide)]
  rw [loop_next (s' := (1, [0, 7, 0, 0, 0, 0], [7, 0], 0, 0, 1)) (by rfl), loop_next (s' := (2, [0, 7, 0, 0, 0, 0], [7, 2], 0, 0, 2)) (by rfl), loop_next (s' := (3, [0, 7, 0, 0, 0, 0], [9, 2], 0, 0, 3)) (by rfl),
    loop_next (s' := (4, [0, 7, 0, 0, 0, 9], [9, 2], 0, 0, 4)) (by rfl), loop_done (o := .inl (4, [0, 7, 0, 0, 0, 9], [9, 2])) (by rfl)]
  simp only [Option.bind_some, Sum.elim_inl, vm_VM_run_j1]
  rw [if_neg (by decide)]
  rw [loop_next (s' := ([9], 1)) (by rfl), loop_done (o := [9]) (by rfl)]
  rfl

theorem vmBegun_true : law_vmBegun = some true := by
  unfold law_vmBegun
  have hok : begunVm.ok := by
    unfold TImage.ok okL
    refine ⟨⟨by decide, by decide⟩, ⟨by decide, by decide⟩, ⟨by decide, by decide⟩, ?_, ?_, ?_, ?_⟩
    · intro y hy; simp only [begunVm, lit, List.mem_cons, List.not_mem_nil, or_false] at hy; subst hy; exact ⟨by decide, by decide⟩
    · intro y hy; simp [begunVm] at hy
    · intro y hy; simp only [begunVm, lit, List.mem_cons, List.not_mem_nil, or_false] at hy; subst hy; exact ⟨by decide, by decide⟩
    · intro y hy
      simp only [begunVm, lit, List.mem_cons, List.not_mem_nil, or_false] at hy
      rcases hy with rfl | rfl | rfl | rfl <;> exact ⟨⟨by decide, by decide⟩, ⟨by decide, by decide⟩, ⟨by decide, by decide⟩, ⟨by decide, by decide⟩, ⟨by decide, by decide⟩, ⟨by decide, by decide⟩⟩
  have hl : begunVm.put.length ≤ 9000000 ∧ begunVm.bools.length ≤ 9000000 ∧ begunVm.get.length ≤ 9000000 ∧ begunVm.code.length ≤ 9000000 := by decide
  have h0 : (imgF begunVm).code = 0 := by rw [begunVm_chk]
  have hn := new_good hl (img_of begunVm hok hl h0) h0
  show (vm_New begunVm).bind _ = _
  rw [hn]
  simp only [Option.bind_some, Sum.elim_inr]
  rw [if_neg (by decide)]
  show (vm_VM_Row_2 (lit [7]) 6 2 4 (lit [1]) [] (lit [5]) begunVm.code [] 0 (List.replicate 6 0)).bind _ = _
  rw [begunVm_row]
  simp only [Option.bind_some]
  rw [if_pos trivial, show (lit [9] : List Int) = [9] from rfl, sameLongs_refl [9] (by decide)]
  rfl

theorem rowsGreat_eq (rows : List (List Int)) (hl : rows.length ≤ 9000000) : ∃ b, law_rowsGreat rows = some b ∧ (b = false → rows.length ≤ 60 ∧ ∀ i, i < rows.length → (rows.getD i default).length ≤ 10000) := by
  unfold law_rowsGreat
  by_cases c : (rows.length : Int) > 60
  · rw [if_pos c]; exact ⟨true, rfl, fun h => by cases h⟩
  rw [if_neg c, loop_upto rows.length (fun i => if ((rows.getD i default).length : Int) > 10000 then some true else none) ()]
  · rcases upto_cases rows.length (fun i => if ((rows.getD i default).length : Int) > 10000 then some true else none) () with ⟨e, h⟩ | ⟨j, z, _, hf, e⟩
    · rw [e]
      refine ⟨false, rfl, fun _ => ⟨by omega, fun i hi => ?_⟩⟩
      have := h i hi
      split at this
      · cases this
      · omega
    · rw [e]
      refine ⟨z, rfl, fun h => ?_⟩
      split at hf
      · simp_all
      · cases hf
  · intro i hi
    unfold law_rowsGreat_l1
    rw [if_pos (ltI hi), if_pos (inI hi), Int.toNat_natCast, wrs i (by omega)]
    split <;> rfl
  · unfold law_rowsGreat_l1; rw [if_neg (not_ltI _)]

theorem copyRows_eq (rows : List (List Int)) (hl : rows.length ≤ 60) (hr : ∀ i, i < rows.length → (rows.getD i default).length ≤ 10000) : law_copyRows rows = some rows := by
  have key : ∀ (k i : Nat), i + k = rows.length → loop (fun (l17, x19) => law_copyRows_l1 rows l17 x19) (rows.take i, (i : Int)) = some rows := by
    intro k
    induction k with
    | zero =>
      intro i hi
      have : i = rows.length := by omega
      subst this
      rw [List.take_length]
      exact loop_done (by show law_copyRows_l1 _ _ _ = _; unfold law_copyRows_l1; rw [if_neg (not_ltI _)])
    | succ k ih =>
      intro i hi
      have hlt : i < rows.length := by omega
      have := hr i hlt
      rw [loop_next (s' := (rows.take (i + 1), ((i + 1 : Nat) : Int))) (by
        show law_copyRows_l1 _ _ _ = _
        unfold law_copyRows_l1
        rw [if_pos (ltI hlt), Int.toNat_natCast, if_pos ⟨inI hlt, room_ok (by omega) (by omega)⟩, if_pos (room_ok (by simp; omega) (by omega)), wrs i (by omega)]
        congr 3
        rw [List.take_succ, List.getElem?_eq_getElem hlt]
        simp [List.getD, hlt, lit])]
      exact ih (i + 1) (by omega)
  have := key rows.length 0 (by omega)
  simp only [List.take_zero, Int.natCast_zero] at this
  unfold law_copyRows
  rw [this]; rfl

theorem sameRows_refl (rows : List (List Int)) (hl : rows.length ≤ 60) (hr : ∀ i, i < rows.length → (rows.getD i default).length ≤ 10000) : law_sameRows rows rows = some true := by
  unfold law_sameRows
  rw [if_neg (by simp), loop_upto rows.length (fun _ => none) ()]
  · rw [upto_none (fun _ _ => rfl)]; rfl
  · intro i hi
    unfold law_sameRows_l1
    have := hr i hi
    rw [if_pos (ltI hi), if_pos ⟨inI hi, inI hi⟩, Int.toNat_natCast, sameLongs_refl _ (by omega), wrs i (by omega)]
    rfl
  · unfold law_sameRows_l1; rw [if_neg (not_ltI _)]

theorem row_ok {rows : List (List Int)} (h : ∀ l ∈ rows, ∀ y ∈ l, okI .i64 y) {i : Nat} (hi : i < rows.length) : ∀ y ∈ rows.getD i default, okI .i64 y := h _ (getD_mem hi)

theorem greatImage_eq (m : TImage) : ∃ b, ref_GreatImage m = some b := by
  unfold ref_GreatImage
  have key : ∀ X : Option Bool, X.isSome = true → ∃ b, X = some b := fun X h => Option.isSome_iff_exists.1 h
  refine key _ ?_
  simp only [apply_ite Option.isSome, Option.isSome_some, ite_self]

theorem fault_zero {m : TImage} (hl : m.put.length ≤ 9000000 ∧ m.bools.length ≤ 9000000 ∧ m.get.length ≤ 9000000 ∧ m.code.length ≤ 9000000) (h0 : (imgF m).code = 0) : imgF m = TFault.mk 0 0 := by
  have := check_eq m hl
  unfold imgF at h0 ⊢
  split at h0
  · cases h0
  · rename_i g1
    split at h0
    · cases h0
    · rename_i g2
      rw [if_neg g1, if_neg g2]
      split at h0
      · rename_i z hz
        exfalso
        unfold F1 at hz
        rcases upto_cases 3 (fun i => outs m (lists m i)) () with ⟨e, _⟩ | ⟨j, z', _, hf, e⟩
        · rw [e] at hz; cases hz
        · rw [e] at hz
          simp only [Sum.inr.injEq] at hz
          subst hz
          unfold outs at hf
          rcases upto_cases (lists m j).length (outF m (lists m j)) () with ⟨e, _⟩ | ⟨j', z'', _, hf', e⟩
          · rw [e] at hf; cases hf
          · rw [e] at hf
            simp only [Option.some.injEq] at hf
            subst hf
            unfold outF at hf'
            split at hf'
            · simp only [Option.some.injEq] at hf'; subst hf'; cases h0
            · cases hf'
      · rename_i z hz
        split at h0
        · rename_i z2 hz2
          exfalso
          unfold F2 at hz2
          rcases upto_cases m.code.length (fun i => if insOk m (m.code.getD i default) then none else some (TFault.mk 4 i)) () with ⟨e, _⟩ | ⟨j, z', _, hf, e⟩
          · rw [e] at hz2; cases hz2
          · rw [e] at hz2
            simp only [Sum.inr.injEq] at hz2
            subst hz2
            split at hf
            · cases hf
            · simp only [Option.some.injEq] at hf; subst hf; cases h0
        · rename_i z2 hz2
          unfold F3 at h0 ⊢
          split at h0
          · cases h0
          · rename_i g; rw [if_neg g]
end Pam

/- Every row costs what the image says, and no row marks the next: the plain law. -/
namespace Pam
open Go

theorem fault_bad {m : TImage} (hl : m.put.length ≤ 9000000 ∧ m.bools.length ≤ 9000000 ∧ m.get.length ≤ 9000000 ∧ m.code.length ≤ 9000000) (z : (imgF m).code ≠ 0) : vm_New m = some (.inl (imgF m)) := new_bad hl z

theorem law_VmCosts_true (m : TImage) (rows : List (List Int)) (hm : m.ok) (hr : okL (okL (okI .i64)) rows) (hs : m.sz + (szL (szL szI)) rows ≤ 1048576) : law_VmCosts m rows = some true := by
  have z1 := szL_len (fun _ => Nat.le_refl 1) (f := szI) m.put
  have z2 := szL_len (fun _ => Nat.le_refl 1) (f := szI) m.bools
  have z3 := szL_len (fun _ => Nat.le_refl 1) (f := szI) m.get
  have z4 := szL_len TIns.sz_pos m.code
  have z5 := szL_len (f := szL (α := Int) szI) (fun l => by unfold szL; omega) rows
  unfold TImage.sz at hs
  have hl : m.put.length ≤ 9000000 ∧ m.bools.length ≤ 9000000 ∧ m.get.length ≤ 9000000 ∧ m.code.length ≤ 9000000 := by omega
  obtain ⟨b, hg⟩ := greatImage_eq m
  obtain ⟨b2, hg2, hrows⟩ := rowsGreat_eq rows (by omega)
  unfold law_VmCosts
  rw [vmBegun_true, hg]
  simp only [Option.bind_some, if_true]
  cases b with
  | true => rfl
  | false =>
  rw [if_neg (by simp), hg2]
  simp only [Option.bind_some]
  cases b2 with
  | true => rfl
  | false =>
  obtain ⟨q1, q2⟩ := hrows rfl
  rw [if_neg (by simp)]
  by_cases h2 : m.cost > 20000
  · rw [if_pos h2]
  rw [if_neg h2]
  by_cases h0 : (imgF m).code = 0
  case neg =>
    rw [new_bad hl h0]
    simp only [Option.bind_some, Sum.elim_inl]
    rw [if_pos h0]
    simp
  have I := img_of m hm hl h0
  rw [new_good hl I h0]
  simp only [Option.bind_some, Sum.elim_inr]
  rw [if_neg (by simp), if_neg (by simp)]
  have hc1 := I.ctx.c1
  have hc2 := I.ctx.c2
  have key : ∀ (k i : Nat) (rg rg2 : List Int) (n : Int) (c : List Int), i + k = rows.length → (c.length : Int) = m.cells → (∀ y ∈ c, okI .i64 y) → okI .i64 n →
      ∃ z119 z120 z121 z122 z123 z124, loop (fun (l96, x97, l98, l100, x101, l102, x104) => law_VmCosts_l4 m rows (TFault.mk 0 0, m.cells, m.regs, m.cost, m.put, m.bools, m.get, m.code, [], 0, 0, 0, List.replicate m.cells.toNat 0) (TFault.mk 0 0, m.cells, m.regs, m.cost, m.put, m.bools, m.get, m.code, [], 0, 0, 0, List.replicate m.cells.toNat 0) l96 x97 l98 l100 x101 l102 x104) (rg, n, c, rg2, n, c, (i : Int)) = some (.inl (z119, z120, z121, z122, z123, z124)) := by
    intro k
    induction k with
    | zero =>
      intro i rg rg2 n c hi _ _ _
      have : i = rows.length := by omega
      subst this
      exact ⟨rg, n, c, rg2, n, c, loop_done (by show law_VmCosts_l4 _ _ _ _ _ _ _ _ _ _ _ = _; unfold law_VmCosts_l4; rw [if_neg (not_ltI _)])⟩
    | succ k ih =>
      intro i rg rg2 n c hi hcl hco hn
      have hlt : i < rows.length := by omega
      obtain ⟨out, F, rg', n', c', e1, e2, R⟩ := row_eq I (rows.getD i default) (row_ok hr hlt) c hcl hco n rg
      obtain ⟨out2, F2, rg2', n2', c2', e3, e4, R2⟩ := row_eq I (rows.getD i default) (row_ok hr hlt) c hcl hco n rg2
      rw [e2] at e4
      simp only [Option.some.injEq, Prod.mk.injEq] at e4
      obtain ⟨rfl, rfl, rfl, rfl⟩ := e4
      have hout : out.length ≤ 9000000 := by have := R.lo; omega
      have hlc := R.len
      by_cases hF : F.code = 0
      · obtain ⟨z1, z2, z3, z4, z5, z6, h⟩ := ih (i + 1) rg' rg2' n' c' (by omega) R.len R.ok (R.okn hn)
        refine ⟨z1, z2, z3, z4, z5, z6, ?_⟩
        rw [← h]
        refine loop_next ?_
        show law_VmCosts_l4 _ _ _ _ _ _ _ _ _ _ _ = _
        unfold law_VmCosts_l4
        rw [if_pos (ltI hlt), cells_clone _ _ _ _ _ _ _ _ _ _ (by omega)]
        simp only [Option.bind_some, vm_VM_Steps]
        rw [if_pos (inI hlt), Int.toNat_natCast, wrs i (by omega)]
        simp only [e1, e3, Option.bind_some]
        rw [if_neg (fun k => k hF), R.good hF hn, if_neg (fun k => k rfl), if_neg (fun k => k hF), sameLongs_refl out hout]
        simp only [Option.bind_some, if_true]
        rw [cells_clone _ _ _ _ _ _ _ _ _ _ (by omega), cells_clone _ _ _ _ _ _ _ _ _ _ (by omega)]
        simp only [Option.bind_some]
        rw [sameLongs_refl c' (by omega)]
        simp only [Option.bind_some, if_true]
      · obtain ⟨b1, b2, b3⟩ := R.bad hF
        subst b1 b2 b3
        obtain ⟨z1, z2, z3, z4, z5, z6, h⟩ := ih (i + 1) rg' rg2 n' c' (by omega) R.len R.ok hn
        refine ⟨z1, z2, z3, z4, z5, z6, ?_⟩
        rw [← h]
        refine loop_next ?_
        show law_VmCosts_l4 _ _ _ _ _ _ _ _ _ _ _ = _
        unfold law_VmCosts_l4
        rw [if_pos (ltI hlt), cells_clone _ _ _ _ _ _ _ _ _ _ (by omega)]
        simp only [Option.bind_some, vm_VM_Steps]
        rw [if_pos (inI hlt), Int.toNat_natCast, wrs i (by omega)]
        simp only [e1, Option.bind_some]
        rw [if_pos hF, if_neg (by simp), if_neg (fun k => k trivial), cells_clone _ _ _ _ _ _ _ _ _ _ (by omega)]
        simp only [Option.bind_some]
        rw [sameLongs_refl c' (by omega)]
        simp only [Option.bind_some, if_true]
  obtain ⟨z1, z2, z3, z4, z5, z6, h⟩ := key rows.length 0 [] [] 0 (List.replicate m.cells.toNat 0) (by omega) (by simp; omega) (fun y hy => by rw [(List.mem_replicate.1 hy).2]; exact okI_zero) okI_zero
  simp only [Int.natCast_zero] at h
  rw [h]
  simp only [Option.bind_some, Sum.elim_inl]
  rfl
end Pam
