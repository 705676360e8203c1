/- Trees of looping code: both tell the same trees good. -/
import Derived.Test.YtkdminbbajdjpaaLoopChecksFun1
import Derived.Test.YtkdminbbajdjpaaWide1
set_option linter.all false
namespace Pam
open Go

def takesL (k : Int) : Int := if 1 ≤ k ∧ k ≤ 12 then 2 else if k = 13 ∨ k = 14 then 1 else 0
theorem lop_eq (k : Int) : ∃ a b, kinds_Op k = some (a, b, takesL k) := by
  unfold kinds_Op takesL
  repeat' split
  all_goals first
    | exact ⟨_, _, rfl⟩
    | (exfalso; omega)
theorem lopOf_eq (k : Int) : ∃ a b, ref_OpOf k = some (a, b, takesL k) := by
  unfold ref_OpOf
  by_cases h1 : k < 1
  · rw [if_pos h1]; exact ⟨0, 0, by unfold takesL; rw [if_neg (by omega), if_neg (by omega)]⟩
  · rw [if_neg h1]
    by_cases h2 : k > 14
    · rw [if_pos h2]; exact ⟨0, 0, by unfold takesL; rw [if_neg (by omega), if_neg (by omega)]⟩
    · rw [if_neg h2]
      have hg : (0 ≤ k ∧ k < (([63, 105, 105, 105, 105, 105, 105, 105, 105, 105, 98, 98, 98, 105, 98] : List UInt8).length : Int)) ∧ (0 ≤ k ∧ k < (([63, 105, 105, 105, 105, 105, 105, 105, 98, 98, 98, 98, 98, 105, 98] : List UInt8).length : Int)) := by
        simp only [List.length_cons, List.length_nil]; omega
      by_cases h3 : k ≥ 13
      · rw [if_pos h3]; unfold ref_OpOf_j1; rw [if_pos hg]; exact ⟨_, _, by unfold takesL; rw [if_neg (by omega), if_pos (by omega)]⟩
      · rw [if_neg h3]; unfold ref_OpOf_j1; rw [if_pos hg]; exact ⟨_, _, by unfold takesL; rw [if_pos (by omega)]⟩

def insideB (cells a n : Int) : Bool := decide (0 ≤ a ∧ 1 ≤ n ∧ a + n ≤ cells)
theorem inside_eq (m : TLoops) (a n : Int) (h1 : 1 ≤ m.cells) (h2 : m.cells ≤ 6000) : loop_inside m a n = some (insideB m.cells a n) := by
  unfold loop_inside insideB
  by_cases a1 : a ≥ 0
  · rw [if_pos a1]
    by_cases a2 : n ≥ 1
    · rw [if_pos a2]
      by_cases a3 : n ≤ m.cells
      · rw [if_pos a3, wr (by omega) (by omega)]; congr 1; rw [decide_eq_decide]; omega
      · rw [if_neg a3]; congr 1; symm; rw [decide_eq_false_iff_not]; omega
    · rw [if_neg a2]; congr 1; symm; rw [decide_eq_false_iff_not]; omega
  · rw [if_neg a1]; congr 1; symm; rw [decide_eq_false_iff_not]; omega
theorem there_eq (m : TLoops) (a n : Int) (h1 : 1 ≤ m.cells) (h2 : m.cells ≤ 6000) : ref_there m a n = some (insideB m.cells a n) := by
  unfold ref_there insideB
  by_cases a1 : a ≥ 0
  · rw [if_pos a1]
    by_cases a2 : a < m.cells
    · rw [if_pos a2]
      by_cases a3 : n ≥ 1
      · rw [if_pos a3, wr (by omega) (by omega)]; congr 1; rw [decide_eq_decide]; omega
      · rw [if_neg a3]; congr 1; symm; rw [decide_eq_false_iff_not]; omega
    · rw [if_neg a2]; congr 1; symm; rw [decide_eq_false_iff_not]; omega
  · rw [if_neg a1]; congr 1; symm; rw [decide_eq_false_iff_not]; omega

/-- one step of a tree: how deep it leaves the stack -/
def stepF (cells w : Int) (s : TPush) (d : Int) : Option Int :=
  if s.op = 1 then some (d + 1) else if s.op = 2 then (if insideB cells s.v 1 = true then some (d + 1) else none)
  else if s.op = 3 then (if insideB cells s.v w = true then some (d + 1) else none)
  else if s.op = 4 then (if s.n ≥ (-1000000000000000000) ∧ s.n ≤ 1000000000000000000 then some (d + 1) else none)
  else if s.op = 5 then (if takesL s.k = 1 ∧ ¬ d < 1 then some d else none)
  else if s.op = 6 then (if takesL s.k = 2 ∧ ¬ d < 2 then some (d - 1) else none)
  else if s.op = 7 then (if d < 3 then none else some (d - 2))
  else if s.op = 8 then (if insideB cells s.v s.n = true ∧ ¬ d < 2 then some (d - 1) else none)
  else none
/-- a tree from here on -/
def treeF (cells w : Int) : List TPush → Int → Option Int
  | [], d => some d
  | s :: r, d => match stepF cells w s d with | none => none | some e => treeF cells w r e
theorem stepF_le {cells w : Int} {s : TPush} {d e : Int} (h : stepF cells w s d = some e) (hd : 0 ≤ d) : 0 ≤ e ∧ e ≤ d + 1 := by
  unfold stepF at h
  repeat' split at h
  all_goals first
    | (cases h; done)
    | (simp only [Option.some.injEq] at h; omega)

/-- both loops over a tree -/
theorem tree_loop {l : List TPush} {cells w : Int} {body : Int × Int → Option ((Int × Int) ⊕ (Int ⊕ Bool))} (hl : l.length ≤ 9000000)
    (hs : ∀ (i : Nat) (d : Int), i < l.length → 0 ≤ d → d ≤ i → body (d, (i : Int)) = match stepF cells w (l.getD i default) d with | none => some (.inr (.inr false)) | some e => some (.inl (e, ((i + 1 : Nat) : Int))))
    (he : ∀ d, body (d, (l.length : Int)) = some (.inr (.inl d))) : ∀ (k i : Nat) (d : Int), i + k = l.length → 0 ≤ d → d ≤ i →
    loop body (d, (i : Int)) = some (match treeF cells w (l.drop i) d with | none => .inr false | some e => .inl e)
  | 0, i, d, hi, h1, h2 => by
    have : i = l.length := by omega
    subst this
    rw [List.drop_length]
    exact loop_done (he d)
  | k + 1, i, d, hi, h1, h2 => by
    have hlt : i < l.length := by omega
    have hb := hs i d hlt h1 h2
    have hd : l.drop i = l.getD i default :: l.drop (i + 1) := by
      rw [List.drop_eq_getElem_cons hlt]
      simp [List.getD, hlt]
    rw [hd]
    simp only [treeF]
    cases hf : stepF cells w (l.getD i default) d with
    | none =>
      rw [hf] at hb
      exact loop_done hb
    | some e =>
      rw [hf] at hb
      obtain ⟨g1, g2⟩ := stepF_le hf h1
      rw [loop_next hb]
      exact tree_loop hl hs he k (i + 1) e (by omega) g1 (by omega)

def treeB (cells w : Int) (l : List TPush) : Bool := match treeF cells w l 0 with | none => false | some e => decide (e = 1 ∧ (l.length : Int) ≤ 24)

theorem lbody (m : TLoops) (l : List TPush) (w : Int) (h1 : 1 ≤ m.cells) (h2 : m.cells ≤ 6000) (hl : l.length ≤ 9000000) (i : Nat) (d : Int) (hi : i < l.length) (d1 : 0 ≤ d) (d2 : d ≤ i) :
    loop_tree_l1 m l w d i = match stepF m.cells w (l.getD i default) d with | none => some (.inr (.inr false)) | some e => some (.inl (e, ((i + 1 : Nat) : Int))) := by
  unfold loop_tree_l1
  rw [if_pos (ltI hi), if_pos (inI hi), Int.toNat_natCast, wrs i (by omega)]
  generalize l.getD i default = s
  unfold loop_step loop_step_j1 stepF
  obtain ⟨a, b, hop⟩ := lop_eq s.k
  have ht : takesL s.k = 0 ∨ takesL s.k = 1 ∨ takesL s.k = 2 := by
    unfold takesL
    split
    · exact .inr (.inr rfl)
    · split
      · exact .inr (.inl rfl)
      · exact .inl rfl
  have w0 : IntKind.wrap .i64 (1 - 0) = 1 := wr (by omega) (by omega)
  have w1 : IntKind.wrap .i64 (1 - 1) = 0 := wr (by omega) (by omega)
  have w2 : IntKind.wrap .i64 (1 - 2) = -1 := wr (by omega) (by omega)
  have w3 : IntKind.wrap .i64 (1 - 3) = -2 := wr (by omega) (by omega)
  by_cases o1 : s.op = 1
  · simp only [if_pos o1, Option.bind_some, if_true]
    rw [if_neg (by omega), w0, wr (by omega) (by omega)]
  by_cases o2 : s.op = 2
  · simp only [if_neg o1, if_pos o2, inside_eq m _ _ h1 h2, Option.bind_some]
    cases insideB m.cells s.v 1
    · rfl
    · simp only [if_true]; rw [if_neg (by omega), w0, wr (by omega) (by omega)]
  by_cases o3 : s.op = 3
  · simp only [if_neg o1, if_neg o2, if_pos o3, inside_eq m _ _ h1 h2, Option.bind_some]
    cases insideB m.cells s.v w
    · rfl
    · simp only [if_true]; rw [if_neg (by omega), w0, wr (by omega) (by omega)]
  by_cases o4 : s.op = 4
  · simp only [if_neg o1, if_neg o2, if_neg o3, if_pos o4]
    by_cases c1 : s.n ≥ (-1000000000000000000)
    · rw [if_pos c1]
      simp only [Option.bind_some]
      by_cases c2 : s.n ≤ 1000000000000000000
      · rw [if_pos (decide_eq_true c2), if_pos (And.intro c1 c2), if_neg (by omega), w0, wr (by omega) (by omega)]
      · rw [if_neg (by simpa using c2), if_neg (fun h => c2 h.2)]
    · rw [if_neg c1, if_neg (fun h => c1 h.1)]; rfl
  by_cases o5 : s.op = 5
  · have e : (s.op == 5) = true := by rw [o5]; rfl
    simp only [if_neg o1, if_neg o2, if_neg o3, if_neg o4, if_pos o5, e, if_true, hop, Option.bind_some]
    rw [o5, wr (n := (5 : Int) - 5) (by omega) (by omega), wr (n := (5 : Int) - 5 + 1) (by omega) (by omega)]
    rcases ht with t | t | t <;> rw [t]
    · rfl
    · by_cases c : d < 1
      · rw [if_pos (show ((1 : Int) == 5 - 5 + 1) = true from rfl), if_pos c, if_neg (fun h : (1 : Int) = 1 ∧ ¬ d < 1 => h.2 c)]
      · rw [if_pos (show ((1 : Int) == 5 - 5 + 1) = true from rfl), if_neg c, if_pos (show (1 : Int) = 1 ∧ ¬ d < 1 from ⟨rfl, c⟩), w1, Int.add_zero, wr (by omega) (by omega)]
    · rfl
  by_cases o6 : s.op = 6
  · have e : (s.op == 6) = true := by rw [o6]; rfl
    simp only [if_neg o1, if_neg o2, if_neg o3, if_neg o4, if_neg o5, if_pos o6, e, if_true, hop, Option.bind_some]
    rw [o6, wr (n := (6 : Int) - 5) (by omega) (by omega), wr (n := (6 : Int) - 5 + 1) (by omega) (by omega)]
    rcases ht with t | t | t <;> rw [t]
    · rfl
    · rfl
    · by_cases c : d < 2
      · rw [if_pos (show ((2 : Int) == 6 - 5 + 1) = true from rfl), if_pos c, if_neg (fun h : (2 : Int) = 2 ∧ ¬ d < 2 => h.2 c)]
      · rw [if_pos (show ((2 : Int) == 6 - 5 + 1) = true from rfl), if_neg c, if_pos (show (2 : Int) = 2 ∧ ¬ d < 2 from ⟨rfl, c⟩), w2, show d + -1 = d - 1 by omega, wr (by omega) (by omega)]
  have e : (s.op == 6) = false := by simp [o6]
  simp only [if_neg o1, if_neg o2, if_neg o3, if_neg o4, if_neg o5, if_neg o6, e]
  rw [if_neg (by simp)]
  by_cases o7 : s.op = 7
  · simp only [if_pos o7, Option.bind_some, if_true]
    by_cases c : d < 3
    · rw [if_pos c, if_pos c]
    · rw [if_neg c, if_neg c, w3, show d + -2 = d - 2 by omega, wr (by omega) (by omega)]
  by_cases o8 : s.op = 8
  · simp only [if_neg o7, if_pos o8, inside_eq m _ _ h1 h2, Option.bind_some]
    cases insideB m.cells s.v s.n
    · simp
    · by_cases c : d < 2
      · simp only [if_true]; rw [if_pos c, if_neg (fun h => h.2 c)]
      · simp only [if_true]; rw [if_neg c, if_pos ⟨trivial, c⟩, w2, show d + -1 = d - 1 by omega, wr (by omega) (by omega)]
  · simp only [if_neg o7, if_neg o8, Option.bind_some]
    rfl

theorem rbody (m : TLoops) (l : List TPush) (w : Int) (h1 : 1 ≤ m.cells) (h2 : m.cells ≤ 6000) (hl : l.length ≤ 9000000) (i : Nat) (d : Int) (hi : i < l.length) (d1 : 0 ≤ d) (d2 : d ≤ i) :
    ref_plainTree_l1 m l w d i = match stepF m.cells w (l.getD i default) d with | none => some (.inr (.inr false)) | some e => some (.inl (e, ((i + 1 : Nat) : Int))) := by
  unfold ref_plainTree_l1
  rw [if_pos (ltI hi), if_pos (inI hi), Int.toNat_natCast, wrs i (by omega)]
  generalize l.getD i default = s
  obtain ⟨a, b, hop⟩ := lopOf_eq s.k
  rw [hop, wr (n := d + 1) (by omega) (by omega), wr (n := d - 1) (by omega) (by omega), wr (n := d - 2) (by omega) (by omega)]
  simp only [Option.bind_some, there_eq m _ _ h1 h2]
  unfold stepF
  by_cases o1 : s.op = 1
  · simp only [if_pos o1]
  by_cases o2 : s.op = 2
  · simp only [if_neg o1, if_pos o2]
    cases insideB m.cells s.v 1 <;> rfl
  by_cases o3 : s.op = 3
  · simp only [if_neg o1, if_neg o2, if_pos o3]
    cases insideB m.cells s.v w <;> rfl
  by_cases o4 : s.op = 4
  · simp only [if_neg o1, if_neg o2, if_neg o3, if_pos o4]
    by_cases c1 : s.n < (-1000000000000000000)
    · rw [if_pos c1, if_neg (by omega)]
    · rw [if_neg c1]
      by_cases c2 : s.n > 1000000000000000000
      · rw [if_pos c2, if_neg (by omega)]
      · rw [if_neg c2, if_pos (by omega)]
  by_cases o5 : s.op = 5
  · simp only [if_neg o1, if_neg o2, if_neg o3, if_neg o4, if_pos o5]
    by_cases c1 : takesL s.k = 1
    · by_cases c : d < 1
      · rw [if_neg (fun h => h c1), if_pos c, if_neg (fun h => h.2 c)]
      · rw [if_neg (fun h => h c1), if_neg c, if_pos ⟨c1, c⟩]
    · rw [if_pos c1, if_neg (fun h => c1 h.1)]
  by_cases o6 : s.op = 6
  · simp only [if_neg o1, if_neg o2, if_neg o3, if_neg o4, if_neg o5, if_pos o6]
    by_cases c1 : takesL s.k = 2
    · by_cases c : d < 2
      · rw [if_neg (fun h => h c1), if_pos c, if_neg (fun h => h.2 c)]
      · rw [if_neg (fun h => h c1), if_neg c, if_pos ⟨c1, c⟩]
    · rw [if_pos c1, if_neg (fun h => c1 h.1)]
  by_cases o7 : s.op = 7
  · simp only [if_neg o1, if_neg o2, if_neg o3, if_neg o4, if_neg o5, if_neg o6, if_pos o7]
    by_cases c : d < 3
    · rw [if_pos c, if_pos c]
    · rw [if_neg c, if_neg c]
  by_cases o8 : s.op = 8
  · simp only [if_neg o1, if_neg o2, if_neg o3, if_neg o4, if_neg o5, if_neg o6, if_neg o7, if_pos o8]
    cases insideB m.cells s.v s.n
    · simp
    · by_cases c : d < 2
      · rw [if_pos rfl, if_pos c, if_neg (fun h => h.2 c)]
      · rw [if_pos rfl, if_neg c, if_pos ⟨rfl, c⟩]
  · simp only [if_neg o1, if_neg o2, if_neg o3, if_neg o4, if_neg o5, if_neg o6, if_neg o7, if_neg o8]

theorem tree_eq (m : TLoops) (l : List TPush) (w : Int) (h1 : 1 ≤ m.cells) (h2 : m.cells ≤ 6000) (hl : l.length ≤ 9000000) : loop_tree m l w = some (treeB m.cells w l) := by
  have h := tree_loop (body := fun (x6, x7) => loop_tree_l1 m l w x6 x7) (cells := m.cells) (w := w) hl (fun i d hi d1 d2 => lbody m l w h1 h2 hl i d hi d1 d2) (fun d => by show loop_tree_l1 _ _ _ _ _ = _; unfold loop_tree_l1; rw [if_neg (not_ltI _)]) l.length 0 0 (by omega) (by omega) (by omega)
  simp only [List.drop_zero, Int.natCast_zero] at h
  unfold loop_tree treeB
  rw [h]
  cases treeF m.cells w l 0 with
  | none => rfl
  | some e =>
    simp only [Option.bind_some, Sum.elim_inl]
    unfold loop_tree_j1
    by_cases c : e = 1
    · rw [if_pos c]; simp [c]
    · rw [if_neg c]; simp [c]
theorem plain_eq (m : TLoops) (l : List TPush) (w : Int) (h1 : 1 ≤ m.cells) (h2 : m.cells ≤ 6000) (hl : l.length ≤ 9000000) : ref_plainTree m l w = some (treeB m.cells w l) := by
  have h := tree_loop (body := fun (x6, x7) => ref_plainTree_l1 m l w x6 x7) (cells := m.cells) (w := w) hl (fun i d hi d1 d2 => rbody m l w h1 h2 hl i d hi d1 d2) (fun d => by show ref_plainTree_l1 _ _ _ _ _ = _; unfold ref_plainTree_l1; rw [if_neg (not_ltI _)]) l.length 0 0 (by omega) (by omega) (by omega)
  simp only [List.drop_zero, Int.natCast_zero] at h
  unfold ref_plainTree treeB
  rw [h]
  cases treeF m.cells w l 0 with
  | none => rfl
  | some e =>
    simp only [Option.bind_some, Sum.elim_inl]
    unfold ref_plainTree_j1
    by_cases c : e = 1
    · rw [if_pos c]; simp [c]
    · rw [if_neg c]; simp [c]

/-- a step of looping code is good -/
def stepOk (cells : Int) (x : TLoop) : Bool :=
  if x.op = 1 then insideB cells x.to 1 && treeB cells 1 x.e
  else if (x.op = 2 ∨ x.op = 3 ∨ x.op = 4) ∧ 1 ≤ x.n ∧ x.n ≤ 300 then
    treeB cells x.n x.e && insideB cells x.to (if x.op = 3 then 1 else x.n) && (decide (x.op = 2) || (decide (takesL x.k = 2) && treeB cells 1 x.f))
  else false

theorem fitsL_eq (m : TLoops) (x : TLoop) (h1 : 1 ≤ m.cells) (h2 : m.cells ≤ 6000) (he : x.e.length ≤ 9000000) (hf : x.f.length ≤ 9000000) : loop_fits m x = some (stepOk m.cells x) := by
  unfold loop_fits loop_fits_j1 loop_fits_j2 stepOk
  obtain ⟨a, b, hop⟩ := lop_eq x.k
  rw [hop]
  simp only [Option.bind_some, inside_eq m _ _ h1 h2, tree_eq m _ _ h1 h2 he, tree_eq m _ _ h1 h2 hf]
  by_cases o1 : x.op = 1
  · rw [if_pos o1, if_pos o1]
    cases insideB m.cells x.to 1 <;> rfl
  rw [if_neg o1, if_neg o1]
  have fin : ∀ (w : Int), (x.op = 2 ∨ x.op = 3 ∨ x.op = 4) → w = (if x.op = 3 then 1 else x.n) →
      (if x.n ≥ 1 then if x.n ≤ 300 then if insideB m.cells x.to w = true then if treeB m.cells x.n x.e = true then if x.op = 2 then some true else if takesL x.k = 2 then some (treeB m.cells 1 x.f) else some false else some false else some false else some false else some false) =
      some (if (x.op = 2 ∨ x.op = 3 ∨ x.op = 4) ∧ 1 ≤ x.n ∧ x.n ≤ 300 then treeB m.cells x.n x.e && insideB m.cells x.to (if x.op = 3 then 1 else x.n) && (decide (x.op = 2) || (decide (takesL x.k = 2) && treeB m.cells 1 x.f)) else false) := by
    intro w ho hw
    rw [← hw]
    by_cases n1 : x.n ≥ 1
    · by_cases n2 : x.n ≤ 300
      · rw [if_pos n1, if_pos n2, if_pos (show (x.op = 2 ∨ x.op = 3 ∨ x.op = 4) ∧ 1 ≤ x.n ∧ x.n ≤ 300 from ⟨ho, n1, n2⟩)]
        cases insideB m.cells x.to w
        · simp
        · cases treeB m.cells x.n x.e
          · simp
          · by_cases o2 : x.op = 2
            · simp [o2]
            · by_cases t : takesL x.k = 2
              · simp [o2, t]
              · simp [o2, t]
      · rw [if_pos n1, if_neg n2, if_neg (fun h => n2 h.2.2)]
    · rw [if_neg n1, if_neg (fun h => n1 h.2.1)]
  by_cases o2 : x.op = 2
  · have e : (x.op == 2) = true := by rw [o2]; rfl
    rw [if_pos o2, if_pos e, if_neg (by omega : ¬ x.op = 3)]
    exact fin x.n (.inl o2) (by rw [if_neg (by omega)])
  rw [if_neg o2]
  by_cases o4 : x.op = 4
  · have e : (x.op == 4) = true := by rw [o4]; rfl
    rw [if_pos o4, if_pos e, if_neg (by omega : ¬ x.op = 3)]
    exact fin x.n (.inr (.inr o4)) (by rw [if_neg (by omega)])
  rw [if_neg o4]
  by_cases o3 : x.op = 3
  · have e : (x.op == 3) = true := by rw [o3]; rfl
    rw [if_pos e, if_pos o3]
    exact fin 1 (.inr (.inl o3)) (by rw [if_pos o3])
  · rw [if_neg (by simp [o3]), if_neg (by omega)]

theorem loopOK_eq (m : TLoops) (x : TLoop) (h1 : 1 ≤ m.cells) (h2 : m.cells ≤ 6000) (he : x.e.length ≤ 9000000) (hf : x.f.length ≤ 9000000) : ref_loopOK m x = some (stepOk m.cells x) := by
  unfold ref_loopOK ref_loopOK_j1 stepOk
  obtain ⟨a, b, hop⟩ := lopOf_eq x.k
  rw [hop]
  simp only [Option.bind_some, there_eq m _ _ h1 h2, plain_eq m _ _ h1 h2 he, plain_eq m _ _ h1 h2 hf]
  by_cases o1 : x.op = 1
  · rw [if_pos o1, if_pos o1]
    cases insideB m.cells x.to 1 <;> rfl
  rw [if_neg o1, if_neg o1]
  by_cases c1 : x.op < 1
  · rw [if_pos c1, if_neg (show ¬ ((x.op = 2 ∨ x.op = 3 ∨ x.op = 4) ∧ 1 ≤ x.n ∧ x.n ≤ 300) by omega)]
  rw [if_neg c1]
  by_cases c2 : x.op > 4
  · rw [if_pos c2, if_neg (show ¬ ((x.op = 2 ∨ x.op = 3 ∨ x.op = 4) ∧ 1 ≤ x.n ∧ x.n ≤ 300) by omega)]
  rw [if_neg c2]
  by_cases c3 : x.n < 1
  · rw [if_pos c3, if_neg (show ¬ ((x.op = 2 ∨ x.op = 3 ∨ x.op = 4) ∧ 1 ≤ x.n ∧ x.n ≤ 300) by omega)]
  rw [if_neg c3]
  by_cases c4 : x.n > 300
  · rw [if_pos c4, if_neg (show ¬ ((x.op = 2 ∨ x.op = 3 ∨ x.op = 4) ∧ 1 ≤ x.n ∧ x.n ≤ 300) by omega)]
  rw [if_neg c4, if_pos (show (x.op = 2 ∨ x.op = 3 ∨ x.op = 4) ∧ 1 ≤ x.n ∧ x.n ≤ 300 by omega)]
  cases treeB m.cells x.n x.e
  · simp
  · by_cases o3 : x.op = 3
    · rw [if_pos rfl, if_pos o3, if_pos o3]
      cases insideB m.cells x.to 1
      · simp
      · by_cases t : takesL x.k = 2
        · simp [o3, t]
        · simp [o3, t]
    · rw [if_pos rfl, if_neg o3, if_neg o3]
      cases insideB m.cells x.to x.n
      · simp
      · by_cases o2 : x.op = 2
        · simp [o2]
        · by_cases t : takesL x.k = 2
          · simp [o2, t]
          · simp [o2, t]
end Pam

/- The check of looping code is as the document says. -/
namespace Pam
open Go

theorem roomL {n b : Nat} (h : n ≤ 200000) (hb : b ≤ 1000) : room n b := by
  have h1 : n * b ≤ 200000 * 1000 := Nat.mul_le_mul h hb
  exact ⟨by omega, by simp only [maxLen]; omega⟩

theorem upto_all {α Z : Type} [Inhabited α] (l : List α) (p : α → Bool) (z : Z) : upto l.length (fun i => if p (l.getD i default) = true then none else some z) () = if l.all p = true then .inl () else .inr z := by
  rcases upto_cases l.length (fun i => if p (l.getD i default) = true then none else some z) () with ⟨e, h⟩ | ⟨i, z', hi, hf, e⟩
  · rw [e, if_pos]
    rw [all_getD, decide_eq_true_eq]
    intro i hi
    have := h i hi
    split at this
    · assumption
    · cases this
  · rw [e, if_neg]
    · split at hf
      · cases hf
      · simp only [Option.some.injEq] at hf; rw [hf]
    · rw [all_getD, decide_eq_true_eq]
      intro h
      rw [if_pos (h i hi)] at hf
      cases hf

def stepsF (m : TLoops) : Unit ⊕ TFault := upto m.steps.length (fun i => if stepOk m.cells (m.steps.getD i default) = true then none else some (TFault.mk 4 i)) ()
def loopsF (m : TLoops) : TFault :=
  if m.cells < 1 ∨ m.cells > 6000 then TFault.mk 13 (-1)
  else if (m.put.length : Int) > 6000 ∨ (m.get.length : Int) > 120000 ∨ (m.steps.length : Int) > 1200 then TFault.mk 7 (-1)
  else if (m.put ++ m.get).all (fun a => insideB m.cells a 1) = true then (match stepsF m with | .inl _ => TFault.mk 0 0 | .inr z => z)
  else TFault.mk 16 (-1)

theorem grow_eq (n : Nat) (h : n ≤ 200000) : slices_Grow_int_int (n : Int) = some [] := by
  have w0 : IntKind.wrap .i64 (0 - 0) = 0 := wr (by omega) (by omega)
  unfold slices_Grow_int_int
  rw [if_neg (by omega), w0, Int.sub_zero, wr (by omega) (by omega)]
  by_cases z : (n : Int) > 0
  · rw [if_pos z, if_pos ⟨by omega, roomL (by omega) (by omega)⟩, if_pos ⟨by omega, by omega⟩, List.take_zero]
  · rw [if_neg z]

theorem concat_eq (a b : List Int) (ha : a.length ≤ 6000) (hb : b.length ≤ 120000) : slices_Concat_int_int (lit [a, b]) = some (a ++ b) := by
  unfold slices_Concat_int_int
  rw [show lit ([a, b] : List (List Int)) = [a, b] from rfl]
  have hlen : (([a, b] : List (List Int)).length : Int) = 2 := rfl
  have e1 : IntKind.wrap .i64 (0 + (a.length : Int)) = (a.length : Int) := by rw [Int.zero_add]; exact wr (by omega) (by omega)
  have e2 : IntKind.wrap .i64 ((a.length : Int) + (b.length : Int)) = ((a.length + b.length : Nat) : Int) := by rw [wr (by omega) (by omega)]; omega
  have s1 : slices_Concat_int_int_l2 [a, b] 0 0 = some (.inl ((a.length : Int), 1)) := by
    unfold slices_Concat_int_int_l2
    rw [if_pos (by rw [hlen]; omega), if_pos (by rw [hlen]; omega)]
    show (if IntKind.wrap .i64 (0 + (a.length : Int)) < 0 then none else (some (.inl (IntKind.wrap .i64 (0 + (a.length : Int)), IntKind.wrap .i64 (0 + 1))) : Option ((Int × Int) ⊕ Int))) = _
    rw [e1, if_neg (by omega)]; rfl
  have s2 : slices_Concat_int_int_l2 [a, b] (a.length : Int) 1 = some (.inl (((a.length + b.length : Nat) : Int), 2)) := by
    unfold slices_Concat_int_int_l2
    rw [if_pos (by rw [hlen]; omega), if_pos (by rw [hlen]; omega)]
    show (if IntKind.wrap .i64 ((a.length : Int) + (b.length : Int)) < 0 then none else (some (.inl (IntKind.wrap .i64 ((a.length : Int) + (b.length : Int)), IntKind.wrap .i64 (1 + 1))) : Option ((Int × Int) ⊕ Int))) = _
    rw [e2, if_neg (by omega)]; rfl
  have s3 : ∀ x, slices_Concat_int_int_l2 [a, b] x 2 = some (.inr x) := by
    intro x
    unfold slices_Concat_int_int_l2
    rw [if_neg (by rw [hlen]; omega)]
  rw [loop_next (s' := ((a.length : Int), 1)) s1, loop_next (s' := (((a.length + b.length : Nat) : Int), 2)) s2, loop_done (s3 _)]
  simp only [Option.bind_some]
  unfold slices_Concat_int_int_j1
  rw [grow_eq _ (by omega)]
  simp only [Option.bind_some]
  have t1 : slices_Concat_int_int_l1 [a, b] [] 0 = some (.inl (a, 1)) := by
    unfold slices_Concat_int_int_l1
    rw [if_pos (by rw [hlen]; omega), if_pos (by rw [hlen]; omega)]
    show (if room (0 + a.length) 8 then (some (.inl ([] ++ a, IntKind.wrap .i64 (0 + 1))) : Option ((List Int × Int) ⊕ List Int)) else none) = _
    rw [if_pos (roomL (by omega) (by omega))]; rfl
  have t2 : slices_Concat_int_int_l1 [a, b] a 1 = some (.inl (a ++ b, 2)) := by
    unfold slices_Concat_int_int_l1
    rw [if_pos (by rw [hlen]; omega), if_pos (by rw [hlen]; omega)]
    show (if room (a.length + b.length) 8 then (some (.inl (a ++ b, IntKind.wrap .i64 (1 + 1))) : Option ((List Int × Int) ⊕ List Int)) else none) = _
    rw [if_pos (roomL (by omega) (by omega))]; rfl
  have t3 : slices_Concat_int_int_l1 [a, b] (a ++ b) 2 = some (.inr (a ++ b)) := by
    unfold slices_Concat_int_int_l1
    rw [if_neg (by rw [hlen]; omega)]
  rw [loop_next (s' := (a, 1)) t1, loop_next (s' := (a ++ b, 2)) t2, loop_done t3]
  rfl

theorem getD_len (m : TLoops) (hs : ∀ x ∈ m.steps, x.e.length ≤ 9000000 ∧ x.f.length ≤ 9000000) (i : Nat) (hi : i < m.steps.length) : (m.steps.getD i default).e.length ≤ 9000000 ∧ (m.steps.getD i default).f.length ≤ 9000000 := hs _ (getD_mem hi)

theorem loopCheck_eq (m : TLoops) (hs : ∀ x ∈ m.steps, x.e.length ≤ 9000000 ∧ x.f.length ≤ 9000000) : loop_Check m = some (loopsF m) := by
  unfold loop_Check loopsF
  by_cases c1 : m.cells < 1
  · rw [if_pos c1, if_pos (.inl c1)]
  rw [if_neg c1]
  by_cases c2 : m.cells > 6000
  · rw [if_pos c2, if_pos (.inr c2)]
  rw [if_neg c2, if_neg (by omega : ¬ (m.cells < 1 ∨ m.cells > 6000))]
  by_cases c3 : (m.put.length : Int) > 6000
  · rw [if_pos c3, if_pos (.inl c3)]
  rw [if_neg c3]
  by_cases c4 : (m.get.length : Int) > 120000
  · rw [if_pos c4, if_pos (.inr (.inl c4))]
  rw [if_neg c4]
  by_cases c5 : (m.steps.length : Int) > 1200
  · rw [if_pos c5, if_pos (.inr (.inr c5))]
  rw [if_neg c5, if_neg (by omega : ¬ ((m.put.length : Int) > 6000 ∨ (m.get.length : Int) > 120000 ∨ (m.steps.length : Int) > 1200))]
  rw [concat_eq _ _ (by omega) (by omega)]
  simp only [Option.bind_some]
  rw [loop_upto (m.put ++ m.get).length (fun i => if insideB m.cells ((m.put ++ m.get).getD i default) 1 = true then none else some (TFault.mk 16 (-1))) ()]
  · rw [upto_all (m.put ++ m.get) (fun a => insideB m.cells a 1)]
    cases hh : (m.put ++ m.get).all (fun a => insideB m.cells a 1)
    · rfl
    · simp only [Option.bind_some, if_true, Sum.elim_inl]
      unfold loop_Check_j1
      rw [loop_upto m.steps.length (fun i => if stepOk m.cells (m.steps.getD i default) = true then none else some (TFault.mk 4 i)) ()]
      · show Option.bind (some (stepsF m)) _ = _
        cases stepsF m <;> rfl
      · intro i hi
        obtain ⟨l1, l2⟩ := getD_len m hs i hi
        unfold loop_Check_l1
        rw [if_pos (ltI hi), if_pos (inI hi), Int.toNat_natCast, fitsL_eq m _ (by omega) (by omega) l1 l2, wrs i (by omega)]
        simp only [Option.bind_some]
        cases stepOk m.cells (m.steps.getD i default) <;> rfl
      · unfold loop_Check_l1; rw [if_neg (not_ltI _)]
  · intro i hi
    unfold loop_Check_l2
    rw [if_pos (ltI hi), if_pos (inI hi), Int.toNat_natCast, inside_eq m _ _ (by omega) (by omega), wrs i (by simp at hi; omega)]
    simp only [Option.bind_some]
    cases insideB m.cells ((m.put ++ m.get).getD i default) 1 <;> rfl
  · unfold loop_Check_l2; rw [if_neg (not_ltI _)]

theorem loopsFault_eq (m : TLoops) (hs : ∀ x ∈ m.steps, x.e.length ≤ 9000000 ∧ x.f.length ≤ 9000000) : ref_LoopsFault m = some (loopsF m) := by
  unfold ref_LoopsFault loopsF ref_F
  simp only [Option.bind_some]
  by_cases c1 : m.cells < 1
  · rw [if_pos c1, if_pos (.inl c1)]
  rw [if_neg c1]
  by_cases c2 : m.cells > 6000
  · rw [if_pos c2, if_pos (.inr c2)]
  rw [if_neg c2, if_neg (by omega : ¬ (m.cells < 1 ∨ m.cells > 6000))]
  by_cases c3 : (m.put.length : Int) > 6000
  · rw [if_pos c3, if_pos (.inl c3)]
  rw [if_neg c3]
  by_cases c4 : (m.get.length : Int) > 120000
  · rw [if_pos c4, if_pos (.inr (.inl c4))]
  rw [if_neg c4]
  by_cases c5 : (m.steps.length : Int) > 1200
  · rw [if_pos c5, if_pos (.inr (.inr c5))]
  rw [if_neg c5, if_neg (by omega : ¬ ((m.put.length : Int) > 6000 ∨ (m.get.length : Int) > 120000 ∨ (m.steps.length : Int) > 1200))]
  rw [loop_upto m.put.length (fun i => if insideB m.cells (m.put.getD i default) 1 = true then none else some (TFault.mk 16 (-1))) ()]
  · rw [upto_all m.put (fun a => insideB m.cells a 1), List.all_append]
    cases hh : m.put.all (fun a => insideB m.cells a 1)
    · rfl
    · simp only [Option.bind_some, if_true, Sum.elim_inl, Bool.true_and]
      unfold ref_LoopsFault_j1
      rw [loop_upto m.get.length (fun i => if insideB m.cells (m.get.getD i default) 1 = true then none else some (TFault.mk 16 (-1))) ()]
      · rw [upto_all m.get (fun a => insideB m.cells a 1)]
        cases hh : m.get.all (fun a => insideB m.cells a 1)
        · rfl
        · simp only [Option.bind_some, if_true, Sum.elim_inl]
          unfold ref_LoopsFault_j2
          rw [loop_upto m.steps.length (fun i => if stepOk m.cells (m.steps.getD i default) = true then none else some (TFault.mk 4 i)) ()]
          · show Option.bind (some (stepsF m)) _ = _
            cases stepsF m <;> rfl
          · intro i hi
            obtain ⟨l1, l2⟩ := getD_len m hs i hi
            unfold ref_LoopsFault_l1 ref_F
            rw [if_pos (ltI hi), if_pos (inI hi), Int.toNat_natCast, loopOK_eq m _ (by omega) (by omega) l1 l2, wrs i (by omega)]
            simp only [Option.bind_some]
            cases stepOk m.cells (m.steps.getD i default) <;> rfl
          · unfold ref_LoopsFault_l1; rw [if_neg (not_ltI _)]
      · intro i hi
        unfold ref_LoopsFault_l2 ref_F
        rw [if_pos (ltI hi), if_pos (inI hi), Int.toNat_natCast, there_eq m _ _ (by omega) (by omega), wrs i (by omega)]
        simp only [Option.bind_some]
        cases insideB m.cells (m.get.getD i default) 1 <;> rfl
      · unfold ref_LoopsFault_l2; rw [if_neg (not_ltI _)]
  · intro i hi
    unfold ref_LoopsFault_l3 ref_F
    rw [if_pos (ltI hi), if_pos (inI hi), Int.toNat_natCast, there_eq m _ _ (by omega) (by omega), wrs i (by omega)]
    simp only [Option.bind_some]
    cases insideB m.cells (m.put.getD i default) 1 <;> rfl
  · unfold ref_LoopsFault_l3; rw [if_neg (not_ltI _)]
end Pam

/- Looping code is checked as the document says: the plain law. -/
namespace Pam
open Go

theorem clone_push (l : List TPush) (h : l.length ≤ 200000) : slices_Clone_api_Push_api_Push l = some l := by
  unfold slices_Clone_api_Push_api_Push
  by_cases z : l = []
  · rw [if_pos z, z]
  · rw [if_neg z, if_pos (roomL h (by omega))]
theorem cloneL_int (l : List Int) (h : l.length ≤ 200000) : slices_Clone_int_int l = some l := by
  unfold slices_Clone_int_int
  by_cases z : l = []
  · rw [if_pos z, z]
  · rw [if_neg z, if_pos (roomL h (by omega))]

theorem great_eq (m : TLoops) (hl : m.steps.length ≤ 9000000) : ∃ b, ref_GreatLoops m = some b ∧ (b = false → m.put.length ≤ 7000 ∧ m.get.length ≤ 130000 ∧ m.steps.length ≤ 1300 ∧ ∀ i, i < m.steps.length → (m.steps.getD i default).e.length ≤ 1000 ∧ (m.steps.getD i default).f.length ≤ 1000) := by
  unfold ref_GreatLoops
  by_cases c1 : (m.put.length : Int) > 7000
  · rw [if_pos c1]; exact ⟨true, rfl, fun h => by cases h⟩
  rw [if_neg c1]
  by_cases c2 : (m.get.length : Int) > 130000
  · rw [if_pos c2]; exact ⟨true, rfl, fun h => by cases h⟩
  rw [if_neg c2]
  by_cases c3 : (m.steps.length : Int) > 1300
  · rw [if_pos c3]; exact ⟨true, rfl, fun h => by cases h⟩
  rw [if_neg c3]
  have key : ∀ (k i : Nat) (a : Int), i + k = m.steps.length → ∃ r, loop (fun (x6, x7) => ref_GreatLoops_l1 m x6 x7) (a, (i : Int)) = some r ∧ (∀ z, r = .inr z → z = true) ∧
      (∀ z, r = .inl z → ∀ j, i ≤ j → j < m.steps.length → (m.steps.getD j default).e.length ≤ 1000 ∧ (m.steps.getD j default).f.length ≤ 1000) := by
    intro k
    induction k with
    | zero =>
      intro i a hi
      have : i = m.steps.length := by omega
      subst this
      exact ⟨.inl a, loop_done (by show ref_GreatLoops_l1 _ _ _ = _; unfold ref_GreatLoops_l1; rw [if_neg (not_ltI _)]), (fun z h => by cases h), fun z _ j h1 h2 => by omega⟩
    | succ k ih =>
      intro i a hi
      have hlt : i < m.steps.length := by omega
      by_cases g1 : (((m.steps.getD i default).e).length : Int) > 1000
      · exact ⟨.inr true, loop_done (by show ref_GreatLoops_l1 _ _ _ = _; unfold ref_GreatLoops_l1; rw [if_pos (ltI hlt), Int.toNat_natCast, if_pos g1, if_pos (inI hlt)]), (fun z h => by cases h; rfl), fun z h => by cases h⟩
      by_cases g2 : (((m.steps.getD i default).f).length : Int) > 1000
      · exact ⟨.inr true, loop_done (by show ref_GreatLoops_l1 _ _ _ = _; unfold ref_GreatLoops_l1; rw [if_pos (ltI hlt), Int.toNat_natCast, if_neg g1, if_pos (inI hlt), if_pos g2]), (fun z h => by cases h; rfl), fun z h => by cases h⟩
      obtain ⟨r, h1, h2, h3⟩ := ih (i + 1) (IntKind.wrap .i64 (a + (IntKind.wrap .i64 ((((m.steps.getD i default).e).length : Int) + (((m.steps.getD i default).f).length : Int))))) (by omega)
      refine ⟨r, ?_, h2, fun z hz j j1 j2 => ?_⟩
      · rw [← h1]
        exact loop_next (by show ref_GreatLoops_l1 _ _ _ = _; unfold ref_GreatLoops_l1; rw [if_pos (ltI hlt), Int.toNat_natCast, if_neg g1, if_pos (inI hlt), if_neg g2, wrs i (by omega)])
      · by_cases e : j = i
        · subst e; omega
        · exact h3 z hz j (by omega) j2
  obtain ⟨r, h1, h2, h3⟩ := key m.steps.length 0 0 (by omega)
  simp only [Int.natCast_zero] at h1
  rw [h1]
  cases r with
  | inr z => rw [h2 z rfl]; exact ⟨true, rfl, fun h => by cases h⟩
  | inl z => exact ⟨_, rfl, fun _ => ⟨by omega, by omega, by omega, fun i hi => h3 z rfl i (by omega) hi⟩⟩

theorem take_step {α : Type} [Inhabited α] (l : List α) (i : Nat) (hi : i < l.length) : l.take (i + 1) = l.take i ++ [l.getD i default] := by
  rw [List.take_succ, List.getElem?_eq_getElem hi]
  simp [List.getD, hi]

theorem copyLoops_eq (m : TLoops) (h1 : m.put.length ≤ 7000) (h2 : m.get.length ≤ 130000) (h3 : m.steps.length ≤ 1300) (h4 : ∀ i, i < m.steps.length → (m.steps.getD i default).e.length ≤ 1000 ∧ (m.steps.getD i default).f.length ≤ 1000) : ref_CopyLoops m = some m := by
  have key : ∀ (k i : Nat), i + k = m.steps.length → loop (fun (l17, x19) => ref_CopyLoops_l1 m l17 x19) (m.steps.take i, (i : Int)) = some m.steps := by
    intro k
    induction k with
    | zero =>
      intro i hi
      have : i = m.steps.length := by omega
      subst this
      rw [List.take_length]
      exact loop_done (by show ref_CopyLoops_l1 _ _ _ = _; unfold ref_CopyLoops_l1; rw [if_neg (not_ltI _)])
    | succ k ih =>
      intro i hi
      have hlt : i < m.steps.length := by omega
      obtain ⟨g1, g2⟩ := h4 i hlt
      rw [loop_next (s' := (m.steps.take (i + 1), ((i + 1 : Nat) : Int))) (by
        show ref_CopyLoops_l1 _ _ _ = _
        unfold ref_CopyLoops_l1
        rw [if_pos (ltI hlt), Int.toNat_natCast, if_pos (inI hlt), if_pos ⟨roomL (by omega) (by omega), roomL (by omega) (by omega)⟩, if_pos (roomL (by simp; omega) (by omega)), wrs i (by omega), take_step _ i hlt]
        rfl)]
      exact ih (i + 1) (by omega)
  have := key m.steps.length 0 (by omega)
  simp only [List.take_zero, Int.natCast_zero] at this
  unfold ref_CopyLoops
  rw [if_pos ⟨roomL (by omega) (by omega), roomL (by omega) (by omega)⟩, this]
  rfl

/-- the looping code of the document's first words -/
def begunSteps : List TLoop := [TLoop.mk 1 0 0 2 [] [TPush.mk 2 0 1 0, TPush.mk 2 0 0 0, TPush.mk 6 1 0 0], TLoop.mk 1 0 0 0 [] [TPush.mk 1 0 0 7]]
def begunL : TLoops := TLoops.mk 3 [1] [2] begunSteps
theorem begunL_chk : loopsF begunL = TFault.mk 0 0 := by
  unfold loopsF
  rw [if_neg (by decide), if_neg (by decide), if_pos (by decide)]
  have : stepsF begunL = .inl () := by
    unfold stepsF
    refine upto_none fun i hi => ?_
    have hi' : i < 2 := hi
    have : i = 0 ∨ i = 1 := by omega
    rcases this with rfl | rfl <;> rw [if_pos (by decide)]
  rw [this]
theorem begunL_new : loop_New begunL = some (.inr (TFault.mk 0 0, 3, [1], [2], begunSteps, 0, 0, [0, 0, 0])) := by
  unfold loop_New
  rw [loopCheck_eq begunL (by
    intro x hx
    simp only [begunL, begunSteps, List.mem_cons, List.not_mem_nil, or_false] at hx
    rcases hx with rfl | rfl <;> decide), begunL_chk]
  simp only [Option.bind_some]
  rw [if_neg (by decide), cloneL_int _ (by decide), cloneL_int _ (by decide)]
  simp only [Option.bind_some]
  rw [loop_next (s' := (begunSteps.take 1, 1)) (by
      show loop_New_l1 _ _ _ = _
      unfold loop_New_l1
      rw [if_pos (by decide), if_pos (by decide), clone_push _ (by decide), clone_push _ (by decide)]
      simp only [Option.bind_some]
      rw [if_pos (roomL (by decide) (by omega))]
      rfl),
    loop_next (s' := (begunSteps, 2)) (by
      show loop_New_l1 _ _ _ = _
      unfold loop_New_l1
      rw [if_pos (by decide), if_pos (by decide), clone_push _ (by decide), clone_push _ (by decide)]
      simp only [Option.bind_some]
      rw [if_pos (roomL (by decide) (by omega))]
      rfl), loop_done (o := begunSteps) (by
      show loop_New_l1 _ _ _ = _
      unfold loop_New_l1
      rw [if_neg (by decide)])]
  simp only [Option.bind_some]
  unfold loop_New_j1
  rw [if_pos ⟨by decide, roomL (by decide) (by omega)⟩]
  rfl

theorem tree7 (c : List Int) : loop_Machine_tree [TPush.mk 1 0 0 7] 0 3 [1] [2] begunSteps c = some 7 := by
  unfold loop_Machine_tree
  rw [loop_next (s' := ([7], 1)) (by
    show loop_Machine_tree_l1 _ _ _ _ _ = _
    unfold loop_Machine_tree_l1
    rw [if_pos (by decide), if_pos (by decide), if_pos (by decide), if_pos (roomL (by decide) (by omega))]
    rfl), loop_done (o := [7]) (by
    show loop_Machine_tree_l1 _ _ _ _ _ = _
    unfold loop_Machine_tree_l1
    rw [if_neg (by decide)])]
  rfl
theorem treeSum (a b c : Int) (ha : a + b = 5 ∧ a = 0 ∧ b = 5 ∨ a + b = 12 ∧ a = 7 ∧ b = 5) : loop_Machine_tree [TPush.mk 2 0 1 0, TPush.mk 2 0 0 0, TPush.mk 6 1 0 0] 0 3 [1] [2] begunSteps [a, b, c] = some (a + b) := by
  unfold loop_Machine_tree
  rw [loop_next (s' := ([b], 1)) (by
    show loop_Machine_tree_l1 _ _ _ _ _ = _
    unfold loop_Machine_tree_l1
    rw [if_pos (by decide), if_pos (by decide), if_neg (by decide), if_pos (by decide), if_pos ⟨by exact ⟨by decide, by show (1 : Int) < 3; decide⟩, roomL (by decide) (by omega)⟩]
    rfl), loop_next (s' := ([b, a], 2)) (by
    show loop_Machine_tree_l1 _ _ _ _ _ = _
    unfold loop_Machine_tree_l1
    rw [if_pos (by decide), if_pos (by decide), if_neg (by decide), if_pos (by decide), if_pos ⟨by exact ⟨by decide, by show (0 : Int) < 3; decide⟩, roomL (by show 2 ≤ 200000; decide) (by omega)⟩]
    rfl), loop_next (s' := ([a + b], 3)) (by
    rcases ha with ⟨h, rfl, rfl⟩ | ⟨h, rfl, rfl⟩ <;> rfl), loop_done (o := [a + b]) (by
    show loop_Machine_tree_l1 _ _ _ _ _ = _
    unfold loop_Machine_tree_l1
    rw [if_neg (by decide)])]
  rfl

theorem begunL_row (a c d : Int) (o : Int) (ha : a = 0 ∧ o = 5 ∨ a = 7 ∧ o = 12) : loop_Machine_Row_2 [5] 3 [1] [2] begunSteps [a, c, d] = some ([o], TFault.mk 0 0, [7, 5, o]) := by
  unfold loop_Machine_Row_2
  rw [if_neg (by decide)]
  rw [loop_next (s' := ([a, 5, d], 1)) (by
    show loop_Machine_Row_2_l3 _ _ _ _ = _
    unfold loop_Machine_Row_2_l3
    rw [if_pos (by decide), if_pos (by decide), if_pos ⟨by decide, by decide, by show (1 : Int) < 3; decide⟩]
    rfl), loop_done (o := [a, 5, d]) (by
    show loop_Machine_Row_2_l3 _ _ _ _ = _
    unfold loop_Machine_Row_2_l3
    rw [if_neg (by decide)])]
  simp only [Option.bind_some]
  unfold loop_Machine_Row_2_j1
  have ho : a + 5 = o := by omega
  rw [loop_next (s' := ([a, 5, o], 1)) (by
    show loop_Machine_Row_2_l2 _ _ _ _ _ _ = _
    unfold loop_Machine_Row_2_l2 loop_Machine_step
    rw [if_pos (by decide), if_pos (by decide)]
    show Option.bind (if (1 : Int) = 1 then (loop_Machine_tree [TPush.mk 2 0 1 0, TPush.mk 2 0 0 0, TPush.mk 6 1 0 0] 0 3 [1] [2] begunSteps [a, 5, d]).bind _ else _) _ = _
    rw [if_pos rfl, treeSum a 5 d (by omega), ho]
    simp only [Option.bind_some]
    rw [if_pos ⟨by decide, by show (2 : Int) < 3; decide⟩]
    rfl), loop_next (s' := ([7, 5, o], 2)) (by
    show loop_Machine_Row_2_l2 _ _ _ _ _ _ = _
    unfold loop_Machine_Row_2_l2 loop_Machine_step
    rw [if_pos (by decide), if_pos (by decide)]
    show Option.bind (if (1 : Int) = 1 then (loop_Machine_tree [TPush.mk 1 0 0 7] 0 3 [1] [2] begunSteps [a, 5, o]).bind _ else _) _ = _
    rw [if_pos rfl, tree7]
    simp only [Option.bind_some]
    rw [if_pos ⟨by decide, by show (0 : Int) < 3; decide⟩]
    rfl), loop_done (o := [7, 5, o]) (by
    show loop_Machine_Row_2_l2 _ _ _ _ _ _ = _
    unfold loop_Machine_Row_2_l2
    rw [if_neg (by decide)])]
  simp only [Option.bind_some]
  unfold loop_Machine_Row_2_j2
  rw [loop_next (s' := ([o], 1)) (by
    show loop_Machine_Row_2_l1 _ _ _ _ = _
    unfold loop_Machine_Row_2_l1
    rw [if_pos (by decide), if_pos (by decide), if_pos ⟨⟨by decide, by show (2 : Int) < 3; decide⟩, roomL (by decide) (by omega)⟩]
    rfl), loop_done (o := [o]) (by
    show loop_Machine_Row_2_l1 _ _ _ _ = _
    unfold loop_Machine_Row_2_l1
    rw [if_neg (by decide)])]
  rfl

theorem sameL_one (a : Int) : ref_SameLongs [a] [a] = some true := by
  unfold ref_SameLongs
  rw [if_neg (by simp), loop_upto 1 (fun _ => none) ()]
  · rw [upto_none (fun _ _ => rfl)]; rfl
  · intro i hi
    have : i = 0 := by omega
    subst this
    unfold ref_SameLongs_l1
    rw [if_pos (by simp), if_pos (by simp), if_neg (by simp), wrs 0 (by omega)]
  · unfold ref_SameLongs_l1; rw [if_neg (by simp)]

theorem loopBegun_true : law_loopBegun = some true := by
  unfold law_loopBegun law_loopsOne
  simp only [Option.bind_some]
  show (loop_New begunL).bind _ = _
  rw [begunL_new]
  simp only [Option.bind_some, Sum.elim_inr]
  rw [if_neg (by decide)]
  show (loop_Machine_Row_2 [5] 3 [1] [2] begunSteps [0, 0, 0]).bind _ = _
  rw [begunL_row 0 0 0 5 (.inl ⟨rfl, rfl⟩)]
  simp only [Option.bind_some]
  show (loop_Machine_Row_2 [5] 3 [1] [2] begunSteps [7, 5, 5]).bind _ = _
  rw [begunL_row 7 5 5 12 (.inr ⟨rfl, rfl⟩)]
  simp only [Option.bind_some, if_true]
  rw [show (lit [5] : List Int) = [5] from rfl, show (lit [12] : List Int) = [12] from rfl, sameL_one, sameL_one]
  rfl

theorem law_LoopChecks_true (m : TLoops) (hm : m.ok) (hs : m.sz ≤ 1048576) : law_LoopChecks m = some true := by
  have z4 := szL_len TLoop.sz_pos m.steps
  unfold TLoops.sz at hs
  obtain ⟨b, hg, hb⟩ := great_eq m (by omega)
  unfold law_LoopChecks
  rw [loopBegun_true, hg]
  simp only [Option.bind_some, if_true]
  cases b with
  | true => rfl
  | false =>
  obtain ⟨h1, h2, h3, h4⟩ := hb rfl
  have hst : ∀ x ∈ m.steps, x.e.length ≤ 9000000 ∧ x.f.length ≤ 9000000 := by
    intro x hx
    obtain ⟨i, hi, he⟩ := List.getElem_of_mem hx
    have := h4 i hi
    rw [show m.steps.getD i default = x by simp [List.getD, hi, he]] at this
    omega
  rw [if_neg (by simp), copyLoops_eq m h1 h2 h3 h4]
  simp only [Option.bind_some]
  rw [loopCheck_eq m hst, loopsFault_eq m hst]
  simp
end Pam
