/- Trees of looping code: both tell the same trees good. -/
import Derived.Test.YtkdminbbajdjpaaLoopRowsFun1
import Derived.Test.YtkdminbbajdjpaaWide1
set_option linter.all false
namespace Pam
open Go

def takesL (k : Int) : Int := if 1 ≤ k ∧ k ≤ 12 then 2 else if k = 13 ∨ k = 14 then 1 else 0
theorem lop_eq (k : Int) : ∃ a b, kinds_Op k = some (a, b, takesL k) := by
  unfold kinds_Op takesL
  repeat' split
  all_goals first
    | exact ⟨_, _, rfl⟩
    | (exfalso; omega)
theorem lopOf_eq (k : Int) : ∃ a b, ref_OpOf k = some (a, b, takesL k) := by
  unfold ref_OpOf
  by_cases h1 : k < 1
  · rw [if_pos h1]; exact ⟨0, 0, by unfold takesL; rw [if_neg (by omega), if_neg (by omega)]⟩
  · rw [if_neg h1]
    by_cases h2 : k > 14
    · rw [if_pos h2]; exact ⟨0, 0, by unfold takesL; rw [if_neg (by omega), if_neg (by omega)]⟩
    · rw [if_neg h2]
      have hg : (0 ≤ k ∧ k < (([63, 105, 105, 105, 105, 105, 105, 105, 105, 105, 98, 98, 98, 105, 98] : List UInt8).length : Int)) ∧ (0 ≤ k ∧ k < (([63, 105, 105, 105, 105, 105, 105, 105, 98, 98, 98, 98, 98, 105, 98] : List UInt8).length : Int)) := by
        simp only [List.length_cons, List.length_nil]; omega
      by_cases h3 : k ≥ 13
      · rw [if_pos h3]; unfold ref_OpOf_j1; rw [if_pos hg]; exact ⟨_, _, by unfold takesL; rw [if_neg (by omega), if_pos (by omega)]⟩
      · rw [if_neg h3]; unfold ref_OpOf_j1; rw [if_pos hg]; exact ⟨_, _, by unfold takesL; rw [if_pos (by omega)]⟩

def insideB (cells a n : Int) : Bool := decide (0 ≤ a ∧ 1 ≤ n ∧ a + n ≤ cells)
theorem inside_eq (m : TLoops) (a n : Int) (h1 : 1 ≤ m.cells) (h2 : m.cells ≤ 6000) : loop_inside m a n = some (insideB m.cells a n) := by
  unfold loop_inside insideB
  by_cases a1 : a ≥ 0
  · rw [if_pos a1]
    by_cases a2 : n ≥ 1
    · rw [if_pos a2]
      by_cases a3 : n ≤ m.cells
      · rw [if_pos a3, wr (by omega) (by omega)]; congr 1; rw [decide_eq_decide]; omega
      · rw [if_neg a3]; congr 1; symm; rw [decide_eq_false_iff_not]; omega
    · rw [if_neg a2]; congr 1; symm; rw [decide_eq_false_iff_not]; omega
  · rw [if_neg a1]; congr 1; symm; rw [decide_eq_false_iff_not]; omega
theorem there_eq (m : TLoops) (a n : Int) (h1 : 1 ≤ m.cells) (h2 : m.cells ≤ 6000) : ref_there m a n = some (insideB m.cells a n) := by
  unfold ref_there insideB
  by_cases a1 : a ≥ 0
  · rw [if_pos a1]
    by_cases a2 : a < m.cells
    · rw [if_pos a2]
      by_cases a3 : n ≥ 1
      · rw [if_pos a3, wr (by omega) (by omega)]; congr 1; rw [decide_eq_decide]; omega
      · rw [if_neg a3]; congr 1; symm; rw [decide_eq_false_iff_not]; omega
    · rw [if_neg a2]; congr 1; symm; rw [decide_eq_false_iff_not]; omega
  · rw [if_neg a1]; congr 1; symm; rw [decide_eq_false_iff_not]; omega

/-- one step of a tree: how deep it leaves the stack -/
def stepF (cells w : Int) (s : TPush) (d : Int) : Option Int :=
  if s.op = 1 then some (d + 1) else if s.op = 2 then (if insideB cells s.v 1 = true then some (d + 1) else none)
  else if s.op = 3 then (if insideB cells s.v w = true then some (d + 1) else none)
  else if s.op = 4 then (if s.n ≥ (-1000000000000000000) ∧ s.n ≤ 1000000000000000000 then some (d + 1) else none)
  else if s.op = 5 then (if takesL s.k = 1 ∧ ¬ d < 1 then some d else none)
  else if s.op = 6 then (if takesL s.k = 2 ∧ ¬ d < 2 then some (d - 1) else none)
  else if s.op = 7 then (if d < 3 then none else some (d - 2))
  else if s.op = 8 then (if insideB cells s.v s.n = true ∧ ¬ d < 2 then some (d - 1) else none)
  else none
/-- a tree from here on -/
def treeF (cells w : Int) : List TPush → Int → Option Int
  | [], d => some d
  | s :: r, d => match stepF cells w s d with | none => none | some e => treeF cells w r e
theorem stepF_le {cells w : Int} {s : TPush} {d e : Int} (h : stepF cells w s d = some e) (hd : 0 ≤ d) : 0 ≤ e ∧ e ≤ d + 1 := by
  unfold stepF at h
  repeat' split at h
  all_goals first
    | (cases h; done)
    | (simp only [Option.some.injEq] at h; omega)

/-- both loops over a tree -/
theorem tree_loop {l : List TPush} {cells w : Int} {body : Int × Int → Option ((Int × Int) ⊕ (Int ⊕ Bool))} (hl : l.length ≤ 9000000)
    (hs : ∀ (i : Nat) (d : Int), i < l.length → 0 ≤ d → d ≤ i → body (d, (i : Int)) = match stepF cells w (l.getD i default) d with | none => some (.inr (.inr false)) | some e => some (.inl (e, ((i + 1 : Nat) : Int))))
    (he : ∀ d, body (d, (l.length : Int)) = some (.inr (.inl d))) : ∀ (k i : Nat) (d : Int), i + k = l.length → 0 ≤ d → d ≤ i →
    loop body (d, (i : Int)) = some (match treeF cells w (l.drop i) d with | none => .inr false | some e => .inl e)
  | 0, i, d, hi, h1, h2 => by
    have : i = l.length := by omega
    subst this
    rw [List.drop_length]
    exact loop_done (he d)
  | k + 1, i, d, hi, h1, h2 => by
    have hlt : i < l.length := by omega
    have hb := hs i d hlt h1 h2
    have hd : l.drop i = l.getD i default :: l.drop (i + 1) := by
      rw [List.drop_eq_getElem_cons hlt]
      simp [List.getD, hlt]
    rw [hd]
    simp only [treeF]
    cases hf : stepF cells w (l.getD i default) d with
    | none =>
      rw [hf] at hb
      exact loop_done hb
    | some e =>
      rw [hf] at hb
      obtain ⟨g1, g2⟩ := stepF_le hf h1
      rw [loop_next hb]
      exact tree_loop hl hs he k (i + 1) e (by omega) g1 (by omega)

def treeB (cells w : Int) (l : List TPush) : Bool := match treeF cells w l 0 with | none => false | some e => decide (e = 1 ∧ (l.length : Int) ≤ 24)

theorem lbody (m : TLoops) (l : List TPush) (w : Int) (h1 : 1 ≤ m.cells) (h2 : m.cells ≤ 6000) (hl : l.length ≤ 9000000) (i : Nat) (d : Int) (hi : i < l.length) (d1 : 0 ≤ d) (d2 : d ≤ i) :
    loop_tree_l1 m l w d i = match stepF m.cells w (l.getD i default) d with | none => some (.inr (.inr false)) | some e => some (.inl (e, ((i + 1 : Nat) : Int))) := by
  unfold loop_tree_l1
  rw [if_pos (ltI hi), if_pos (inI hi), Int.toNat_natCast, wrs i (by omega)]
  generalize l.getD i default = s
  unfold loop_step loop_step_j1 stepF
  obtain ⟨a, b, hop⟩ := lop_eq s.k
  have ht : takesL s.k = 0 ∨ takesL s.k = 1 ∨ takesL s.k = 2 := by
    unfold takesL
    split
    · exact .inr (.inr rfl)
    · split
      · exact .inr (.inl rfl)
      · exact .inl rfl
  have w0 : IntKind.wrap .i64 (1 - 0) = 1 := wr (by omega) (by omega)
  have w1 : IntKind.wrap .i64 (1 - 1) = 0 := wr (by omega) (by omega)
  have w2 : IntKind.wrap .i64 (1 - 2) = -1 := wr (by omega) (by omega)
  have w3 : IntKind.wrap .i64 (1 - 3) = -2 := wr (by omega) (by omega)
  by_cases o1 : s.op = 1
  · simp only [if_pos o1, Option.bind_some, if_true]
    rw [if_neg (by omega), w0, wr (by omega) (by omega)]
  by_cases o2 : s.op = 2
  · simp only [if_neg o1, if_pos o2, inside_eq m _ _ h1 h2, Option.bind_some]
    cases insideB m.cells s.v 1
    · rfl
    · simp only [if_true]; rw [if_neg (by omega), w0, wr (by omega) (by omega)]
  by_cases o3 : s.op = 3
  · simp only [if_neg o1, if_neg o2, if_pos o3, inside_eq m _ _ h1 h2, Option.bind_some]
    cases insideB m.cells s.v w
    · rfl
    · simp only [if_true]; rw [if_neg (by omega), w0, wr (by omega) (by omega)]
  by_cases o4 : s.op = 4
  · simp only [if_neg o1, if_neg o2, if_neg o3, if_pos o4]
    by_cases c1 : s.n ≥ (-1000000000000000000)
    · rw [if_pos c1]
      simp only [Option.bind_some]
      by_cases c2 : s.n ≤ 1000000000000000000
      · rw [if_pos (decide_eq_true c2), if_pos (And.intro c1 c2), if_neg (by omega), w0, wr (by omega) (by omega)]
      · rw [if_neg (by simpa using c2), if_neg (fun h => c2 h.2)]
    · rw [if_neg c1, if_neg (fun h => c1 h.1)]; rfl
  by_cases o5 : s.op = 5
  · have e : (s.op == 5) = true := by rw [o5]; rfl
    simp only [if_neg o1, if_neg o2, if_neg o3, if_neg o4, if_pos o5, e, if_true, hop, Option.bind_some]
    rw [o5, wr (n := (5 : Int) - 5) (by omega) (by omega), wr (n := (5 : Int) - 5 + 1) (by omega) (by omega)]
    rcases ht with t | t | t <;> rw [t]
    · rfl
    · by_cases c : d < 1
      · rw [if_pos (show ((1 : Int) == 5 - 5 + 1) = true from rfl), if_pos c, if_neg (fun h : (1 : Int) = 1 ∧ ¬ d < 1 => h.2 c)]
      · rw [if_pos (show ((1 : Int) == 5 - 5 + 1) = true from rfl), if_neg c, if_pos (show (1 : Int) = 1 ∧ ¬ d < 1 from ⟨rfl, c⟩), w1, Int.add_zero, wr (by omega) (by omega)]
    · rfl
  by_cases o6 : s.op = 6
  · have e : (s.op == 6) = true := by rw [o6]; rfl
    simp only [if_neg o1, if_neg o2, if_neg o3, if_neg o4, if_neg o5, if_pos o6, e, if_true, hop, Option.bind_some]
    rw [o6, wr (n := (6 : Int) - 5) (by omega) (by omega), wr (n := (6 : Int) - 5 + 1) (by omega) (by omega)]
    rcases ht with t | t | t <;> rw [t]
    · rfl
    · rfl
    · by_cases c : d < 2
      · rw [if_pos (show ((2 : Int) == 6 - 5 + 1) = true from rfl), if_pos c, if_neg (fun h : (2 : Int) = 2 ∧ ¬ d < 2 => h.2 c)]
      · rw [if_pos (show ((2 : Int) == 6 - 5 + 1) = true from rfl), if_neg c, if_pos (show (2 : Int) = 2 ∧ ¬ d < 2 from ⟨rfl, c⟩), w2, show d + -1 = d - 1 by omega, wr (by omega) (by omega)]
  have e : (s.op == 6) = false := by simp [o6]
  simp only [if_neg o1, if_neg o2, if_neg o3, if_neg o4, if_neg o5, if_neg o6, e]
  rw [if_neg (by simp)]
  by_cases o7 : s.op = 7
  · simp only [if_pos o7, Option.bind_some, if_true]
    by_cases c : d < 3
    · rw [if_pos c, if_pos c]
    · rw [if_neg c, if_neg c, w3, show d + -2 = d - 2 by omega, wr (by omega) (by omega)]
  by_cases o8 : s.op = 8
  · simp only [if_neg o7, if_pos o8, inside_eq m _ _ h1 h2, Option.bind_some]
    cases insideB m.cells s.v s.n
    · simp
    · by_cases c : d < 2
      · simp only [if_true]; rw [if_pos c, if_neg (fun h => h.2 c)]
      · simp only [if_true]; rw [if_neg c, if_pos ⟨trivial, c⟩, w2, show d + -1 = d - 1 by omega, wr (by omega) (by omega)]
  · simp only [if_neg o7, if_neg o8, Option.bind_some]
    rfl

theorem rbody (m : TLoops) (l : List TPush) (w : Int) (h1 : 1 ≤ m.cells) (h2 : m.cells ≤ 6000) (hl : l.length ≤ 9000000) (i : Nat) (d : Int) (hi : i < l.length) (d1 : 0 ≤ d) (d2 : d ≤ i) :
    ref_plainTree_l1 m l w d i = match stepF m.cells w (l.getD i default) d with | none => some (.inr (.inr false)) | some e => some (.inl (e, ((i + 1 : Nat) : Int))) := by
  unfold ref_plainTree_l1
  rw [if_pos (ltI hi), if_pos (inI hi), Int.toNat_natCast, wrs i (by omega)]
  generalize l.getD i default = s
  obtain ⟨a, b, hop⟩ := lopOf_eq s.k
  rw [hop, wr (n := d + 1) (by omega) (by omega), wr (n := d - 1) (by omega) (by omega), wr (n := d - 2) (by omega) (by omega)]
  simp only [Option.bind_some, there_eq m _ _ h1 h2]
  unfold stepF
  by_cases o1 : s.op = 1
  · simp only [if_pos o1]
  by_cases o2 : s.op = 2
  · simp only [if_neg o1, if_pos o2]
    cases insideB m.cells s.v 1 <;> rfl
  by_cases o3 : s.op = 3
  · simp only [if_neg o1, if_neg o2, if_pos o3]
    cases insideB m.cells s.v w <;> rfl
  by_cases o4 : s.op = 4
  · simp only [if_neg o1, if_neg o2, if_neg o3, if_pos o4]
    by_cases c1 : s.n < (-1000000000000000000)
    · rw [if_pos c1, if_neg (by omega)]
    · rw [if_neg c1]
      by_cases c2 : s.n > 1000000000000000000
      · rw [if_pos c2, if_neg (by omega)]
      · rw [if_neg c2, if_pos (by omega)]
  by_cases o5 : s.op = 5
  · simp only [if_neg o1, if_neg o2, if_neg o3, if_neg o4, if_pos o5]
    by_cases c1 : takesL s.k = 1
    · by_cases c : d < 1
      · rw [if_neg (fun h => h c1), if_pos c, if_neg (fun h => h.2 c)]
      · rw [if_neg (fun h => h c1), if_neg c, if_pos ⟨c1, c⟩]
    · rw [if_pos c1, if_neg (fun h => c1 h.1)]
  by_cases o6 : s.op = 6
  · simp only [if_neg o1, if_neg o2, if_neg o3, if_neg o4, if_neg o5, if_pos o6]
    by_cases c1 : takesL s.k = 2
    · by_cases c : d < 2
      · rw [if_neg (fun h => h c1), if_pos c, if_neg (fun h => h.2 c)]
      · rw [if_neg (fun h => h c1), if_neg c, if_pos ⟨c1, c⟩]
    · rw [if_pos c1, if_neg (fun h => c1 h.1)]
  by_cases o7 : s.op = 7
  · simp only [if_neg o1, if_neg o2, if_neg o3, if_neg o4, if_neg o5, if_neg o6, if_pos o7]
    by_cases c : d < 3
    · rw [if_pos c, if_pos c]
    · rw [if_neg c, if_neg c]
  by_cases o8 : s.op = 8
  · simp only [if_neg o1, if_neg o2, if_neg o3, if_neg o4, if_neg o5, if_neg o6, if_neg o7, if_pos o8]
    cases insideB m.cells s.v s.n
    · simp
    · by_cases c : d < 2
      · rw [if_pos rfl, if_pos c, if_neg (fun h => h.2 c)]
      · rw [if_pos rfl, if_neg c, if_pos ⟨rfl, c⟩]
  · simp only [if_neg o1, if_neg o2, if_neg o3, if_neg o4, if_neg o5, if_neg o6, if_neg o7, if_neg o8]

theorem tree_eq (m : TLoops) (l : List TPush) (w : Int) (h1 : 1 ≤ m.cells) (h2 : m.cells ≤ 6000) (hl : l.length ≤ 9000000) : loop_tree m l w = some (treeB m.cells w l) := by
  have h := tree_loop (body := fun (x6, x7) => loop_tree_l1 m l w x6 x7) (cells := m.cells) (w := w) hl (fun i d hi d1 d2 => lbody m l w h1 h2 hl i d hi d1 d2) (fun d => by show loop_tree_l1 _ _ _ _ _ = _; unfold loop_tree_l1; rw [if_neg (not_ltI _)]) l.length 0 0 (by omega) (by omega) (by omega)
  simp only [List.drop_zero, Int.natCast_zero] at h
  unfold loop_tree treeB
  rw [h]
  cases treeF m.cells w l 0 with
  | none => rfl
  | some e =>
    simp only [Option.bind_some, Sum.elim_inl]
    unfold loop_tree_j1
    by_cases c : e = 1
    · rw [if_pos c]; simp [c]
    · rw [if_neg c]; simp [c]
theorem plain_eq (m : TLoops) (l : List TPush) (w : Int) (h1 : 1 ≤ m.cells) (h2 : m.cells ≤ 6000) (hl : l.length ≤ 9000000) : ref_plainTree m l w = some (treeB m.cells w l) := by
  have h := tree_loop (body := fun (x6, x7) => ref_plainTree_l1 m l w x6 x7) (cells := m.cells) (w := w) hl (fun i d hi d1 d2 => rbody m l w h1 h2 hl i d hi d1 d2) (fun d => by show ref_plainTree_l1 _ _ _ _ _ = _; unfold ref_plainTree_l1; rw [if_neg (not_ltI _)]) l.length 0 0 (by omega) (by omega) (by omega)
  simp only [List.drop_zero, Int.natCast_zero] at h
  unfold ref_plainTree treeB
  rw [h]
  cases treeF m.cells w l 0 with
  | none => rfl
  | some e =>
    simp only [Option.bind_some, Sum.elim_inl]
    unfold ref_plainTree_j1
    by_cases c : e = 1
    · rw [if_pos c]; simp [c]
    · rw [if_neg c]; simp [c]

/-- a step of looping code is good -/
def stepOk (cells : Int) (x : TLoop) : Bool :=
  if x.op = 1 then insideB cells x.to 1 && treeB cells 1 x.e
  else if (x.op = 2 ∨ x.op = 3 ∨ x.op = 4) ∧ 1 ≤ x.n ∧ x.n ≤ 300 then
    treeB cells x.n x.e && insideB cells x.to (if x.op = 3 then 1 else x.n) && (decide (x.op = 2) || (decide (takesL x.k = 2) && treeB cells 1 x.f))
  else false

theorem fitsL_eq (m : TLoops) (x : TLoop) (h1 : 1 ≤ m.cells) (h2 : m.cells ≤ 6000) (he : x.e.length ≤ 9000000) (hf : x.f.length ≤ 9000000) : loop_fits m x = some (stepOk m.cells x) := by
  unfold loop_fits loop_fits_j1 loop_fits_j2 stepOk
  obtain ⟨a, b, hop⟩ := lop_eq x.k
  rw [hop]
  simp only [Option.bind_some, inside_eq m _ _ h1 h2, tree_eq m _ _ h1 h2 he, tree_eq m _ _ h1 h2 hf]
  by_cases o1 : x.op = 1
  · rw [if_pos o1, if_pos o1]
    cases insideB m.cells x.to 1 <;> rfl
  rw [if_neg o1, if_neg o1]
  have fin : ∀ (w : Int), (x.op = 2 ∨ x.op = 3 ∨ x.op = 4) → w = (if x.op = 3 then 1 else x.n) →
      (if x.n ≥ 1 then if x.n ≤ 300 then if insideB m.cells x.to w = true then if treeB m.cells x.n x.e = true then if x.op = 2 then some true else if takesL x.k = 2 then some (treeB m.cells 1 x.f) else some false else some false else some false else some false else some false) =
      some (if (x.op = 2 ∨ x.op = 3 ∨ x.op = 4) ∧ 1 ≤ x.n ∧ x.n ≤ 300 then treeB m.cells x.n x.e && insideB m.cells x.to (if x.op = 3 then 1 else x.n) && (decide (x.op = 2) || (decide (takesL x.k = 2) && treeB m.cells 1 x.f)) else false) := by
    intro w ho hw
    rw [← hw]
    by_cases n1 : x.n ≥ 1
    · by_cases n2 : x.n ≤ 300
      · rw [if_pos n1, if_pos n2, if_pos (show (x.op = 2 ∨ x.op = 3 ∨ x.op = 4) ∧ 1 ≤ x.n ∧ x.n ≤ 300 from ⟨ho, n1, n2⟩)]
        cases insideB m.cells x.to w
        · simp
        · cases treeB m.cells x.n x.e
          · simp
          · by_cases o2 : x.op = 2
            · simp [o2]
            · by_cases t : takesL x.k = 2
              · simp [o2, t]
              · simp [o2, t]
      · rw [if_pos n1, if_neg n2, if_neg (fun h => n2 h.2.2)]
    · rw [if_neg n1, if_neg (fun h => n1 h.2.1)]
  by_cases o2 : x.op = 2
  · have e : (x.op == 2) = true := by rw [o2]; rfl
    rw [if_pos o2, if_pos e, if_neg (by omega : ¬ x.op = 3)]
    exact fin x.n (.inl o2) (by rw [if_neg (by omega)])
  rw [if_neg o2]
  by_cases o4 : x.op = 4
  · have e : (x.op == 4) = true := by rw [o4]; rfl
    rw [if_pos o4, if_pos e, if_neg (by omega : ¬ x.op = 3)]
    exact fin x.n (.inr (.inr o4)) (by rw [if_neg (by omega)])
  rw [if_neg o4]
  by_cases o3 : x.op = 3
  · have e : (x.op == 3) = true := by rw [o3]; rfl
    rw [if_pos e, if_pos o3]
    exact fin 1 (.inr (.inl o3)) (by rw [if_pos o3])
  · rw [if_neg (by simp [o3]), if_neg (by omega)]

theorem loopOK_eq (m : TLoops) (x : TLoop) (h1 : 1 ≤ m.cells) (h2 : m.cells ≤ 6000) (he : x.e.length ≤ 9000000) (hf : x.f.length ≤ 9000000) : ref_loopOK m x = some (stepOk m.cells x) := by
  unfold ref_loopOK ref_loopOK_j1 stepOk
  obtain ⟨a, b, hop⟩ := lopOf_eq x.k
  rw [hop]
  simp only [Option.bind_some, there_eq m _ _ h1 h2, plain_eq m _ _ h1 h2 he, plain_eq m _ _ h1 h2 hf]
  by_cases o1 : x.op = 1
  · rw [if_pos o1, if_pos o1]
    cases insideB m.cells x.to 1 <;> rfl
  rw [if_neg o1, if_neg o1]
  by_cases c1 : x.op < 1
  · rw [if_pos c1, if_neg (show ¬ ((x.op = 2 ∨ x.op = 3 ∨ x.op = 4) ∧ 1 ≤ x.n ∧ x.n ≤ 300) by omega)]
  rw [if_neg c1]
  by_cases c2 : x.op > 4
  · rw [if_pos c2, if_neg (show ¬ ((x.op = 2 ∨ x.op = 3 ∨ x.op = 4) ∧ 1 ≤ x.n ∧ x.n ≤ 300) by omega)]
  rw [if_neg c2]
  by_cases c3 : x.n < 1
  · rw [if_pos c3, if_neg (show ¬ ((x.op = 2 ∨ x.op = 3 ∨ x.op = 4) ∧ 1 ≤ x.n ∧ x.n ≤ 300) by omega)]
  rw [if_neg c3]
  by_cases c4 : x.n > 300
  · rw [if_pos c4, if_neg (show ¬ ((x.op = 2 ∨ x.op = 3 ∨ x.op = 4) ∧ 1 ≤ x.n ∧ x.n ≤ 300) by omega)]
  rw [if_neg c4, if_pos (show (x.op = 2 ∨ x.op = 3 ∨ x.op = 4) ∧ 1 ≤ x.n ∧ x.n ≤ 300 by omega)]
  cases treeB m.cells x.n x.e
  · simp
  · by_cases o3 : x.op = 3
    · rw [if_pos rfl, if_pos o3, if_pos o3]
      cases insideB m.cells x.to 1
      · simp
      · by_cases t : takesL x.k = 2
        · simp [o3, t]
        · simp [o3, t]
    · rw [if_pos rfl, if_neg o3, if_neg o3]
      cases insideB m.cells x.to x.n
      · simp
      · by_cases o2 : x.op = 2
        · simp [o2]
        · by_cases t : takesL x.k = 2
          · simp [o2, t]
          · simp [o2, t]
end Pam

/- Operators: the program and the document tell the same number. -/
namespace Pam
open Go

theorem wrap_ok (n : Int) : okI .i64 (IntKind.wrap .i64 n) := by
  show -9223372036854775808 ≤ IntKind.wrap .i64 n ∧ IntKind.wrap .i64 n ≤ 9223372036854775807
  rw [IntKind.wrap_i64]; omega
theorem wrap_add_mul (x t : Int) : IntKind.wrap .i64 (x + 18446744073709551616 * t) = IntKind.wrap .i64 x := by
  simp only [IntKind.wrap_i64]
  have : (x + 18446744073709551616 * t + 9223372036854775808) = (x + 9223372036854775808) + 18446744073709551616 * t := by omega
  rw [this, Int.add_mul_emod_self_left]
theorem wrap_is (x : Int) : ∃ t, IntKind.wrap .i64 x = x + 18446744073709551616 * t := by
  refine ⟨-((x + 9223372036854775808) / 18446744073709551616), ?_⟩
  rw [IntKind.wrap_i64]; omega
theorem wrap_id {n : Int} (h : okI .i64 n) : IntKind.wrap .i64 n = n := wr h.1 h.2

theorem apply_mod (a b : Int) (ha : okI .i64 a) (hb : b ≠ 0) : okI .i64 (a.tmod b) ∧ IntKind.wrap .i64 (a - IntKind.wrap .i64 (IntKind.wrap .i64 (a.tdiv b) * b)) = a.tmod b := by
  have ha' : -9223372036854775808 ≤ a ∧ a ≤ 9223372036854775807 := ha
  have h1 := Int.mul_tdiv_add_tmod a b
  have hr : okI .i64 (a.tmod b) := by
    show -9223372036854775808 ≤ a.tmod b ∧ a.tmod b ≤ 9223372036854775807
    rcases Int.le_total 0 a with h | h
    · have h2 := Int.tmod_nonneg b h
      have h3 : a.tmod b ≤ a := by
        rw [Int.tmod_eq_emod_of_nonneg h]
        have h4 := Int.mul_ediv_add_emod a b
        have h5 : 0 ≤ b * (a / b) := by
          rcases Int.le_total 0 b with hb0 | hb0
          · exact Int.mul_nonneg hb0 (Int.ediv_nonneg h hb0)
          · exact Int.mul_nonneg_of_nonpos_of_nonpos hb0 (Int.ediv_nonpos_of_nonneg_of_nonpos h hb0)
        omega
      omega
    · have h2 : 0 ≤ (-a).tmod b := Int.tmod_nonneg b (by omega)
      have h3 : (-a).tmod b ≤ -a := by
        rw [Int.tmod_eq_emod_of_nonneg (by omega)]
        have h4 := Int.mul_ediv_add_emod (-a) b
        have h5 : 0 ≤ b * (-a / b) := by
          rcases Int.le_total 0 b with hb0 | hb0
          · exact Int.mul_nonneg hb0 (Int.ediv_nonneg (by omega) hb0)
          · exact Int.mul_nonneg_of_nonpos_of_nonpos hb0 (Int.ediv_nonpos_of_nonneg_of_nonpos (by omega) hb0)
        omega
      rw [Int.neg_tmod] at h2 h3
      omega
  refine ⟨hr, ?_⟩
  obtain ⟨t, ht⟩ := wrap_is (a.tdiv b)
  rw [ht]
  have e1 : (a.tdiv b + 18446744073709551616 * t) * b = a.tdiv b * b + 18446744073709551616 * (t * b) := by rw [Int.add_mul, Int.mul_assoc]
  rw [e1, wrap_add_mul]
  obtain ⟨t2, ht2⟩ := wrap_is (a.tdiv b * b)
  rw [ht2]
  have e2 : a - (a.tdiv b * b + 18446744073709551616 * t2) = a.tmod b + 18446744073709551616 * (-t2) := by rw [Int.mul_comm (a.tdiv b) b]; omega
  rw [e2, wrap_add_mul, wrap_id hr]

/-- an operator of numbers -/
noncomputable def app (k a b : Int) : Int := (sys_Apply k a b).getD 0
theorem apply_eq (k a b : Int) (ha : okI .i64 a) (hb : okI .i64 b) : sys_Apply k a b = some (app k a b) ∧ ref_Apply k a b = some (app k a b) ∧ okI .i64 (app k a b) := by
  have h01 : ∀ c : Bool, (if c = true then some (1 : Int) else some 0) = some (if c = true then 1 else 0) := fun c => by cases c <;> rfl
  have ok01 : ∀ c : Bool, okI .i64 (if c = true then (1 : Int) else 0) := fun c => by cases c <;> exact ⟨by decide, by decide⟩
  have key : ∀ v, sys_Apply k a b = some v → ref_Apply k a b = some v → okI .i64 v → sys_Apply k a b = some (app k a b) ∧ ref_Apply k a b = some (app k a b) ∧ okI .i64 (app k a b) := fun v h1 h2 h3 => by
    have : app k a b = v := by unfold app; rw [h1]; rfl
    rw [this]; exact ⟨h1, h2, h3⟩
  by_cases c1 : k = 1
  · exact key _ (by unfold sys_Apply; rw [if_pos c1]) (by unfold ref_Apply; rw [if_pos c1]) (wrap_ok _)
  by_cases c2 : k = 2
  · exact key _ (by unfold sys_Apply; rw [if_neg c1, if_pos c2]) (by unfold ref_Apply; rw [if_neg c1, if_pos c2]) (wrap_ok _)
  by_cases c3 : k = 3
  · exact key _ (by unfold sys_Apply; rw [if_neg c1, if_neg c2, if_pos c3]) (by unfold ref_Apply; rw [if_neg c1, if_neg c2, if_pos c3]) (wrap_ok _)
  by_cases c4 : k = 4
  · subst c4
    by_cases z : b = 0
    · exact key 0 (by simp [sys_Apply, sys_Apply_j1, sys_divide, z]) (by simp [ref_Apply, z]) ⟨by decide, by decide⟩
    · by_cases z1 : b = -1
      · subst z1
        exact key (IntKind.wrap .i64 (0 - a)) (by simp [sys_Apply, sys_Apply_j1, sys_divide, Int.tdiv_neg, Int.tdiv_one]) (by simp [ref_Apply]) (wrap_ok _)
      · exact key (IntKind.wrap .i64 (a.tdiv b)) (by simp [sys_Apply, sys_Apply_j1, sys_divide, z]) (by simp [ref_Apply, z, z1]) (wrap_ok _)
  by_cases c5 : k = 5
  · subst c5
    by_cases z : b = 0
    · exact key 0 (by simp [sys_Apply, sys_Apply_j1, sys_divide, z]) (by simp [ref_Apply, z]) ⟨by decide, by decide⟩
    · by_cases z1 : b = -1
      · subst z1
        exact key 0 (by simp [sys_Apply, sys_Apply_j1, sys_divide, Int.tmod_neg, Int.tmod_one]) (by simp [ref_Apply]) ⟨by decide, by decide⟩
      · obtain ⟨m1, m2⟩ := apply_mod a b ha z
        exact key (a.tmod b) (by simp [sys_Apply, sys_Apply_j1, sys_divide, z]) (by simp only [ref_Apply]; rw [if_neg (by decide), if_neg (by decide), if_neg (by decide), if_neg (by decide), if_neg (by decide), if_pos trivial, if_neg z, if_neg z1, if_pos z, m2]) m1
  by_cases c6 : k = 6
  · subst c6
    exact key (if b < a then b else a) (by simp [sys_Apply, sys_Apply_j1]) (by simp only [ref_Apply]; simp; split <;> rfl) (by split <;> assumption)
  by_cases c7 : k = 7
  · subst c7
    exact key (if b > a then b else a) (by simp [sys_Apply, sys_Apply_j1]) (by simp only [ref_Apply]; simp; split <;> rfl) (by split <;> assumption)
  by_cases c8 : k = 8
  · subst c8
    by_cases z : a < b
    · exact key 1 (by simp [sys_Apply, sys_Apply_j1, sys_truth, z]) (by simp [ref_Apply, ref_Apply_j1, z]) ⟨by decide, by decide⟩
    · exact key 0 (by simp [sys_Apply, sys_Apply_j1, sys_truth, z]) (by simp [ref_Apply, ref_Apply_j1, z]) ⟨by decide, by decide⟩
  by_cases c9 : k = 9
  · subst c9
    by_cases z : a = b
    · exact key 1 (by simp [sys_Apply, sys_Apply_j1, sys_truth, z]) (by simp [ref_Apply, ref_Apply_j1, z]) ⟨by decide, by decide⟩
    · exact key 0 (by simp [sys_Apply, sys_Apply_j1, sys_truth, z]) (by simp [ref_Apply, ref_Apply_j1, z]) ⟨by decide, by decide⟩
  by_cases c10 : k = 10
  · subst c10
    by_cases z : a = 0
    · exact key 0 (by simp [sys_Apply, sys_Apply_j1, sys_truth, z]) (by simp [ref_Apply, ref_Apply_j1, z]) ⟨by decide, by decide⟩
    · by_cases z2 : b = 0
      · exact key 0 (by simp [sys_Apply, sys_Apply_j1, sys_truth, z, z2]) (by simp [ref_Apply, ref_Apply_j1, z, z2]) ⟨by decide, by decide⟩
      · exact key 1 (by simp [sys_Apply, sys_Apply_j1, sys_truth, z, z2]) (by simp [ref_Apply, ref_Apply_j1, z, z2]) ⟨by decide, by decide⟩
  by_cases c11 : k = 11
  · subst c11
    by_cases z : a = 0
    · by_cases z2 : b = 0
      · exact key 0 (by simp [sys_Apply, sys_Apply_j1, sys_truth, z, z2]) (by simp [ref_Apply, ref_Apply_j1, z, z2]) ⟨by decide, by decide⟩
      · exact key 1 (by simp [sys_Apply, sys_Apply_j1, sys_truth, z, z2]) (by simp [ref_Apply, ref_Apply_j1, z, z2]) ⟨by decide, by decide⟩
    · exact key 1 (by simp [sys_Apply, sys_Apply_j1, sys_truth, z]) (by simp [ref_Apply, ref_Apply_j1, z]) ⟨by decide, by decide⟩
  by_cases c12 : k = 12
  · subst c12
    by_cases z : a = 0 <;> by_cases z2 : b = 0
    · exact key 0 (by simp [sys_Apply, sys_Apply_j1, sys_truth, z, z2]) (by simp [ref_Apply, ref_Apply_j1, z, z2]) ⟨by decide, by decide⟩
    · exact key 1 (by simp [sys_Apply, sys_Apply_j1, sys_truth, z, z2]) (by simp [ref_Apply, ref_Apply_j1, z, z2]) ⟨by decide, by decide⟩
    · exact key 1 (by simp [sys_Apply, sys_Apply_j1, sys_truth, z, z2]) (by simp [ref_Apply, ref_Apply_j1, z, z2]) ⟨by decide, by decide⟩
    · have e1 : (a != 0) = true := by simp [z]
      have e2 : (b != 0) = true := by simp [z2]
      have e3 : (a == 0) = false := by simp [z]
      have e4 : (b == 0) = false := by simp [z2]
      exact key 0 (by simp [sys_Apply, sys_Apply_j1, sys_truth, e1, e2]) (by simp [ref_Apply, ref_Apply_j1, e3, e4]) ⟨by decide, by decide⟩
  by_cases c13 : k = 13
  · subst c13
    exact key (IntKind.wrap .i64 (0 - a)) (by simp [sys_Apply, sys_Apply_j1]) (by simp [ref_Apply]) (wrap_ok _)
  by_cases c14 : k = 14
  · subst c14
    by_cases z : a = 0
    · exact key 1 (by simp [sys_Apply, sys_Apply_j1, sys_truth, z]) (by simp [ref_Apply, ref_Apply_j1, z]) ⟨by decide, by decide⟩
    · exact key 0 (by simp [sys_Apply, sys_Apply_j1, sys_truth, z]) (by simp [ref_Apply, ref_Apply_j1, z]) ⟨by decide, by decide⟩
  exact key 0 (by simp [sys_Apply, sys_Apply_j1, c1, c2, c3, c4, c5, c6, c7, c8, c9, c10, c11, c12, c13, c14]) (by simp [ref_Apply, ref_Apply_j1, c1, c2, c3, c4, c5, c6, c7, c8, c9, c10, c11, c12, c13, c14]) ⟨by decide, by decide⟩


theorem okI_zero : okI .i64 0 := ⟨by decide, by decide⟩
theorem ok_getD {l : List Int} (h : ∀ y ∈ l, okI .i64 y) (i : Nat) : okI .i64 (l.getD i default) := by
  by_cases hi : i < l.length
  · exact h _ (getD_mem hi)
  · have : l.getD i default = 0 := by simp [List.getD, List.getElem?_eq_none (Nat.le_of_not_lt hi)]
    rw [this]; exact okI_zero
theorem ok_set {l : List Int} {i : Nat} {v : Int} (h : ∀ y ∈ l, okI .i64 y) (hv : okI .i64 v) : ∀ y ∈ l.set i v, okI .i64 y := fun y hy => by
  rcases List.mem_or_eq_of_mem_set hy with h' | rfl
  · exact h y h'
  · exact hv
end Pam

/- A tree of looping code: the machine with a stack and the document's part, from behind, come to the same number. -/
namespace Pam
open Go

theorem roomC {n b : Nat} (h : n ≤ 200000) (hb : b ≤ 1000) : room n b := by
  have h1 : n * b ≤ 200000 * 1000 := Nat.mul_le_mul h hb
  exact ⟨by omega, by simp only [maxLen]; omega⟩

/-- one step on the stack (its top first) -/
noncomputable def pushV (c : List Int) (k : Int) (s : TPush) (st : List Int) : List Int :=
  if s.op = 1 then s.n :: st
  else if s.op = 2 then c.getD s.v.toNat default :: st
  else if s.op = 3 then c.getD (s.v + k).toNat default :: st
  else if s.op = 4 then IntKind.wrap .i64 (k + s.n) :: st
  else if s.op = 5 then app s.k (st.getD 0 default) 0 :: st.drop 1
  else if s.op = 6 then app s.k (st.getD 1 default) (st.getD 0 default) :: st.drop 2
  else if s.op = 7 then (if st.getD 2 default ≠ 0 then st.getD 1 default else st.getD 0 default) :: st.drop 3
  else (if 0 ≤ st.getD 1 default ∧ st.getD 1 default < s.n then c.getD (s.v + st.getD 1 default).toNat default else st.getD 0 default) :: st.drop 2
noncomputable def runV (c : List Int) (k : Int) : List TPush → List Int → List Int
  | [], st => st
  | s :: r, st => runV c k r (pushV c k s st)

theorem insideB_iff {cells a n : Int} : insideB cells a n = true ↔ 0 ≤ a ∧ 1 ≤ n ∧ a + n ≤ cells := by unfold insideB; rw [decide_eq_true_eq]

structure CGood (cells : Int) (c : List Int) : Prop where
  len : (c.length : Int) = cells
  ok : ∀ y ∈ c, okI .i64 y

theorem pushV_ok {cells w k : Int} {c : List Int} {s : TPush} {st : List Int} {e : Int} (g : CGood cells c) (hs : TPush.ok s) (h : stepF cells w s st.length = some e) (hst : ∀ y ∈ st, okI .i64 y) :
    ((pushV c k s st).length : Int) = e ∧ ∀ y ∈ pushV c k s st, okI .i64 y := by
  unfold stepF at h
  unfold pushV
  have hd : ∀ n, ∀ y ∈ st.drop n, okI .i64 y := fun n y hy => hst y (List.mem_of_mem_drop hy)
  have cons : ∀ {v : Int} {r : List Int}, okI .i64 v → (∀ y ∈ r, okI .i64 y) → ∀ y ∈ v :: r, okI .i64 y := fun hv hr y hy => by
    rcases List.mem_cons.1 hy with rfl | hy
    · exact hv
    · exact hr y hy
  by_cases o1 : s.op = 1
  · rw [if_pos o1] at h ⊢; simp only [Option.some.injEq] at h
    exact ⟨by simp; omega, cons hs.2.2.2 hst⟩
  rw [if_neg o1] at h ⊢
  by_cases o2 : s.op = 2
  · rw [if_pos o2] at h ⊢; split at h
    · simp only [Option.some.injEq] at h; exact ⟨by simp; omega, cons (ok_getD g.ok _) hst⟩
    · cases h
  rw [if_neg o2] at h ⊢
  by_cases o3 : s.op = 3
  · rw [if_pos o3] at h ⊢; split at h
    · simp only [Option.some.injEq] at h; exact ⟨by simp; omega, cons (ok_getD g.ok _) hst⟩
    · cases h
  rw [if_neg o3] at h ⊢
  by_cases o4 : s.op = 4
  · rw [if_pos o4] at h ⊢; split at h
    · simp only [Option.some.injEq] at h; exact ⟨by simp; omega, cons (wrap_ok _) hst⟩
    · cases h
  rw [if_neg o4] at h ⊢
  by_cases o5 : s.op = 5
  · rw [if_pos o5] at h ⊢; split at h
    · rename_i hh
      simp only [Option.some.injEq] at h
      exact ⟨by simp; omega, cons (apply_eq _ _ _ (ok_getD hst 0) okI_zero).2.2 (hd 1)⟩
    · cases h
  rw [if_neg o5] at h ⊢
  by_cases o6 : s.op = 6
  · rw [if_pos o6] at h ⊢; split at h
    · rename_i hh
      simp only [Option.some.injEq] at h
      exact ⟨by simp; omega, cons (apply_eq _ _ _ (ok_getD hst 1) (ok_getD hst 0)).2.2 (hd 2)⟩
    · cases h
  rw [if_neg o6] at h ⊢
  by_cases o7 : s.op = 7
  · rw [if_pos o7] at h ⊢; split at h
    · cases h
    · simp only [Option.some.injEq] at h
      refine ⟨by simp; omega, cons ?_ (hd 3)⟩
      split
      · exact ok_getD hst 1
      · exact ok_getD hst 0
  rw [if_neg o7] at h ⊢
  by_cases o8 : s.op = 8
  · rw [if_pos o8] at h; split at h
    · rename_i hh
      simp only [Option.some.injEq] at h
      refine ⟨by simp; omega, cons ?_ (hd 2)⟩
      split
      · exact ok_getD g.ok _
      · exact ok_getD hst 0
    · cases h
  · rw [if_neg o8] at h; cases h

theorem getD_rev (r p : List Int) (j : Nat) : (r.reverse ++ p).getD (r.length + j) default = p.getD j default := by
  simp [List.getD, List.getElem?_append_right]
theorem take_rev (r p : List Int) : (r.reverse ++ p).take r.length = r.reverse := by
  rw [List.take_append_of_le_length (by simp), List.take_of_length_le (by simp)]

theorem mbody {cells w k : Int} {c : List Int} {l : List TPush} {i : Nat} {st : List Int} {e : Int} (g : CGood cells c) (hc : cells ≤ 6000) (hl : l.length ≤ 9000) (hi : i < l.length) (hst : st.length ≤ i) (hk : 0 ≤ k ∧ k < w) (hw : w ≤ 300) (hso : ∀ y ∈ st, okI .i64 y) (hlo : ∀ s ∈ l, TPush.ok s)
    (h : stepF cells w (l.getD i default) st.length = some e) :
    loop_Machine_tree_l1 l k c st.reverse i = some (.inl ((pushV c k (l.getD i default) st).reverse, ((i + 1 : Nat) : Int))) := by
  have gl := g.len
  unfold loop_Machine_tree_l1
  rw [if_pos (ltI hi), if_pos (inI hi), Int.toNat_natCast, wrs i (by omega)]
  have hs := hlo _ (getD_mem hi)
  generalize l.getD i default = s at h hs
  unfold stepF at h
  have hr1 : room (st.reverse.length + 1) 8 := by rw [List.length_reverse]; exact roomC (by omega) (by omega)
  by_cases o1 : s.op = 1
  · rw [if_pos o1, if_pos hr1]; simp [pushV, o1, lit]
  rw [if_neg o1] at h ⊢
  by_cases o2 : s.op = 2
  · rw [if_pos o2] at h ⊢
    split at h
    · rename_i hin
      rw [insideB_iff] at hin
      rw [if_pos ⟨by omega, hr1⟩]; simp [pushV, o2, lit]
    · cases h
  rw [if_neg o2] at h ⊢
  by_cases o3 : s.op = 3
  · rw [if_pos o3] at h ⊢
    split at h
    · rename_i hin
      rw [insideB_iff] at hin
      rw [wr (n := s.v + k) (by omega) (by omega), if_pos ⟨by omega, hr1⟩]; simp [pushV, o3, lit]
    · cases h
  rw [if_neg o3] at h ⊢
  by_cases o4 : s.op = 4
  · rw [if_pos o4] at h ⊢
    rw [if_pos hr1]; simp [pushV, o4, lit]
  rw [if_neg o4] at h ⊢
  by_cases o5 : s.op = 5
  · rw [if_pos o5] at h ⊢
    split at h
    · rename_i hh
      obtain ⟨a, r, rfl⟩ : ∃ a r, st = a :: r := by
        cases st with
        | nil => simp at hh
        | cons a r => exact ⟨a, r, rfl⟩
      have hlen : ((a :: r).reverse.length : Int) = r.length + 1 := by simp
      have hsub : IntKind.wrap .i64 (((a :: r).reverse.length : Int) - 1) = r.length := by rw [hlen, wr (by simp at hst; omega) (by simp at hst; omega)]; omega
      rw [hsub, if_pos (by rw [hlen]; omega), Int.toNat_natCast]
      have e1 : (a :: r).reverse.getD r.length default = a := by have := getD_rev r [a] 0; simpa using this
      rw [e1, (apply_eq s.k a 0 (hso a (by simp)) okI_zero).1]
      simp only [Option.bind_some]
      have e2 : (a :: r).reverse.set r.length (app s.k a 0) = (app s.k a 0 :: r).reverse := by
        rw [List.reverse_cons, List.reverse_cons, List.set_append_right _ _ (by simp)]; simp
      rw [e2]; simp [pushV, o5]
    · cases h
  rw [if_neg o5] at h ⊢
  by_cases o6 : s.op = 6
  · rw [if_pos o6] at h ⊢
    split at h
    · rename_i hh
      obtain ⟨a, b, r, rfl⟩ : ∃ a b r, st = a :: b :: r := by
        match st, hh with
        | [], hh => simp at hh
        | [a], hh => simp at hh
        | a :: b :: r, _ => exact ⟨a, b, r, rfl⟩
      have hrv : (a :: b :: r).reverse = r.reverse ++ [b, a] := by simp
      have hlen : ((r.reverse ++ [b, a]).length : Int) = r.length + 2 := by simp
      have hs2 : IntKind.wrap .i64 (((r.reverse ++ [b, a]).length : Int) - 2) = r.length := by rw [hlen, wr (by simp at hst; omega) (by simp at hst; omega)]; omega
      have hs1 : IntKind.wrap .i64 (((r.reverse ++ [b, a]).length : Int) - 1) = ((r.length + 1 : Nat) : Int) := by rw [hlen, wr (by simp at hst; omega) (by simp at hst; omega)]; omega
      rw [hrv, hs2, hs1, if_pos (by rw [hlen]; omega), Int.toNat_natCast, Int.toNat_natCast]
      have e1 : (r.reverse ++ [b, a]).getD r.length default = b := getD_rev r [b, a] 0
      have e2 : (r.reverse ++ [b, a]).getD (r.length + 1) default = a := getD_rev r [b, a] 1
      rw [e1, e2, (apply_eq s.k b a (hso b (by simp)) (hso a (by simp))).1]
      simp only [Option.bind_some]
      rw [if_pos (roomC (by simp at hst; omega) (by omega)), take_rev]
      simp [pushV, o6, lit]
    · cases h
  rw [if_neg o6] at h ⊢
  by_cases o7 : s.op = 7
  · rw [if_pos o7] at h ⊢
    split at h
    · cases h
    · rename_i hh
      obtain ⟨a, b, d, r, rfl⟩ : ∃ a b d r, st = a :: b :: d :: r := by
        match st, hh with
        | [], hh => simp at hh
        | [a], hh => simp at hh
        | [a, b], hh => simp at hh
        | a :: b :: d :: r, _ => exact ⟨a, b, d, r, rfl⟩
      have hrv : (a :: b :: d :: r).reverse = r.reverse ++ [d, b, a] := by simp
      have hlen : ((r.reverse ++ [d, b, a]).length : Int) = r.length + 3 := by simp
      have hs3 : IntKind.wrap .i64 (((r.reverse ++ [d, b, a]).length : Int) - 3) = r.length := by rw [hlen, wr (by simp at hst; omega) (by simp at hst; omega)]; omega
      have hs2 : IntKind.wrap .i64 (((r.reverse ++ [d, b, a]).length : Int) - 2) = ((r.length + 1 : Nat) : Int) := by rw [hlen, wr (by simp at hst; omega) (by simp at hst; omega)]; omega
      have hs1 : IntKind.wrap .i64 (((r.reverse ++ [d, b, a]).length : Int) - 1) = ((r.length + 2 : Nat) : Int) := by rw [hlen, wr (by simp at hst; omega) (by simp at hst; omega)]; omega
      unfold loop_Machine_tree_j2
      rw [hrv, hs3, hs2, hs1, if_pos (by rw [hlen]; omega), if_pos (by rw [hlen]; omega)]
      simp only [Int.toNat_natCast]
      have e1 : (r.reverse ++ [d, b, a]).getD r.length default = d := getD_rev r [d, b, a] 0
      have e2 : (r.reverse ++ [d, b, a]).getD (r.length + 1) default = b := getD_rev r [d, b, a] 1
      have e3 : (r.reverse ++ [d, b, a]).getD (r.length + 2) default = a := getD_rev r [d, b, a] 2
      have hx : (0 ≤ (r.length : Int) ∧ (r.length : Int) ≤ ((r.reverse ++ [d, b, a]).length : Int)) ∧ room (r.length + 1) 8 := ⟨by rw [hlen]; omega, roomC (by simp at hst; omega) (by omega)⟩
      have hy : 0 ≤ ((r.length + 1 : Nat) : Int) ∧ ((r.length + 1 : Nat) : Int) < ((r.reverse ++ [d, b, a]).length : Int) := by rw [hlen]; omega
      rw [e1, e2, e3, if_pos hx, if_pos hx, if_pos hy, take_rev, wrs i (by omega)]
      by_cases z : d = 0
      · simp [pushV, o7, lit, z]
      · simp [pushV, o7, lit, z]
  rw [if_neg o7] at h ⊢
  by_cases o8 : s.op = 8
  · rw [if_pos o8] at h ⊢
    split at h
    · rename_i hh
      obtain ⟨hin, hh⟩ := hh
      rw [insideB_iff] at hin
      obtain ⟨a, b, r, rfl⟩ : ∃ a b r, st = a :: b :: r := by
        match st, hh with
        | [], hh => simp at hh
        | [a], hh => simp at hh
        | a :: b :: r, _ => exact ⟨a, b, r, rfl⟩
      have hrv : (a :: b :: r).reverse = r.reverse ++ [b, a] := by simp
      have hlen : ((r.reverse ++ [b, a]).length : Int) = r.length + 2 := by simp
      have hs2 : IntKind.wrap .i64 (((r.reverse ++ [b, a]).length : Int) - 2) = r.length := by rw [hlen, wr (by simp at hst; omega) (by simp at hst; omega)]; omega
      have hs1 : IntKind.wrap .i64 (((r.reverse ++ [b, a]).length : Int) - 1) = ((r.length + 1 : Nat) : Int) := by rw [hlen, wr (by simp at hst; omega) (by simp at hst; omega)]; omega
      unfold loop_Machine_tree_j3
      rw [hrv, hs2, hs1, if_pos (by rw [hlen]; omega), if_pos (by rw [hlen]; omega), Int.toNat_natCast, Int.toNat_natCast]
      have e1 : (r.reverse ++ [b, a]).getD r.length default = b := getD_rev r [b, a] 0
      have e2 : (r.reverse ++ [b, a]).getD (r.length + 1) default = a := getD_rev r [b, a] 1
      have hx : (0 ≤ (r.length : Int) ∧ (r.length : Int) ≤ ((r.reverse ++ [b, a]).length : Int)) ∧ room (r.length + 1) 8 := ⟨by rw [hlen]; omega, roomC (by simp at hst; omega) (by omega)⟩
      rw [e1, e2]
      simp only [if_pos hx]
      rw [take_rev, wrs i (by omega)]
      by_cases z1 : b ≥ 0
      · by_cases z2 : b < s.n
        · rw [if_pos z1, if_pos z2, wr (n := s.v + b) (by omega) (by omega), if_pos (by omega)]
          simp [pushV, o8, lit, z1, z2]
        · rw [if_pos z1, if_neg z2]
          simp [pushV, o8, lit, z2]
      · rw [if_neg z1]
        have : ¬ 0 ≤ b := z1
        simp [pushV, o8, lit, this]
    · cases h
  · rw [if_neg o8] at h; cases h

/-- the stack behind the first i steps -/
noncomputable def stk (c : List Int) (k : Int) (l : List TPush) (i : Nat) : List Int := runV c k (l.take i) []
theorem runV_append (c : List Int) (k : Int) : ∀ (l m : List TPush) (st : List Int), runV c k (l ++ m) st = runV c k m (runV c k l st)
  | [], m, st => rfl
  | s :: l, m, st => by simp only [List.cons_append, runV]; exact runV_append c k l m _
theorem stk_succ (c : List Int) (k : Int) (l : List TPush) (i : Nat) (hi : i < l.length) : stk c k l (i + 1) = pushV c k (l.getD i default) (stk c k l i) := by
  unfold stk
  have : l.take (i + 1) = l.take i ++ [l.getD i default] := by
    rw [List.take_succ, List.getElem?_eq_getElem hi]
    simp [List.getD, hi]
  rw [this, runV_append]
  rfl
theorem stk_zero (c : List Int) (k : Int) (l : List TPush) : stk c k l 0 = [] := rfl

theorem stk_inv {cells w k : Int} {c : List Int} {l : List TPush} {e : Int} (g : CGood cells c) (hlo : ∀ s ∈ l, TPush.ok s) (h : treeF cells w l 0 = some e) : ∀ i, i ≤ l.length → (∀ y ∈ stk c k l i, okI .i64 y) ∧ (stk c k l i).length ≤ i ∧ treeF cells w (l.drop i) (stk c k l i).length = some e := by
  intro i
  induction i with
  | zero => intro _; rw [stk_zero]; exact ⟨fun y hy => by simp at hy, Nat.le_refl _, by simpa using h⟩
  | succ i ih =>
    intro hi
    obtain ⟨h1, h2, h3⟩ := ih (by omega)
    have hlt : i < l.length := by omega
    have hd : l.drop i = l.getD i default :: l.drop (i + 1) := by
      rw [List.drop_eq_getElem_cons hlt]
      simp [List.getD, hlt]
    rw [hd] at h3
    simp only [treeF] at h3
    cases hf : stepF cells w (l.getD i default) (stk c k l i).length with
    | none => rw [hf] at h3; cases h3
    | some e' =>
      rw [hf] at h3
      obtain ⟨q1, q2⟩ := pushV_ok (k := k) g (hlo _ (getD_mem hlt)) hf h1
      have q3 := stepF_le hf (by omega)
      rw [stk_succ c k l i hlt]
      refine ⟨q2, by omega, ?_⟩
      rw [q1]; exact h3
theorem stk_step {cells w k : Int} {c : List Int} {l : List TPush} {e : Int} (g : CGood cells c) (hlo : ∀ s ∈ l, TPush.ok s) (h : treeF cells w l 0 = some e) {i : Nat} (hi : i < l.length) : ∃ e', stepF cells w (l.getD i default) (stk c k l i).length = some e' := by
  obtain ⟨_, _, h3⟩ := stk_inv (k := k) g hlo h i (by omega)
  have hd : l.drop i = l.getD i default :: l.drop (i + 1) := by
    rw [List.drop_eq_getElem_cons hi]
    simp [List.getD, hi]
  rw [hd] at h3
  simp only [treeF] at h3
  cases hf : stepF cells w (l.getD i default) (stk c k l i).length with
  | none => rw [hf] at h3; cases h3
  | some e' => exact ⟨e', rfl⟩

theorem mtree_loop {cells w k : Int} {c : List Int} {l : List TPush} {e : Int} (g : CGood cells c) (hc : cells ≤ 6000) (hl : l.length ≤ 9000) (hk : 0 ≤ k ∧ k < w) (hw : w ≤ 300) (hlo : ∀ s ∈ l, TPush.ok s) (h : treeF cells w l 0 = some e) : ∀ (n i : Nat), i + n = l.length →
    loop (fun (l17, x19) => loop_Machine_tree_l1 l k c l17 x19) ((stk c k l i).reverse, (i : Int)) = some (stk c k l l.length).reverse
  | 0, i, hi => by
    have : i = l.length := by omega
    subst this
    exact loop_done (by show loop_Machine_tree_l1 _ _ _ _ _ = _; unfold loop_Machine_tree_l1; rw [if_neg (not_ltI _)])
  | n + 1, i, hi => by
    have hlt : i < l.length := by omega
    obtain ⟨h1, h2, _⟩ := stk_inv (k := k) g hlo h i (by omega)
    obtain ⟨e', he⟩ := stk_step (k := k) g hlo h hlt
    rw [loop_next (s' := ((stk c k l (i + 1)).reverse, ((i + 1 : Nat) : Int))) (by
      show loop_Machine_tree_l1 _ _ _ _ _ = _
      rw [mbody g hc hl hlt h2 hk hw h1 hlo he, stk_succ c k l i hlt])]
    exact mtree_loop g hc hl hk hw hlo h n (i + 1) (by omega)

/-- what a tree comes to -/
noncomputable def valT (c : List Int) (k : Int) (l : List TPush) : Int := (stk c k l l.length).getD 0 default

theorem treeB_parts {cells w : Int} {l : List TPush} (h : treeB cells w l = true) : treeF cells w l 0 = some 1 ∧ l.length ≤ 24 := by
  unfold treeB at h
  split at h
  · cases h
  · rename_i e he
    simp only [decide_eq_true_eq] at h
    obtain ⟨rfl, h⟩ := h
    exact ⟨he, by omega⟩

theorem mtree_eq {cells w k : Int} {c : List Int} {l : List TPush} (p3 : Int) (p4 p5 : List Int) (p6 : List TLoop) (g : CGood cells c) (hc : cells ≤ 6000) (hk : 0 ≤ k ∧ k < w) (hw : w ≤ 300) (hlo : ∀ s ∈ l, TPush.ok s) (h : treeB cells w l = true) :
    loop_Machine_tree l k p3 p4 p5 p6 c = some (valT c k l) ∧ okI .i64 (valT c k l) := by
  obtain ⟨h1, h2⟩ := treeB_parts h
  obtain ⟨q1, q2, q3⟩ := stk_inv (k := k) g hlo h1 l.length (Nat.le_refl _)
  have hm := mtree_loop g hc (by omega) hk hw hlo h1 l.length 0 (by omega)
  simp only [stk_zero, List.reverse_nil, Int.natCast_zero] at hm
  rw [List.drop_length] at q3
  simp only [treeF, Option.some.injEq] at q3
  obtain ⟨v, hv⟩ : ∃ v, stk c k l l.length = [v] := by
    match hs : stk c k l l.length with
    | [] => rw [hs] at q3; simp at q3
    | [v] => exact ⟨v, rfl⟩
    | a :: b :: r => rw [hs] at q3; simp at q3; omega
  unfold loop_Machine_tree
  rw [hm]
  simp only [Option.bind_some]
  unfold loop_Machine_tree_j1 valT
  rw [hv]
  refine ⟨?_, ?_⟩
  · simp
  · exact q1 v (by rw [hv]; simp)
end Pam

/- The document's part of a tree, from behind, is the stack's top. -/
namespace Pam
open Go

theorem stk_cons {cells w k : Int} {c : List Int} {l : List TPush} {e : Int} (g : CGood cells c) (hlo : ∀ s ∈ l, TPush.ok s) (h : treeF cells w l 0 = some e) {i : Nat} {a : Int} {r : List Int} (hi : i ≤ l.length) (hs : stk c k l i = a :: r) :
    ∃ j, i = j + 1 ∧ j < l.length ∧ pushV c k (l.getD j default) (stk c k l j) = a :: r ∧ ∃ e', stepF cells w (l.getD j default) (stk c k l j).length = some e' := by
  cases i with
  | zero => rw [stk_zero] at hs; cases hs
  | succ j => exact ⟨j, rfl, by omega, by rw [← stk_succ c k l j (by omega)]; exact hs, stk_step g hlo h (by omega)⟩

theorem part_eq {cells w k : Int} {c : List Int} {l : List TPush} {e : Int} (p4 : Int) (p5 p6 : List Int) (p7 : List TLoop) (g : CGood cells c) (hc : cells ≤ 6000) (hl : l.length ≤ 9000) (hk : 0 ≤ k ∧ k < w) (hw : w ≤ 300) (hlo : ∀ s ∈ l, TPush.ok s) (h : treeF cells w l 0 = some e) :
    ∀ (i : Nat), i ≤ l.length → ∀ (a : Int) (r : List Int), stk c k l i = a :: r → ∃ p, p < i ∧ stk c k l p = r ∧ ∀ fuel, i ≤ fuel → ref_Looping_part_k fuel l ((i : Int) - 1) k p4 p5 p6 p7 c = some (a, (p : Int) - 1) := by
  have gl := g.len
  intro i
  induction i using Nat.strongRecOn with
  | _ i ih =>
  intro hi a r hs
  obtain ⟨j, rfl, hj, hp, e', he⟩ := stk_cons g hlo h hi hs
  have hidx : ((j + 1 : Nat) : Int) - 1 = (j : Int) := by omega
  have hwj : IntKind.wrap .i64 ((j : Int) - 1) = (j : Int) - 1 := wr (by omega) (by omega)
  have hst := stk_inv (k := k) g hlo h j (by omega)
  have hso := hst.1
  rw [hidx]
  have body : ∀ fuel, j + 1 ≤ fuel → ∃ f, fuel = f + 1 ∧ j ≤ f := fun fuel hf => ⟨fuel - 1, by omega, by omega⟩
  have ihj := ih j (by omega) (by omega)
  revert hp he ihj
  generalize hst' : stk c k l j = st at hso
  intro hp he ihj
  unfold stepF at he
  unfold pushV at hp
  have go : ∀ (p : Nat), p < j + 1 → stk c k l p = r → (∀ f, j ≤ f → ref_Looping_part_b (ref_Looping_part_k f) l j k p4 p5 p6 p7 c = some (a, (p : Int) - 1)) → ∃ p, p < j + 1 ∧ stk c k l p = r ∧ ∀ fuel, j + 1 ≤ fuel → ref_Looping_part_k fuel l (j : Int) k p4 p5 p6 p7 c = some (a, (p : Int) - 1) := by
    intro p h1 h2 h3
    refine ⟨p, h1, h2, fun fuel hf => ?_⟩
    obtain ⟨f, rfl, hf'⟩ := body fuel hf
    exact h3 f hf'
  have hb : ∀ (rcf : List TPush → Int → Int → Int → List Int → List Int → List TLoop → List Int → Option (Int × Int)) (X : Option (Int × Int)), ref_Looping_part_b rcf l j k p4 p5 p6 p7 c = X ↔ ref_Looping_part_b rcf l j k p4 p5 p6 p7 c = X := fun _ _ => Iff.rfl
  by_cases o1 : (l.getD j default).op = 1
  · rw [if_pos o1] at hp
    obtain ⟨rfl, rfl⟩ := List.cons.inj hp
    refine go j (by omega) hst' fun f hf => ?_
    unfold ref_Looping_part_b
    rw [if_pos (inI hj), Int.toNat_natCast, if_pos o1, hwj]
  rw [if_neg o1] at hp he
  by_cases o2 : (l.getD j default).op = 2
  · rw [if_pos o2] at hp he
    split at he
    · rename_i hin
      rw [insideB_iff] at hin
      obtain ⟨rfl, rfl⟩ := List.cons.inj hp
      refine go j (by omega) hst' fun f hf => ?_
      unfold ref_Looping_part_b
      rw [if_pos (inI hj), Int.toNat_natCast, if_neg o1, if_pos o2, if_pos (by omega), hwj]
    · cases he
  rw [if_neg o2] at hp he
  by_cases o3 : (l.getD j default).op = 3
  · rw [if_pos o3] at hp he
    split at he
    · rename_i hin
      rw [insideB_iff] at hin
      obtain ⟨rfl, rfl⟩ := List.cons.inj hp
      refine go j (by omega) hst' fun f hf => ?_
      unfold ref_Looping_part_b
      rw [if_pos (inI hj), Int.toNat_natCast, if_neg o1, if_neg o2, if_pos o3, wr (n := (l.getD j default).v + k) (by omega) (by omega), if_pos (by omega), hwj]
    · cases he
  rw [if_neg o3] at hp he
  by_cases o4 : (l.getD j default).op = 4
  · rw [if_pos o4] at hp
    obtain ⟨rfl, rfl⟩ := List.cons.inj hp
    refine go j (by omega) hst' fun f hf => ?_
    unfold ref_Looping_part_b
    rw [if_pos (inI hj), Int.toNat_natCast, if_neg o1, if_neg o2, if_neg o3, if_pos o4, hwj]
  rw [if_neg o4] at hp he
  by_cases o5 : (l.getD j default).op = 5
  · rw [if_pos o5] at hp he
    split at he
    · rename_i hh
      obtain ⟨b, q, rfl⟩ : ∃ b q, st = b :: q := by
        cases st with
        | nil => simp at hh
        | cons b q => exact ⟨b, q, rfl⟩
      obtain ⟨rfl, rfl⟩ := List.cons.inj hp
      obtain ⟨p1, g1, g2, g3⟩ := ihj b q rfl
      refine go p1 (by omega) g2 fun f hf => ?_
      unfold ref_Looping_part_b
      rw [if_pos (inI hj), Int.toNat_natCast, if_neg o1, if_neg o2, if_neg o3, if_neg o4, if_pos o5, hwj, g3 f hf]
      simp only [Option.bind_some]
      rw [(apply_eq _ b 0 (hso b (by simp)) okI_zero).2.1]
      simp
    · cases he
  rw [if_neg o5] at hp he
  -- two parts at least
  have two : ∀ b d q, st = b :: d :: q → ∃ p1 p2, p1 < j ∧ p2 < p1 ∧ stk c k l p2 = q ∧ (∀ f, j ≤ f → ref_Looping_part_k f l ((j : Int) - 1) k p4 p5 p6 p7 c = some (b, (p1 : Int) - 1)) ∧ (∀ f, p1 ≤ f → ref_Looping_part_k f l ((p1 : Int) - 1) k p4 p5 p6 p7 c = some (d, (p2 : Int) - 1)) := by
    intro b d q hq
    obtain ⟨p1, g1, g2, g3⟩ := ihj b (d :: q) hq
    obtain ⟨p2, k1, k2, k3⟩ := ih p1 (by omega) (by omega) d q g2
    exact ⟨p1, p2, g1, k1, k2, g3, k3⟩
  by_cases o6 : (l.getD j default).op = 6
  · rw [if_pos o6] at hp he
    split at he
    · rename_i hh
      obtain ⟨b, d, q, rfl⟩ : ∃ b d q, st = b :: d :: q := by
        match st, hh with
        | [], hh => simp at hh
        | [a], hh => simp at hh
        | b :: d :: q, _ => exact ⟨b, d, q, rfl⟩
      obtain ⟨rfl, rfl⟩ := List.cons.inj hp
      obtain ⟨p1, p2, g1, g2, g3, g4, g5⟩ := two b d q rfl
      refine go p2 (by omega) g3 fun f hf => ?_
      unfold ref_Looping_part_b
      rw [if_pos (inI hj), Int.toNat_natCast, if_neg o1, if_neg o2, if_neg o3, if_neg o4, if_neg o5, hwj, g4 f hf]
      simp only [Option.bind_some]
      rw [g5 f (by omega)]
      simp only [Option.bind_some]
      rw [if_pos o6, (apply_eq _ d b (hso d (by simp)) (hso b (by simp))).2.1]
      simp
    · cases he
  rw [if_neg o6] at hp he
  by_cases o7 : (l.getD j default).op = 7
  · rw [if_pos o7] at hp he
    split at he
    · cases he
    · rename_i hh
      obtain ⟨b, d, x, q, rfl⟩ : ∃ b d x q, st = b :: d :: x :: q := by
        match st, hh with
        | [], hh => simp at hh
        | [a], hh => simp at hh
        | [a, b], hh => simp at hh
        | b :: d :: x :: q, _ => exact ⟨b, d, x, q, rfl⟩
      obtain ⟨rfl, rfl⟩ := List.cons.inj hp
      obtain ⟨p1, p2, g1, g2, g3, g4, g5⟩ := two b d (x :: q) rfl
      obtain ⟨p3, k1, k2, k3⟩ := ih p2 (by omega) (by omega) x q g3
      refine go p3 (by omega) k2 fun f hf => ?_
      unfold ref_Looping_part_b
      rw [if_pos (inI hj), Int.toNat_natCast, if_neg o1, if_neg o2, if_neg o3, if_neg o4, if_neg o5, hwj, g4 f hf]
      simp only [Option.bind_some]
      rw [g5 f (by omega)]
      simp only [Option.bind_some]
      rw [if_neg o6, if_neg (by omega), k3 f (by omega)]
      simp only [Option.bind_some]
      by_cases z : x = 0
      · simp [z]
      · simp [z]
  rw [if_neg o7] at hp he
  by_cases o8 : (l.getD j default).op = 8
  · rw [if_pos o8] at he
    split at he
    · rename_i hh
      obtain ⟨hin, hh⟩ := hh
      rw [insideB_iff] at hin
      obtain ⟨b, d, q, rfl⟩ : ∃ b d q, st = b :: d :: q := by
        match st, hh with
        | [], hh => simp at hh
        | [a], hh => simp at hh
        | b :: d :: q, _ => exact ⟨b, d, q, rfl⟩
      obtain ⟨rfl, rfl⟩ := List.cons.inj hp
      obtain ⟨p1, p2, g1, g2, g3, g4, g5⟩ := two b d q rfl
      refine go p2 (by omega) g3 fun f hf => ?_
      unfold ref_Looping_part_b
      rw [if_pos (inI hj), Int.toNat_natCast, if_neg o1, if_neg o2, if_neg o3, if_neg o4, if_neg o5, hwj, g4 f hf]
      simp only [Option.bind_some]
      rw [g5 f (by omega)]
      simp only [Option.bind_some]
      rw [if_neg o6, if_pos o8, wr (n := (l.getD j default).v + (l.getD j default).n) (by omega) (by omega), if_pos (by omega)]
      unfold ref_cellAt
      have hw1 : ((((l.getD j default).v + (l.getD j default).n).toNat - (l.getD j default).v.toNat : Nat) : Int) = (l.getD j default).n := by omega
      rw [hw1]
      simp only [List.getD_cons_zero, List.getD_cons_succ]
      by_cases z1 : d ≥ 0
      · by_cases z2 : d < (l.getD j default).n
        · rw [if_pos z1, if_pos z2, if_pos ⟨⟨z1, z2⟩, by omega⟩, if_pos ⟨z1, z2⟩]
          simp only [Option.bind_some]
          rw [show (l.getD j default).v.toNat + d.toNat = ((l.getD j default).v + d).toNat by omega]
        · rw [if_pos z1, if_neg z2, if_neg (fun h => z2 h.2)]; rfl
      · rw [if_neg z1, if_neg (fun h => z1 h.1)]; rfl
    · cases he
  · rw [if_neg o8] at he; cases he
end Pam

/- One step of looping code: both leave the same cells. -/
namespace Pam
open Go

theorem rtree_eq {cells w k : Int} {c : List Int} {l : List TPush} (fuel : Nat) (hf : 24 ≤ fuel) (p3 : Int) (p4 p5 : List Int) (p6 : List TLoop) (g : CGood cells c) (hc : cells ≤ 6000) (hk : 0 ≤ k ∧ k < w) (hw : w ≤ 300) (hlo : ∀ s ∈ l, TPush.ok s) (h : treeB cells w l = true) :
    ref_Looping_tree fuel l k p3 p4 p5 p6 c = some (valT c k l) := by
  obtain ⟨h1, h2⟩ := treeB_parts h
  obtain ⟨q1, q2, q3⟩ := stk_inv (k := k) g hlo h1 l.length (Nat.le_refl _)
  rw [List.drop_length] at q3
  simp only [treeF, Option.some.injEq] at q3
  obtain ⟨v, hv⟩ : ∃ v, stk c k l l.length = [v] := by
    match hs : stk c k l l.length with
    | [] => rw [hs] at q3; simp at q3
    | [v] => exact ⟨v, rfl⟩
    | a :: b :: r => rw [hs] at q3; simp at q3; omega
  obtain ⟨p, _, _, hp⟩ := part_eq p3 p4 p5 p6 g hc (by omega) hk hw hlo h1 l.length (Nat.le_refl _) v [] hv
  unfold ref_Looping_tree ref_Looping_part
  rw [wr (by omega) (by omega), hp fuel (by omega)]
  unfold valT
  rw [hv]
  rfl

/-- a round -/
noncomputable def rndV (x : TLoop) (j : Nat) (s : List Int × Int) : List Int × Int :=
  if x.op = 2 then (s.1.set (x.to + j).toNat (valT s.1 j x.e), s.2)
  else (if x.op = 3 then s.1 else s.1.set (x.to + j).toNat (app x.k s.2 (valT s.1 j x.e)), app x.k s.2 (valT s.1 j x.e))
noncomputable def rndsV (x : TLoop) : Nat → Nat → List Int × Int → List Int × Int
  | 0, _, s => s
  | n + 1, j, s => rndsV x n (j + 1) (rndV x j s)
noncomputable def stepV (x : TLoop) (c : List Int) : List Int :=
  if x.op = 1 then c.set x.to.toNat (valT c 0 x.e)
  else if x.op = 3 then (rndsV x x.n.toNat 0 (c, if x.op = 2 then 0 else valT c 0 x.f)).1.set x.to.toNat (rndsV x x.n.toNat 0 (c, if x.op = 2 then 0 else valT c 0 x.f)).2
  else (rndsV x x.n.toNat 0 (c, if x.op = 2 then 0 else valT c 0 x.f)).1

theorem CGood.set {cells : Int} {c : List Int} (g : CGood cells c) (i : Nat) {v : Int} (hv : okI .i64 v) : CGood cells (c.set i v) := ⟨by rw [List.length_set]; exact g.len, ok_set g.ok hv⟩

/-- what a good step that goes round is -/
structure Rnd (cells : Int) (x : TLoop) : Prop where
  op : x.op = 2 ∨ x.op = 3 ∨ x.op = 4
  n : 1 ≤ x.n ∧ x.n ≤ 300
  e : treeB cells x.n x.e = true
  to : 0 ≤ x.to ∧ x.to + (if x.op = 3 then 1 else x.n) ≤ cells
  f : x.op = 2 ∨ treeB cells 1 x.f = true
theorem stepOk_parts {cells : Int} {x : TLoop} (h : stepOk cells x = true) : (x.op = 1 ∧ 0 ≤ x.to ∧ x.to + 1 ≤ cells ∧ treeB cells 1 x.e = true) ∨ (x.op ≠ 1 ∧ Rnd cells x) := by
  unfold stepOk at h
  by_cases o1 : x.op = 1
  · rw [if_pos o1, Bool.and_eq_true, insideB_iff] at h
    exact .inl ⟨o1, by omega, by omega, h.2⟩
  · rw [if_neg o1] at h
    split at h
    · rename_i hh
      simp only [Bool.and_eq_true, insideB_iff, Bool.or_eq_true, decide_eq_true_eq] at h
      obtain ⟨⟨h1, h2⟩, h3⟩ := h
      refine .inr ⟨o1, hh.1, hh.2, h1, ⟨h2.1, by omega⟩, ?_⟩
      rcases h3 with h3 | h3
      · exact .inl h3
      · exact .inr h3.2
    · cases h

section
variable {cells : Int} {x : TLoop} {c : List Int}

theorem rnd_val (hc : cells ≤ 6000) (hxo : TLoop.ok x) (R : Rnd cells x) {s : List Int × Int} (g : CGood cells s.1) (ha : okI .i64 s.2) {j : Nat} (hj : j < x.n.toNat) (q : Int) (q4 q5 : List Int) (q6 : List TLoop) (fuel : Nat) (hf : 24 ≤ fuel) :
    loop_Machine_tree x.e j q q4 q5 q6 s.1 = some (valT s.1 j x.e) ∧ ref_Looping_tree fuel x.e j q q4 q5 q6 s.1 = some (valT s.1 j x.e) ∧ okI .i64 (valT s.1 j x.e) ∧ CGood cells (rndV x j s).1 ∧ okI .i64 (rndV x j s).2 := by
  have hn := R.n
  obtain ⟨h1, h2⟩ := mtree_eq (k := (j : Int)) q q4 q5 q6 g hc ⟨by omega, by omega⟩ hn.2 hxo.2.2.2.2.2 R.e
  have h3 := rtree_eq (k := (j : Int)) fuel hf q q4 q5 q6 g hc ⟨by omega, by omega⟩ hn.2 hxo.2.2.2.2.2 R.e
  have h4 := (apply_eq x.k s.2 _ ha h2).2.2
  refine ⟨h1, h3, h2, ?_, ?_⟩
  · unfold rndV
    split
    · exact g.set _ h2
    · show CGood cells (if x.op = 3 then s.1 else _)
      split
      · exact g
      · exact g.set _ h4
  · unfold rndV
    split
    · exact ha
    · exact h4

theorem m_rounds (hc : cells ≤ 6000) (hxo : TLoop.ok x) (R : Rnd cells x) (q : Int) (q4 q5 : List Int) (q6 : List TLoop) : ∀ (n j : Nat) (s : List Int × Int), j + n = x.n.toNat → CGood cells s.1 → okI .i64 s.2 →
    loop (fun (l15, x16, x17) => loop_Machine_step_l1 x q q4 q5 q6 l15 x16 x17) (s.1, s.2, (j : Int)) = some (rndsV x n j s) ∧ CGood cells (rndsV x n j s).1 ∧ okI .i64 (rndsV x n j s).2
  | 0, j, s, hj, g, ha => by
    have hn := R.n
    refine ⟨loop_done ?_, g, ha⟩
    show loop_Machine_step_l1 _ _ _ _ _ _ _ _ = _
    unfold loop_Machine_step_l1
    rw [if_neg (by omega)]; rfl
  | n + 1, j, s, hj, g, ha => by
    have hn := R.n
    have hto := R.to
    have gl := g.len
    obtain ⟨h1, _, h3, h4, h5⟩ := rnd_val hc hxo R g ha (j := j) (by omega) q q4 q5 q6 24 (Nat.le_refl _)
    obtain ⟨k1, k2⟩ := m_rounds hc hxo R q q4 q5 q6 n (j + 1) (rndV x j s) (by omega) h4 h5
    refine ⟨?_, k2⟩
    show loop _ _ = some (rndsV x n (j + 1) (rndV x j s))
    rw [← k1]
    refine loop_next ?_
    show loop_Machine_step_l1 _ _ _ _ _ _ _ _ = _
    unfold loop_Machine_step_l1 loop_Machine_step_j3
    rw [if_pos (by omega), h1, wrs j (by omega)]
    simp only [Option.bind_some]
    rw [(apply_eq x.k s.2 _ ha h3).1]
    simp only [Option.bind_some]
    unfold rndV
    by_cases o2 : x.op = 2
    · have o3 : ¬ x.op = 3 := by omega
      rw [if_neg o3] at hto
      rw [if_neg (fun h : ¬ x.op = 2 => h o2), if_pos o3, wr (n := x.to + j) (by omega) (by omega), if_pos (by omega), if_pos o2]
    · by_cases o3 : x.op = 3
      · rw [if_pos o2, if_neg (fun h : ¬ x.op = 3 => h o3), if_neg o2, if_pos o3]
      · rw [if_neg o3] at hto
        rw [if_pos o2, if_pos o3, if_neg o2, if_neg o3, wr (n := x.to + j) (by omega) (by omega), if_pos (by omega)]

theorem m_step (hc : cells ≤ 6000) (hxo : TLoop.ok x) (g : CGood cells c) (hx : stepOk cells x = true) (q : Int) (q4 q5 : List Int) (q6 : List TLoop) : loop_Machine_step x q q4 q5 q6 c = some (stepV x c) ∧ CGood cells (stepV x c) := by
  have gl := g.len
  unfold loop_Machine_step stepV
  rcases stepOk_parts hx with ⟨o1, t1, t2, t3⟩ | ⟨o1, R⟩
  · obtain ⟨h1, h2⟩ := mtree_eq (k := 0) (w := 1) q q4 q5 q6 g hc ⟨by omega, by omega⟩ (by omega) hxo.2.2.2.2.2 t3
    rw [if_pos o1, if_pos o1, h1]
    simp only [Option.bind_some]
    rw [if_pos (by omega)]
    exact ⟨rfl, g.set _ h2⟩
  · rw [if_neg o1, if_neg o1]
    have hto := R.to
    have hn := R.n
    have fin : ∀ v, okI .i64 v → v = (if x.op = 2 then 0 else valT c 0 x.f) → loop_Machine_step_j1 x q q4 q5 q6 c v = some (if x.op = 3 then (rndsV x x.n.toNat 0 (c, if x.op = 2 then 0 else valT c 0 x.f)).1.set x.to.toNat (rndsV x x.n.toNat 0 (c, if x.op = 2 then 0 else valT c 0 x.f)).2 else (rndsV x x.n.toNat 0 (c, if x.op = 2 then 0 else valT c 0 x.f)).1) ∧
        CGood cells (if x.op = 3 then (rndsV x x.n.toNat 0 (c, if x.op = 2 then 0 else valT c 0 x.f)).1.set x.to.toNat (rndsV x x.n.toNat 0 (c, if x.op = 2 then 0 else valT c 0 x.f)).2 else (rndsV x x.n.toNat 0 (c, if x.op = 2 then 0 else valT c 0 x.f)).1) := by
      intro v hv he
      rw [← he]
      obtain ⟨k1, k2, k3⟩ := m_rounds hc hxo R q q4 q5 q6 x.n.toNat 0 (c, v) (by omega) g hv
      simp only [Int.natCast_zero] at k1
      unfold loop_Machine_step_j1
      rw [k1]
      have kl := k2.len
      generalize rndsV x x.n.toNat 0 (c, v) = s at k2 k3 kl
      obtain ⟨s1, s2⟩ := s
      simp only [Option.bind_some]
      unfold loop_Machine_step_j2
      by_cases o3 : x.op = 3
      · rw [if_pos o3] at hto
        rw [if_pos o3, if_pos o3, if_pos (by simp only at kl; omega)]
        exact ⟨rfl, k2.set _ k3⟩
      · rw [if_neg o3, if_neg o3]; exact ⟨rfl, k2⟩
    by_cases o2 : x.op = 2
    · rw [if_neg (fun h : ¬ x.op = 2 => h o2)]
      exact fin 0 okI_zero (by rw [if_pos o2])
    · have hf : treeB cells 1 x.f = true := by rcases R.f with h | h; exact (o2 h).elim; exact h
      obtain ⟨h1, h2⟩ := mtree_eq (k := 0) (w := 1) q q4 q5 q6 g hc ⟨by omega, by omega⟩ (by omega) hxo.2.2.2.2.1 hf
      rw [if_pos o2, h1]
      simp only [Option.bind_some]
      exact fin _ h2 (by rw [if_neg o2])
end
end Pam

/- A row of looping code: both tell the same numbers and leave the same cells. -/
namespace Pam
open Go
section
variable {cells : Int} {x : TLoop} {c : List Int}

theorem r_rounds2 (hc : cells ≤ 6000) (hxo : TLoop.ok x) (R : Rnd cells x) (o2 : x.op = 2) (fuel : Nat) (hf : 24 ≤ fuel) (q : Int) (q4 q5 : List Int) (q6 : List TLoop) (i : Int) (hx : q6.getD i.toNat default = x) : ∀ (n j : Nat) (s : List Int × Int), j + n = x.n.toNat → CGood cells s.1 → okI .i64 s.2 →
    loop (fun (l44, x45) => ref_Looping_Row_l3 fuel q q4 q5 q6 i l44 x45) (s.1, (j : Int)) = some (rndsV x n j s).1
  | 0, j, s, hj, g, ha => by
    have hn := R.n
    refine loop_done ?_
    show ref_Looping_Row_l3 _ _ _ _ _ _ _ _ = _
    unfold ref_Looping_Row_l3
    rw [hx, if_neg (by omega)]; rfl
  | n + 1, j, s, hj, g, ha => by
    have hn := R.n
    have hto := R.to
    have gl := g.len
    have o3 : ¬ x.op = 3 := by omega
    rw [if_neg o3] at hto
    obtain ⟨_, h1, h3, h4, h5⟩ := rnd_val hc hxo R g ha (j := j) (by omega) q q4 q5 q6 fuel hf
    show loop _ _ = some (rndsV x n (j + 1) (rndV x j s)).1
    rw [← r_rounds2 hc hxo R o2 fuel hf q q4 q5 q6 i hx n (j + 1) (rndV x j s) (by omega) h4 h5]
    refine loop_next ?_
    show ref_Looping_Row_l3 _ _ _ _ _ _ _ _ = _
    unfold ref_Looping_Row_l3
    rw [hx, if_pos (by omega), h1, wrs j (by omega)]
    simp only [Option.bind_some]
    rw [wr (n := x.to + j) (by omega) (by omega), if_pos (by omega)]
    unfold rndV
    rw [if_pos o2]

theorem r_rounds (hc : cells ≤ 6000) (hxo : TLoop.ok x) (R : Rnd cells x) (o2 : x.op ≠ 2) (fuel : Nat) (hf : 24 ≤ fuel) (q : Int) (q4 q5 : List Int) (q6 : List TLoop) (i : Int) (hx : q6.getD i.toNat default = x) : ∀ (n j : Nat) (s : List Int × Int), j + n = x.n.toNat → CGood cells s.1 → okI .i64 s.2 →
    loop (fun (l61, x62, x63) => ref_Looping_Row_l4 fuel q q4 q5 q6 i l61 x62 x63) (s.1, s.2, (j : Int)) = some (rndsV x n j s)
  | 0, j, s, hj, g, ha => by
    have hn := R.n
    refine loop_done ?_
    show ref_Looping_Row_l4 _ _ _ _ _ _ _ _ _ = _
    unfold ref_Looping_Row_l4
    rw [hx, if_neg (by omega)]; rfl
  | n + 1, j, s, hj, g, ha => by
    have hn := R.n
    have hto := R.to
    have hop := R.op
    have gl := g.len
    obtain ⟨_, h1, h3, h4, h5⟩ := rnd_val hc hxo R g ha (j := j) (by omega) q q4 q5 q6 fuel hf
    show loop _ _ = some (rndsV x n (j + 1) (rndV x j s))
    rw [← r_rounds hc hxo R o2 fuel hf q q4 q5 q6 i hx n (j + 1) (rndV x j s) (by omega) h4 h5]
    refine loop_next ?_
    show ref_Looping_Row_l4 _ _ _ _ _ _ _ _ _ = _
    unfold ref_Looping_Row_l4
    rw [hx, if_pos (by omega), h1, wrs j (by omega)]
    simp only [Option.bind_some]
    rw [(apply_eq x.k s.2 _ ha h3).2.1]
    simp only [Option.bind_some]
    unfold rndV
    rw [if_neg o2]
    by_cases o3 : x.op = 3
    · rw [if_neg (by omega : ¬ x.op = 4), if_pos o3]
    · rw [if_neg o3] at hto
      rw [if_pos (by omega : x.op = 4), if_neg o3, wr (n := x.to + j) (by omega) (by omega), if_pos (by omega)]

theorem r_step (hc : cells ≤ 6000) (hxo : TLoop.ok x) (g : CGood cells c) (hxk : stepOk cells x = true) (fuel : Nat) (hf : 24 ≤ fuel) (q : Int) (q4 q5 : List Int) (q6 : List TLoop) (i : Nat) (hi : i < q6.length) (hil : i < 9000000) (hx : q6.getD i default = x) :
    ref_Looping_Row_l2 fuel q q4 q5 q6 c i = some (.inl (stepV x c, ((i + 1 : Nat) : Int))) := by
  have gl := g.len
  have hx' : q6.getD (i : Int).toNat default = x := by rw [Int.toNat_natCast]; exact hx
  unfold ref_Looping_Row_l2 stepV
  rw [if_pos (ltI hi), if_pos (inI hi), hx']
  have j4 : ∀ l, ref_Looping_Row_j4 (i : Int) l = some (.inl (l, ((i + 1 : Nat) : Int))) := fun l => by unfold ref_Looping_Row_j4; rw [wrs i (by omega)]
  rcases stepOk_parts hxk with ⟨o1, t1, t2, t3⟩ | ⟨o1, R⟩
  · have h1 := rtree_eq (k := 0) (w := 1) fuel hf q q4 q5 q6 g hc ⟨by omega, by omega⟩ (by omega) hxo.2.2.2.2.2 t3
    rw [if_pos o1, if_pos o1, h1]
    simp only [Option.bind_some]
    rw [if_pos (by omega), j4]
  · rw [if_neg o1, if_neg o1]
    have hto := R.to
    have hn := R.n
    by_cases o2 : x.op = 2
    · have hr := r_rounds2 hc hxo R o2 fuel hf q q4 q5 q6 i hx' x.n.toNat 0 (c, 0) (by omega) g okI_zero
      simp only [Int.natCast_zero] at hr
      rw [if_pos o2, hr]
      simp only [Option.bind_some]
      rw [j4, if_neg (by omega : ¬ x.op = 3), if_pos o2]
    · have hfx : treeB cells 1 x.f = true := by rcases R.f with h | h; exact (o2 h).elim; exact h
      obtain ⟨_, h2⟩ := mtree_eq (k := 0) (w := 1) q q4 q5 q6 g hc ⟨by omega, by omega⟩ (by omega) hxo.2.2.2.2.1 hfx
      have h1 := rtree_eq (k := 0) (w := 1) fuel hf q q4 q5 q6 g hc ⟨by omega, by omega⟩ (by omega) hxo.2.2.2.2.1 hfx
      have hr := r_rounds hc hxo R o2 fuel hf q q4 q5 q6 i hx' x.n.toNat 0 (c, valT c 0 x.f) (by omega) g h2
      obtain ⟨_, k2, k3⟩ := m_rounds hc hxo R q q4 q5 q6 x.n.toNat 0 (c, valT c 0 x.f) (by omega) g h2
      simp only [Int.natCast_zero] at hr
      rw [if_neg o2, h1]
      simp only [Option.bind_some]
      rw [hr, if_neg o2]
      have kl := k2.len
      generalize rndsV x x.n.toNat 0 (c, valT c 0 x.f) = s at kl
      obtain ⟨s1, s2⟩ := s
      simp only [Option.bind_some]
      unfold ref_Looping_Row_j5
      rw [hx']
      by_cases o3 : x.op = 3
      · rw [if_pos o3] at hto
        rw [if_pos o3, if_pos o3, if_pos (by simp only at kl; omega), j4]
      · rw [if_neg o3, if_neg o3, j4]
end

/-- all steps -/
noncomputable def stepsV : List TLoop → List Int → List Int
  | [], c => c
  | x :: r, c => stepsV r (stepV x c)

theorem steps_eq {cells : Int} {l : List TLoop} (hc : cells ≤ 6000) (hl : l.length ≤ 9000) (hlo : ∀ x ∈ l, TLoop.ok x) (hok : ∀ x ∈ l, stepOk cells x = true) (fuel : Nat) (hf : 24 ≤ fuel) (q : Int) (q4 q5 : List Int) : ∀ (n i : Nat) (c : List Int), i + n = l.length → CGood cells c →
    loop (fun (l32, x33) => loop_Machine_Row_2_l2 q q4 q5 l l32 x33) (c, (i : Int)) = some (stepsV (l.drop i) c) ∧ loop (fun (l32, x33) => ref_Looping_Row_l2 fuel q q4 q5 l l32 x33) (c, (i : Int)) = some (stepsV (l.drop i) c) ∧ CGood cells (stepsV (l.drop i) c)
  | 0, i, c, hi, g => by
    have : i = l.length := by omega
    subst this
    rw [List.drop_length]
    refine ⟨loop_done ?_, loop_done ?_, g⟩
    · show loop_Machine_Row_2_l2 _ _ _ _ _ _ = _; unfold loop_Machine_Row_2_l2; rw [if_neg (not_ltI _)]; rfl
    · show ref_Looping_Row_l2 _ _ _ _ _ _ _ = _; unfold ref_Looping_Row_l2; rw [if_neg (not_ltI _)]; rfl
  | n + 1, i, c, hi, g => by
    have hlt : i < l.length := by omega
    have hm := getD_mem hlt
    have hd : l.drop i = l.getD i default :: l.drop (i + 1) := by
      rw [List.drop_eq_getElem_cons hlt]
      simp [List.getD, hlt]
    obtain ⟨h1, h2⟩ := m_step hc (hlo _ hm) g (hok _ hm) q q4 q5 l
    have h3 := r_step hc (hlo _ hm) g (hok _ hm) fuel hf q q4 q5 l i hlt (by omega) rfl
    obtain ⟨k1, k2, k3⟩ := steps_eq hc hl hlo hok fuel hf q q4 q5 n (i + 1) _ (by omega) h2
    rw [hd]
    refine ⟨?_, ?_, k3⟩
    · show _ = some (stepsV (l.drop (i + 1)) (stepV (l.getD i default) c))
      rw [← k1]
      refine loop_next ?_
      show loop_Machine_Row_2_l2 _ _ _ _ _ _ = _
      unfold loop_Machine_Row_2_l2
      rw [if_pos (ltI hlt), if_pos (inI hlt), Int.toNat_natCast, h1, wrs i (by omega)]
      rfl
    · show _ = some (stepsV (l.drop (i + 1)) (stepV (l.getD i default) c))
      rw [← k2]
      exact loop_next h3
end Pam

/- The check of looping code is as the document says. -/
namespace Pam
open Go

theorem roomL {n b : Nat} (h : n ≤ 200000) (hb : b ≤ 1000) : room n b := by
  have h1 : n * b ≤ 200000 * 1000 := Nat.mul_le_mul h hb
  exact ⟨by omega, by simp only [maxLen]; omega⟩

theorem upto_all {α Z : Type} [Inhabited α] (l : List α) (p : α → Bool) (z : Z) : upto l.length (fun i => if p (l.getD i default) = true then none else some z) () = if l.all p = true then .inl () else .inr z := by
  rcases upto_cases l.length (fun i => if p (l.getD i default) = true then none else some z) () with ⟨e, h⟩ | ⟨i, z', hi, hf, e⟩
  · rw [e, if_pos]
    rw [all_getD, decide_eq_true_eq]
    intro i hi
    have := h i hi
    split at this
    · assumption
    · cases this
  · rw [e, if_neg]
    · split at hf
      · cases hf
      · simp only [Option.some.injEq] at hf; rw [hf]
    · rw [all_getD, decide_eq_true_eq]
      intro h
      rw [if_pos (h i hi)] at hf
      cases hf

def stepsF (m : TLoops) : Unit ⊕ TFault := upto m.steps.length (fun i => if stepOk m.cells (m.steps.getD i default) = true then none else some (TFault.mk 4 i)) ()
def loopsF (m : TLoops) : TFault :=
  if m.cells < 1 ∨ m.cells > 6000 then TFault.mk 13 (-1)
  else if (m.put.length : Int) > 6000 ∨ (m.get.length : Int) > 120000 ∨ (m.steps.length : Int) > 1200 then TFault.mk 7 (-1)
  else if (m.put ++ m.get).all (fun a => insideB m.cells a 1) = true then (match stepsF m with | .inl _ => TFault.mk 0 0 | .inr z => z)
  else TFault.mk 16 (-1)

theorem grow_eq (n : Nat) (h : n ≤ 200000) : slices_Grow_int_int (n : Int) = some [] := by
  have w0 : IntKind.wrap .i64 (0 - 0) = 0 := wr (by omega) (by omega)
  unfold slices_Grow_int_int
  rw [if_neg (by omega), w0, Int.sub_zero, wr (by omega) (by omega)]
  by_cases z : (n : Int) > 0
  · rw [if_pos z, if_pos ⟨by omega, roomL (by omega) (by omega)⟩, if_pos ⟨by omega, by omega⟩, List.take_zero]
  · rw [if_neg z]

theorem concat_eq (a b : List Int) (ha : a.length ≤ 6000) (hb : b.length ≤ 120000) : slices_Concat_int_int (lit [a, b]) = some (a ++ b) := by
  unfold slices_Concat_int_int
  rw [show lit ([a, b] : List (List Int)) = [a, b] from rfl]
  have hlen : (([a, b] : List (List Int)).length : Int) = 2 := rfl
  have e1 : IntKind.wrap .i64 (0 + (a.length : Int)) = (a.length : Int) := by rw [Int.zero_add]; exact wr (by omega) (by omega)
  have e2 : IntKind.wrap .i64 ((a.length : Int) + (b.length : Int)) = ((a.length + b.length : Nat) : Int) := by rw [wr (by omega) (by omega)]; omega
  have s1 : slices_Concat_int_int_l2 [a, b] 0 0 = some (.inl ((a.length : Int), 1)) := by
    unfold slices_Concat_int_int_l2
    rw [if_pos (by rw [hlen]; omega), if_pos (by rw [hlen]; omega)]
    show (if IntKind.wrap .i64 (0 + (a.length : Int)) < 0 then none else (some (.inl (IntKind.wrap .i64 (0 + (a.length : Int)), IntKind.wrap .i64 (0 + 1))) : Option ((Int × Int) ⊕ Int))) = _
    rw [e1, if_neg (by omega)]; rfl
  have s2 : slices_Concat_int_int_l2 [a, b] (a.length : Int) 1 = some (.inl (((a.length + b.length : Nat) : Int), 2)) := by
    unfold slices_Concat_int_int_l2
    rw [if_pos (by rw [hlen]; omega), if_pos (by rw [hlen]; omega)]
    show (if IntKind.wrap .i64 ((a.length : Int) + (b.length : Int)) < 0 then none else (some (.inl (IntKind.wrap .i64 ((a.length : Int) + (b.length : Int)), IntKind.wrap .i64 (1 + 1))) : Option ((Int × Int) ⊕ Int))) = _
    rw [e2, if_neg (by omega)]; rfl
  have s3 : ∀ x, slices_Concat_int_int_l2 [a, b] x 2 = some (.inr x) := by
    intro x
    unfold slices_Concat_int_int_l2
    rw [if_neg (by rw [hlen]; omega)]
  rw [loop_next (s' := ((a.length : Int), 1)) s1, loop_next (s' := (((a.length + b.length : Nat) : Int), 2)) s2, loop_done (s3 _)]
  simp only [Option.bind_some]
  unfold slices_Concat_int_int_j1
  rw [grow_eq _ (by omega)]
  simp only [Option.bind_some]
  have t1 : slices_Concat_int_int_l1 [a, b] [] 0 = some (.inl (a, 1)) := by
    unfold slices_Concat_int_int_l1
    rw [if_pos (by rw [hlen]; omega), if_pos (by rw [hlen]; omega)]
    show (if room (0 + a.length) 8 then (some (.inl ([] ++ a, IntKind.wrap .i64 (0 + 1))) : Option ((List Int × Int) ⊕ List Int)) else none) = _
    rw [if_pos (roomL (by omega) (by omega))]; rfl
  have t2 : slices_Concat_int_int_l1 [a, b] a 1 = some (.inl (a ++ b, 2)) := by
    unfold slices_Concat_int_int_l1
    rw [if_pos (by rw [hlen]; omega), if_pos (by rw [hlen]; omega)]
    show (if room (a.length + b.length) 8 then (some (.inl (a ++ b, IntKind.wrap .i64 (1 + 1))) : Option ((List Int × Int) ⊕ List Int)) else none) = _
    rw [if_pos (roomL (by omega) (by omega))]; rfl
  have t3 : slices_Concat_int_int_l1 [a, b] (a ++ b) 2 = some (.inr (a ++ b)) := by
    unfold slices_Concat_int_int_l1
    rw [if_neg (by rw [hlen]; omega)]
  rw [loop_next (s' := (a, 1)) t1, loop_next (s' := (a ++ b, 2)) t2, loop_done t3]
  rfl

theorem getD_len (m : TLoops) (hs : ∀ x ∈ m.steps, x.e.length ≤ 9000000 ∧ x.f.length ≤ 9000000) (i : Nat) (hi : i < m.steps.length) : (m.steps.getD i default).e.length ≤ 9000000 ∧ (m.steps.getD i default).f.length ≤ 9000000 := hs _ (getD_mem hi)

theorem loopCheck_eq (m : TLoops) (hs : ∀ x ∈ m.steps, x.e.length ≤ 9000000 ∧ x.f.length ≤ 9000000) : loop_Check m = some (loopsF m) := by
  unfold loop_Check loopsF
  by_cases c1 : m.cells < 1
  · rw [if_pos c1, if_pos (.inl c1)]
  rw [if_neg c1]
  by_cases c2 : m.cells > 6000
  · rw [if_pos c2, if_pos (.inr c2)]
  rw [if_neg c2, if_neg (by omega : ¬ (m.cells < 1 ∨ m.cells > 6000))]
  by_cases c3 : (m.put.length : Int) > 6000
  · rw [if_pos c3, if_pos (.inl c3)]
  rw [if_neg c3]
  by_cases c4 : (m.get.length : Int) > 120000
  · rw [if_pos c4, if_pos (.inr (.inl c4))]
  rw [if_neg c4]
  by_cases c5 : (m.steps.length : Int) > 1200
  · rw [if_pos c5, if_pos (.inr (.inr c5))]
  rw [if_neg c5, if_neg (by omega : ¬ ((m.put.length : Int) > 6000 ∨ (m.get.length : Int) > 120000 ∨ (m.steps.length : Int) > 1200))]
  rw [concat_eq _ _ (by omega) (by omega)]
  simp only [Option.bind_some]
  rw [loop_upto (m.put ++ m.get).length (fun i => if insideB m.cells ((m.put ++ m.get).getD i default) 1 = true then none else some (TFault.mk 16 (-1))) ()]
  · rw [upto_all (m.put ++ m.get) (fun a => insideB m.cells a 1)]
    cases hh : (m.put ++ m.get).all (fun a => insideB m.cells a 1)
    · rfl
    · simp only [Option.bind_some, if_true, Sum.elim_inl]
      unfold loop_Check_j1
      rw [loop_upto m.steps.length (fun i => if stepOk m.cells (m.steps.getD i default) = true then none else some (TFault.mk 4 i)) ()]
      · show Option.bind (some (stepsF m)) _ = _
        cases stepsF m <;> rfl
      · intro i hi
        obtain ⟨l1, l2⟩ := getD_len m hs i hi
        unfold loop_Check_l1
        rw [if_pos (ltI hi), if_pos (inI hi), Int.toNat_natCast, fitsL_eq m _ (by omega) (by omega) l1 l2, wrs i (by omega)]
        simp only [Option.bind_some]
        cases stepOk m.cells (m.steps.getD i default) <;> rfl
      · unfold loop_Check_l1; rw [if_neg (not_ltI _)]
  · intro i hi
    unfold loop_Check_l2
    rw [if_pos (ltI hi), if_pos (inI hi), Int.toNat_natCast, inside_eq m _ _ (by omega) (by omega), wrs i (by simp at hi; omega)]
    simp only [Option.bind_some]
    cases insideB m.cells ((m.put ++ m.get).getD i default) 1 <;> rfl
  · unfold loop_Check_l2; rw [if_neg (not_ltI _)]

theorem loopsFault_eq (m : TLoops) (hs : ∀ x ∈ m.steps, x.e.length ≤ 9000000 ∧ x.f.length ≤ 9000000) : ref_LoopsFault m = some (loopsF m) := by
  unfold ref_LoopsFault loopsF ref_F
  simp only [Option.bind_some]
  by_cases c1 : m.cells < 1
  · rw [if_pos c1, if_pos (.inl c1)]
  rw [if_neg c1]
  by_cases c2 : m.cells > 6000
  · rw [if_pos c2, if_pos (.inr c2)]
  rw [if_neg c2, if_neg (by omega : ¬ (m.cells < 1 ∨ m.cells > 6000))]
  by_cases c3 : (m.put.length : Int) > 6000
  · rw [if_pos c3, if_pos (.inl c3)]
  rw [if_neg c3]
  by_cases c4 : (m.get.length : Int) > 120000
  · rw [if_pos c4, if_pos (.inr (.inl c4))]
  rw [if_neg c4]
  by_cases c5 : (m.steps.length : Int) > 1200
  · rw [if_pos c5, if_pos (.inr (.inr c5))]
  rw [if_neg c5, if_neg (by omega : ¬ ((m.put.length : Int) > 6000 ∨ (m.get.length : Int) > 120000 ∨ (m.steps.length : Int) > 1200))]
  rw [loop_upto m.put.length (fun i => if insideB m.cells (m.put.getD i default) 1 = true then none else some (TFault.mk 16 (-1))) ()]
  · rw [upto_all m.put (fun a => insideB m.cells a 1), List.all_append]
    cases hh : m.put.all (fun a => insideB m.cells a 1)
    · rfl
    · simp only [Option.bind_some, if_true, Sum.elim_inl, Bool.true_and]
      unfold ref_LoopsFault_j1
      rw [loop_upto m.get.length (fun i => if insideB m.cells (m.get.getD i default) 1 = true then none else some (TFault.mk 16 (-1))) ()]
      · rw [upto_all m.get (fun a => insideB m.cells a 1)]
        cases hh : m.get.all (fun a => insideB m.cells a 1)
        · rfl
        · simp only [Option.bind_some, if_true, Sum.elim_inl]
          unfold ref_LoopsFault_j2
          rw [loop_upto m.steps.length (fun i => if stepOk m.cells (m.steps.getD i default) = true then none else some (TFault.mk 4 i)) ()]
          · show Option.bind (some (stepsF m)) _ = _
            cases stepsF m <;> rfl
          · intro i hi
            obtain ⟨l1, l2⟩ := getD_len m hs i hi
            unfold ref_LoopsFault_l1 ref_F
            rw [if_pos (ltI hi), if_pos (inI hi), Int.toNat_natCast, loopOK_eq m _ (by omega) (by omega) l1 l2, wrs i (by omega)]
            simp only [Option.bind_some]
            cases stepOk m.cells (m.steps.getD i default) <;> rfl
          · unfold ref_LoopsFault_l1; rw [if_neg (not_ltI _)]
      · intro i hi
        unfold ref_LoopsFault_l2 ref_F
        rw [if_pos (ltI hi), if_pos (inI hi), Int.toNat_natCast, there_eq m _ _ (by omega) (by omega), wrs i (by omega)]
        simp only [Option.bind_some]
        cases insideB m.cells (m.get.getD i default) 1 <;> rfl
      · unfold ref_LoopsFault_l2; rw [if_neg (not_ltI _)]
  · intro i hi
    unfold ref_LoopsFault_l3 ref_F
    rw [if_pos (ltI hi), if_pos (inI hi), Int.toNat_natCast, there_eq m _ _ (by omega) (by omega), wrs i (by omega)]
    simp only [Option.bind_some]
    cases insideB m.cells (m.put.getD i default) 1 <;> rfl
  · unfold ref_LoopsFault_l3; rw [if_neg (not_ltI _)]
end Pam

/- Looping code is checked as the document says: the plain law. -/
namespace Pam
open Go

theorem clone_push (l : List TPush) (h : l.length ≤ 200000) : slices_Clone_api_Push_api_Push l = some l := by
  unfold slices_Clone_api_Push_api_Push
  by_cases z : l = []
  · rw [if_pos z, z]
  · rw [if_neg z, if_pos (roomL h (by omega))]
theorem cloneL_int (l : List Int) (h : l.length ≤ 200000) : slices_Clone_int_int l = some l := by
  unfold slices_Clone_int_int
  by_cases z : l = []
  · rw [if_pos z, z]
  · rw [if_neg z, if_pos (roomL h (by omega))]

theorem great_eq (m : TLoops) (hl : m.steps.length ≤ 9000000) : ∃ b, ref_GreatLoops m = some b ∧ (b = false → m.put.length ≤ 7000 ∧ m.get.length ≤ 130000 ∧ m.steps.length ≤ 1300 ∧ ∀ i, i < m.steps.length → (m.steps.getD i default).e.length ≤ 1000 ∧ (m.steps.getD i default).f.length ≤ 1000) := by
  unfold ref_GreatLoops
  by_cases c1 : (m.put.length : Int) > 7000
  · rw [if_pos c1]; exact ⟨true, rfl, fun h => by cases h⟩
  rw [if_neg c1]
  by_cases c2 : (m.get.length : Int) > 130000
  · rw [if_pos c2]; exact ⟨true, rfl, fun h => by cases h⟩
  rw [if_neg c2]
  by_cases c3 : (m.steps.length : Int) > 1300
  · rw [if_pos c3]; exact ⟨true, rfl, fun h => by cases h⟩
  rw [if_neg c3]
  have key : ∀ (k i : Nat) (a : Int), i + k = m.steps.length → ∃ r, loop (fun (x6, x7) => ref_GreatLoops_l1 m x6 x7) (a, (i : Int)) = some r ∧ (∀ z, r = .inr z → z = true) ∧
      (∀ z, r = .inl z → ∀ j, i ≤ j → j < m.steps.length → (m.steps.getD j default).e.length ≤ 1000 ∧ (m.steps.getD j default).f.length ≤ 1000) := by
    intro k
    induction k with
    | zero =>
      intro i a hi
      have : i = m.steps.length := by omega
      subst this
      exact ⟨.inl a, loop_done (by show ref_GreatLoops_l1 _ _ _ = _; unfold ref_GreatLoops_l1; rw [if_neg (not_ltI _)]), (fun z h => by cases h), fun z _ j h1 h2 => by omega⟩
    | succ k ih =>
      intro i a hi
      have hlt : i < m.steps.length := by omega
      by_cases g1 : (((m.steps.getD i default).e).length : Int) > 1000
      · exact ⟨.inr true, loop_done (by show ref_GreatLoops_l1 _ _ _ = _; unfold ref_GreatLoops_l1; rw [if_pos (ltI hlt), Int.toNat_natCast, if_pos g1, if_pos (inI hlt)]), (fun z h => by cases h; rfl), fun z h => by cases h⟩
      by_cases g2 : (((m.steps.getD i default).f).length : Int) > 1000
      · exact ⟨.inr true, loop_done (by show ref_GreatLoops_l1 _ _ _ = _; unfold ref_GreatLoops_l1; rw [if_pos (ltI hlt), Int.toNat_natCast, if_neg g1, if_pos (inI hlt), if_pos g2]), (fun z h => by cases h; rfl), fun z h => by cases h⟩
      obtain ⟨r, h1, h2, h3⟩ := ih (i + 1) (IntKind.wrap .i64 (a + (IntKind.wrap .i64 ((((m.steps.getD i default).e).length : Int) + (((m.steps.getD i default).f).length : Int))))) (by omega)
      refine ⟨r, ?_, h2, fun z hz j j1 j2 => ?_⟩
      · rw [← h1]
        exact loop_next (by show ref_GreatLoops_l1 _ _ _ = _; unfold ref_GreatLoops_l1; rw [if_pos (ltI hlt), Int.toNat_natCast, if_neg g1, if_pos (inI hlt), if_neg g2, wrs i (by omega)])
      · by_cases e : j = i
        · subst e; omega
        · exact h3 z hz j (by omega) j2
  obtain ⟨r, h1, h2, h3⟩ := key m.steps.length 0 0 (by omega)
  simp only [Int.natCast_zero] at h1
  rw [h1]
  cases r with
  | inr z => rw [h2 z rfl]; exact ⟨true, rfl, fun h => by cases h⟩
  | inl z => exact ⟨_, rfl, fun _ => ⟨by omega, by omega, by omega, fun i hi => h3 z rfl i (by omega) hi⟩⟩

theorem take_step {α : Type} [Inhabited α] (l : List α) (i : Nat) (hi : i < l.length) : l.take (i + 1) = l.take i ++ [l.getD i default] := by
  rw [List.take_succ, List.getElem?_eq_getElem hi]
  simp [List.getD, hi]

theorem copyLoops_eq (m : TLoops) (h1 : m.put.length ≤ 7000) (h2 : m.get.length ≤ 130000) (h3 : m.steps.length ≤ 1300) (h4 : ∀ i, i < m.steps.length → (m.steps.getD i default).e.length ≤ 1000 ∧ (m.steps.getD i default).f.length ≤ 1000) : ref_CopyLoops m = some m := by
  have key : ∀ (k i : Nat), i + k = m.steps.length → loop (fun (l17, x19) => ref_CopyLoops_l1 m l17 x19) (m.steps.take i, (i : Int)) = some m.steps := by
    intro k
    induction k with
    | zero =>
      intro i hi
      have : i = m.steps.length := by omega
      subst this
      rw [List.take_length]
      exact loop_done (by show ref_CopyLoops_l1 _ _ _ = _; unfold ref_CopyLoops_l1; rw [if_neg (not_ltI _)])
    | succ k ih =>
      intro i hi
      have hlt : i < m.steps.length := by omega
      obtain ⟨g1, g2⟩ := h4 i hlt
      rw [loop_next (s' := (m.steps.take (i + 1), ((i + 1 : Nat) : Int))) (by
        show ref_CopyLoops_l1 _ _ _ = _
        unfold ref_CopyLoops_l1
        rw [if_pos (ltI hlt), Int.toNat_natCast, if_pos (inI hlt), if_pos ⟨roomL (by omega) (by omega), roomL (by omega) (by omega)⟩, if_pos (roomL (by simp; omega) (by omega)), wrs i (by omega), take_step _ i hlt]
        rfl)]
      exact ih (i + 1) (by omega)
  have := key m.steps.length 0 (by omega)
  simp only [List.take_zero, Int.natCast_zero] at this
  unfold ref_CopyLoops
  rw [if_pos ⟨roomL (by omega) (by omega), roomL (by omega) (by omega)⟩, this]
  rfl

/-- the looping code of the document's first words -/
def begunSteps : List TLoop := [TLoop.mk 1 0 0 2 [] [TPush.mk 2 0 1 0, TPush.mk 2 0 0 0, TPush.mk 6 1 0 0], TLoop.mk 1 0 0 0 [] [TPush.mk 1 0 0 7]]
def begunL : TLoops := TLoops.mk 3 [1] [2] begunSteps
theorem begunL_chk : loopsF begunL = TFault.mk 0 0 := by
  unfold loopsF
  rw [if_neg (by decide), if_neg (by decide), if_pos (by decide)]
  have : stepsF begunL = .inl () := by
    unfold stepsF
    refine upto_none fun i hi => ?_
    have hi' : i < 2 := hi
    have : i = 0 ∨ i = 1 := by omega
    rcases this with rfl | rfl <;> rw [if_pos (by decide)]
  rw [this]
theorem begunL_new : loop_New begunL = some (.inr (TFault.mk 0 0, 3, [1], [2], begunSteps, 0, 0, [0, 0, 0])) := by
  unfold loop_New
  rw [loopCheck_eq begunL (by
    intro x hx
    simp only [begunL, begunSteps, List.mem_cons, List.not_mem_nil, or_false] at hx
    rcases hx with rfl | rfl <;> decide), begunL_chk]
  simp only [Option.bind_some]
  rw [if_neg (by decide), cloneL_int _ (by decide), cloneL_int _ (by decide)]
  simp only [Option.bind_some]
  rw [loop_next (s' := (begunSteps.take 1, 1)) (by
      show loop_New_l1 _ _ _ = _
      unfold loop_New_l1
      rw [if_pos (by decide), if_pos (by decide), clone_push _ (by decide), clone_push _ (by decide)]
      simp only [Option.bind_some]
      rw [if_pos (roomL (by decide) (by omega))]
      rfl),
    loop_next (s' := (begunSteps, 2)) (by
      show loop_New_l1 _ _ _ = _
      unfold loop_New_l1
      rw [if_pos (by decide), if_pos (by decide), clone_push _ (by decide), clone_push _ (by decide)]
      simp only [Option.bind_some]
      rw [if_pos (roomL (by decide) (by omega))]
      rfl), loop_done (o := begunSteps) (by
      show loop_New_l1 _ _ _ = _
      unfold loop_New_l1
      rw [if_neg (by decide)])]
  simp only [Option.bind_some]
  unfold loop_New_j1
  rw [if_pos ⟨by decide, roomL (by decide) (by omega)⟩]
  rfl

theorem tree7 (c : List Int) : loop_Machine_tree [TPush.mk 1 0 0 7] 0 3 [1] [2] begunSteps c = some 7 := by
  unfold loop_Machine_tree
  rw [loop_next (s' := ([7], 1)) (by
    show loop_Machine_tree_l1 _ _ _ _ _ = _
    unfold loop_Machine_tree_l1
    rw [if_pos (by decide), if_pos (by decide), if_pos (by decide), if_pos (roomL (by decide) (by omega))]
    rfl), loop_done (o := [7]) (by
    show loop_Machine_tree_l1 _ _ _ _ _ = _
    unfold loop_Machine_tree_l1
    rw [if_neg (by decide)])]
  rfl
theorem treeSum (a b c : Int) (ha : a + b = 5 ∧ a = 0 ∧ b = 5 ∨ a + b = 12 ∧ a = 7 ∧ b = 5) : loop_Machine_tree [TPush.mk 2 0 1 0, TPush.mk 2 0 0 0, TPush.mk 6 1 0 0] 0 3 [1] [2] begunSteps [a, b, c] = some (a + b) := by
  unfold loop_Machine_tree
  rw [loop_next (s' := ([b], 1)) (by
    show loop_Machine_tree_l1 _ _ _ _ _ = _
    unfold loop_Machine_tree_l1
    rw [if_pos (by decide), if_pos (by decide), if_neg (by decide), if_pos (by decide), if_pos ⟨by exact ⟨by decide, by show (1 : Int) < 3; decide⟩, roomL (by decide) (by omega)⟩]
    rfl), loop_next (s' := ([b, a], 2)) (by
    show loop_Machine_tree_l1 _ _ _ _ _ = _
    unfold loop_Machine_tree_l1
    rw [if_pos (by decide), if_pos (by decide), if_neg (by decide), if_pos (by decide), if_pos ⟨by exact ⟨by decide, by show (0 : Int) < 3; decide⟩, roomL (by show 2 ≤ 200000; decide) (by omega)⟩]
    rfl), loop_next (s' := ([a + b], 3)) (by
    rcases ha with ⟨h, rfl, rfl⟩ | ⟨h, rfl, rfl⟩ <;> rfl), loop_done (o := [a + b]) (by
    show loop_Machine_tree_l1 _ _ _ _ _ = _
    unfold loop_Machine_tree_l1
    rw [if_neg (by decide)])]
  rfl

theorem begunL_row (a c d : Int) (o : Int) (ha : a = 0 ∧ o = 5 ∨ a = 7 ∧ o = 12) : loop_Machine_Row_2 [5] 3 [1] [2] begunSteps [a, c, d] = some ([o], TFault.mk 0 0, [7, 5, o]) := by
  unfold loop_Machine_Row_2
  rw [if_neg (by decide)]
  rw [loop_next (s' := ([a, 5, d], 1)) (by
    show loop_Machine_Row_2_l3 _ _ _ _ = _
    unfold loop_Machine_Row_2_l3
    rw [if_pos (by decide), if_pos (by decide), if_pos ⟨by decide, by decide, by show (1 : Int) < 3; decide⟩]
    rfl), loop_done (o := [a, 5, d]) (by
    show loop_Machine_Row_2_l3 _ _ _ _ = _
    unfold loop_Machine_Row_2_l3
    rw [if_neg (by decide)])]
  simp only [Option.bind_some]
  unfold loop_Machine_Row_2_j1
  have ho : a + 5 = o := by omega
  rw [loop_next (s' := ([a, 5, o], 1)) (by
    show loop_Machine_Row_2_l2 _ _ _ _ _ _ = _
    unfold loop_Machine_Row_2_l2 loop_Machine_step
    rw [if_pos (by decide), if_pos (by decide)]
    show Option.bind (if (1 : Int) = 1 then (loop_Machine_tree [TPush.mk 2 0 1 0, TPush.mk 2 0 0 0, TPush.mk 6 1 0 0] 0 3 [1] [2] begunSteps [a, 5, d]).bind _ else _) _ = _
    rw [if_pos rfl, treeSum a 5 d (by omega), ho]
    simp only [Option.bind_some]
    rw [if_pos ⟨by decide, by show (2 : Int) < 3; decide⟩]
    rfl), loop_next (s' := ([7, 5, o], 2)) (by
    show loop_Machine_Row_2_l2 _ _ _ _ _ _ = _
    unfold loop_Machine_Row_2_l2 loop_Machine_step
    rw [if_pos (by decide), if_pos (by decide)]
    show Option.bind (if (1 : Int) = 1 then (loop_Machine_tree [TPush.mk 1 0 0 7] 0 3 [1] [2] begunSteps [a, 5, o]).bind _ else _) _ = _
    rw [if_pos rfl, tree7]
    simp only [Option.bind_some]
    rw [if_pos ⟨by decide, by show (0 : Int) < 3; decide⟩]
    rfl), loop_done (o := [7, 5, o]) (by
    show loop_Machine_Row_2_l2 _ _ _ _ _ _ = _
    unfold loop_Machine_Row_2_l2
    rw [if_neg (by decide)])]
  simp only [Option.bind_some]
  unfold loop_Machine_Row_2_j2
  rw [loop_next (s' := ([o], 1)) (by
    show loop_Machine_Row_2_l1 _ _ _ _ = _
    unfold loop_Machine_Row_2_l1
    rw [if_pos (by decide), if_pos (by decide), if_pos ⟨⟨by decide, by show (2 : Int) < 3; decide⟩, roomL (by decide) (by omega)⟩]
    rfl), loop_done (o := [o]) (by
    show loop_Machine_Row_2_l1 _ _ _ _ = _
    unfold loop_Machine_Row_2_l1
    rw [if_neg (by decide)])]
  rfl

theorem sameL_one (a : Int) : ref_SameLongs [a] [a] = some true := by
  unfold ref_SameLongs
  rw [if_neg (by simp), loop_upto 1 (fun _ => none) ()]
  · rw [upto_none (fun _ _ => rfl)]; rfl
  · intro i hi
    have : i = 0 := by omega
    subst this
    unfold ref_SameLongs_l1
    rw [if_pos (by simp), if_pos (by simp), if_neg (by simp), wrs 0 (by omega)]
  · unfold ref_SameLongs_l1; rw [if_neg (by simp)]

theorem loopBegun_true : law_loopBegun = some true := by
  unfold law_loopBegun law_loopsOne
  simp only [Option.bind_some]
  show (loop_New begunL).bind _ = _
  rw [begunL_new]
  simp only [Option.bind_some, Sum.elim_inr]
  rw [if_neg (by decide)]
  show (loop_Machine_Row_2 [5] 3 [1] [2] begunSteps [0, 0, 0]).bind _ = _
  rw [begunL_row 0 0 0 5 (.inl ⟨rfl, rfl⟩)]
  simp only [Option.bind_some]
  show (loop_Machine_Row_2 [5] 3 [1] [2] begunSteps [7, 5, 5]).bind _ = _
  rw [begunL_row 7 5 5 12 (.inr ⟨rfl, rfl⟩)]
  simp only [Option.bind_some, if_true]
  rw [show (lit [5] : List Int) = [5] from rfl, show (lit [12] : List Int) = [12] from rfl, sameL_one, sameL_one]
  rfl

theorem law_LoopChecks_true (m : TLoops) (hm : m.ok) (hs : m.sz ≤ 1048576) : law_LoopChecks m = some true := by
  have z4 := szL_len TLoop.sz_pos m.steps
  unfold TLoops.sz at hs
  obtain ⟨b, hg, hb⟩ := great_eq m (by omega)
  unfold law_LoopChecks
  rw [loopBegun_true, hg]
  simp only [Option.bind_some, if_true]
  cases b with
  | true => rfl
  | false =>
  obtain ⟨h1, h2, h3, h4⟩ := hb rfl
  have hst : ∀ x ∈ m.steps, x.e.length ≤ 9000000 ∧ x.f.length ≤ 9000000 := by
    intro x hx
    obtain ⟨i, hi, he⟩ := List.getElem_of_mem hx
    have := h4 i hi
    rw [show m.steps.getD i default = x by simp [List.getD, hi, he]] at this
    omega
  rw [if_neg (by simp), copyLoops_eq m h1 h2 h3 h4]
  simp only [Option.bind_some]
  rw [loopCheck_eq m hst, loopsFault_eq m hst]
  simp
end Pam

/- Rows: what the law of rows leans on. -/
namespace Pam
open Go

theorem sameLongs_refl (l : List Int) (hl : l.length ≤ 9000000) : ref_SameLongs l l = some true := by
  unfold ref_SameLongs
  rw [if_neg (by simp), loop_upto l.length (fun _ => none) ()]
  · rw [upto_none (fun _ _ => rfl)]; rfl
  · intro i hi
    unfold ref_SameLongs_l1
    rw [if_pos (ltI hi), if_pos ⟨inI hi, inI hi⟩, if_neg (by simp), wrs i (by omega)]
  · unfold ref_SameLongs_l1; rw [if_neg (not_ltI _)]
theorem sameLongs2_refl (l : List Int) (hl : l.length ≤ 9000000) : ref_SameLongs_2 l l = some true := by
  unfold ref_SameLongs_2
  rw [if_neg (by simp), loop_upto l.length (fun _ => none) ()]
  · rw [upto_none (fun _ _ => rfl)]; rfl
  · intro i hi
    unfold ref_SameLongs_2_l1
    rw [if_pos (ltI hi), if_pos ⟨inI hi, inI hi⟩, if_neg (by simp), wrs i (by omega)]
  · unfold ref_SameLongs_2_l1; rw [if_neg (not_ltI _)]

theorem rowsGreat_eq (rows : List (List Int)) (hl : rows.length ≤ 9000000) : ∃ b, law_rowsGreat rows = some b ∧ (b = false → rows.length ≤ 60 ∧ ∀ i, i < rows.length → (rows.getD i default).length ≤ 10000) := by
  unfold law_rowsGreat
  by_cases c : (rows.length : Int) > 60
  · rw [if_pos c]; exact ⟨true, rfl, fun h => by cases h⟩
  rw [if_neg c, loop_upto rows.length (fun i => if ((rows.getD i default).length : Int) > 10000 then some true else none) ()]
  · rcases upto_cases rows.length (fun i => if ((rows.getD i default).length : Int) > 10000 then some true else none) () with ⟨e, h⟩ | ⟨j, z, _, hf, e⟩
    · rw [e]
      refine ⟨false, rfl, fun _ => ⟨by omega, fun i hi => ?_⟩⟩
      have := h i hi
      split at this
      · cases this
      · omega
    · rw [e]
      refine ⟨z, rfl, fun h => ?_⟩
      split at hf
      · simp_all
      · cases hf
  · intro i hi
    unfold law_rowsGreat_l1
    rw [if_pos (ltI hi), if_pos (inI hi), Int.toNat_natCast, wrs i (by omega)]
    split <;> rfl
  · unfold law_rowsGreat_l1; rw [if_neg (not_ltI _)]

theorem copyRows_eq (rows : List (List Int)) (hl : rows.length ≤ 60) (hr : ∀ i, i < rows.length → (rows.getD i default).length ≤ 10000) : law_copyRows rows = some rows := by
  have key : ∀ (k i : Nat), i + k = rows.length → loop (fun (l17, x19) => law_copyRows_l1 rows l17 x19) (rows.take i, (i : Int)) = some rows := by
    intro k
    induction k with
    | zero =>
      intro i hi
      have : i = rows.length := by omega
      subst this
      rw [List.take_length]
      exact loop_done (by show law_copyRows_l1 _ _ _ = _; unfold law_copyRows_l1; rw [if_neg (not_ltI _)])
    | succ k ih =>
      intro i hi
      have hlt : i < rows.length := by omega
      have := hr i hlt
      rw [loop_next (s' := (rows.take (i + 1), ((i + 1 : Nat) : Int))) (by
        show law_copyRows_l1 _ _ _ = _
        unfold law_copyRows_l1
        rw [if_pos (ltI hlt), Int.toNat_natCast, if_pos ⟨inI hlt, roomC (by omega) (by omega)⟩, if_pos (roomC (by simp; omega) (by omega)), wrs i (by omega)]
        congr 3
        rw [List.take_succ, List.getElem?_eq_getElem hlt]
        simp [List.getD, hlt, lit])]
      exact ih (i + 1) (by omega)
  have := key rows.length 0 (by omega)
  simp only [List.take_zero, Int.natCast_zero] at this
  unfold law_copyRows
  rw [this]; rfl

theorem sameRows_refl (rows : List (List Int)) (hl : rows.length ≤ 60) (hr : ∀ i, i < rows.length → (rows.getD i default).length ≤ 10000) : law_sameRows rows rows = some true := by
  unfold law_sameRows
  rw [if_neg (by simp), loop_upto rows.length (fun _ => none) ()]
  · rw [upto_none (fun _ _ => rfl)]; rfl
  · intro i hi
    unfold law_sameRows_l1
    have := hr i hi
    rw [if_pos (ltI hi), if_pos ⟨inI hi, inI hi⟩, Int.toNat_natCast, sameLongs_refl _ (by omega), wrs i (by omega)]
    rfl
  · unfold law_sameRows_l1; rw [if_neg (not_ltI _)]

theorem row_ok {rows : List (List Int)} (h : ∀ l ∈ rows, ∀ y ∈ l, okI .i64 y) {i : Nat} (hi : i < rows.length) : ∀ y ∈ rows.getD i default, okI .i64 y := h _ (getD_mem hi)

theorem clone64 (l : List Int) (h : l.length ≤ 200000) : slices_Clone_int64_int64 l = some l := by
  unfold slices_Clone_int64_int64
  by_cases z : l.length = 0
  · rw [if_pos z, List.eq_nil_of_length_eq_zero z]
  · rw [if_neg z, if_pos (roomC h (by omega))]

theorem sameInts_refl (l : List Int) (hl : l.length ≤ 9000000) : ref_SameInts l l = some true := by
  unfold ref_SameInts
  rw [if_neg (by simp), loop_upto l.length (fun _ => none) ()]
  · rw [upto_none (fun _ _ => rfl)]; rfl
  · intro i hi
    unfold ref_SameInts_l1
    rw [if_pos (ltI hi), if_pos ⟨inI hi, inI hi⟩, if_neg (by simp), wrs i (by omega)]
  · unfold ref_SameInts_l1; rw [if_neg (not_ltI _)]
def putF (put inn : List Int) : Nat → Nat → List Int → List Int
  | 0, _, c => c
  | k + 1, i, c => putF put inn k (i + 1) (c.set (put.getD i default).toNat (inn.getD i default))

theorem putF_good {put inn : List Int} (hin : ∀ y ∈ inn, okI .i64 y) : ∀ (k i : Nat) (c : List Int), (∀ y ∈ c, okI .i64 y) → (putF put inn k i c).length = c.length ∧ ∀ y ∈ putF put inn k i c, okI .i64 y
  | 0, _, c, h => ⟨rfl, h⟩
  | k + 1, i, c, h => by
    obtain ⟨h1, h2⟩ := putF_good hin k (i + 1) (c.set (put.getD i default).toNat (inn.getD i default)) (ok_set h (ok_getD hin i))
    exact ⟨by rw [putF, h1, List.length_set], h2⟩

def getF (get c : List Int) : List Int := get.map fun a => c.getD a.toNat default

theorem take_getF (get c : List Int) (i : Nat) (hi : i < get.length) : (getF get c).take (i + 1) = (getF get c).take i ++ [c.getD (get.getD i default).toNat default] := by
  have hl : i < (getF get c).length := by unfold getF; simpa using hi
  rw [List.take_succ, List.getElem?_eq_getElem hl]
  simp [getF, List.getD, hi]

theorem upto_inl {T Z : Type} {n : Nat} {f : Nat → Option Z} {t t' : T} (h : upto n f t = .inl t') : ∀ i, i < n → f i = none := by
  rcases upto_cases n f t with ⟨_, h2⟩ | ⟨i, z, _, _, h2⟩
  · exact h2
  · rw [h2] at h; cases h

end Pam

/- Every row of loops is as the document says: the plain law. -/
namespace Pam
open Go

/-- looping code that may be run -/
structure LoopG (m : TLoops) : Prop where
  c1 : 1 ≤ m.cells
  c2 : m.cells ≤ 6000
  l1 : m.put.length ≤ 6000
  l3 : m.get.length ≤ 120000
  ls : m.steps.length ≤ 1200
  put : ∀ i, i < m.put.length → 0 ≤ m.put.getD i default ∧ m.put.getD i default < m.cells
  get : ∀ i, i < m.get.length → 0 ≤ m.get.getD i default ∧ m.get.getD i default < m.cells
  ok : ∀ x ∈ m.steps, stepOk m.cells x = true

theorem loopG_of {m : TLoops} (h : (loopsF m).code = 0) : LoopG m ∧ loopsF m = TFault.mk 0 0 := by
  unfold loopsF at h ⊢
  split at h
  · cases h
  rename_i c1
  rw [if_neg c1]
  split at h
  · cases h
  rename_i c2
  rw [if_neg c2]
  split at h
  case isFalse => cases h
  rename_i c3
  rw [if_pos c3]
  rw [List.all_append, Bool.and_eq_true, List.all_eq_true, List.all_eq_true] at c3
  have st : stepsF m = .inl () := by
    unfold stepsF at h ⊢
    rcases upto_cases m.steps.length (fun i => if stepOk m.cells (m.steps.getD i default) = true then none else some (TFault.mk 4 i)) () with ⟨e, _⟩ | ⟨j, z, _, hf, e⟩
    · exact e
    · rw [e] at h
      simp only at h hf
      split at hf
      · cases hf
      · simp only [Option.some.injEq] at hf; subst hf; cases h
  rw [st]
  refine ⟨⟨by omega, by omega, by omega, by omega, by omega, fun i hi => ?_, fun i hi => ?_, fun x hx => ?_⟩, rfl⟩
  · have := c3.1 _ (getD_mem hi); rw [insideB_iff] at this; omega
  · have := c3.2 _ (getD_mem hi); rw [insideB_iff] at this; omega
  · obtain ⟨i, hi, he⟩ := List.getElem_of_mem hx
    have := upto_inl st i hi
    rw [show m.steps.getD i default = x by simp [List.getD, hi, he]] at this
    split at this
    · assumption
    · cases this

theorem m_put {put inn : List Int} {nc : Int} (hp : ∀ i, i < put.length → 0 ≤ put.getD i default ∧ put.getD i default < nc) (hlen : inn.length = put.length) (hl : put.length ≤ 6000) : ∀ (k i : Nat) (c : List Int), i + k = put.length → (c.length : Int) = nc →
    loop (fun (l43, x44) => loop_Machine_Row_2_l3 inn put l43 x44) (c, (i : Int)) = some (putF put inn k i c)
  | 0, i, c, hi, _ => by
    have : i = put.length := by omega
    subst this
    exact loop_done (by show loop_Machine_Row_2_l3 _ _ _ _ = _; unfold loop_Machine_Row_2_l3; rw [if_neg (not_ltI _)]; rfl)
  | k + 1, i, c, hi, hc => by
    have hlt : i < put.length := by omega
    have := hp i hlt
    rw [loop_next (s' := (c.set (put.getD i default).toNat (inn.getD i default), ((i + 1 : Nat) : Int))) (by show loop_Machine_Row_2_l3 _ _ _ _ = _; unfold loop_Machine_Row_2_l3; rw [if_pos (ltI hlt), if_pos (inI hlt), Int.toNat_natCast, if_pos ⟨by omega, by omega⟩, wrs i (by omega)])]
    exact m_put hp hlen hl k (i + 1) _ (by omega) (by rw [List.length_set]; exact hc)
theorem r_put {put inn : List Int} {nc : Int} (hp : ∀ i, i < put.length → 0 ≤ put.getD i default ∧ put.getD i default < nc) (hlen : inn.length = put.length) (hl : put.length ≤ 6000) : ∀ (k i : Nat) (c : List Int), i + k = put.length → (c.length : Int) = nc →
    loop (fun (l76, x77) => ref_Looping_Row_l5 inn put l76 x77) (c, (i : Int)) = some (putF put inn k i c)
  | 0, i, c, hi, _ => by
    have : i = inn.length := by omega
    subst this
    exact loop_done (by show ref_Looping_Row_l5 _ _ _ _ = _; unfold ref_Looping_Row_l5; rw [if_neg (not_ltI _)]; rfl)
  | k + 1, i, c, hi, hc => by
    have hlt : i < put.length := by omega
    have := hp i hlt
    rw [loop_next (s' := (c.set (put.getD i default).toNat (inn.getD i default), ((i + 1 : Nat) : Int))) (by show ref_Looping_Row_l5 _ _ _ _ = _; unfold ref_Looping_Row_l5; rw [if_pos (by omega), Int.toNat_natCast, if_pos ⟨by omega, by omega, by omega⟩, wrs i (by omega)])]
    exact r_put hp hlen hl k (i + 1) _ (by omega) (by rw [List.length_set]; exact hc)

theorem m_get {get c : List Int} {nc : Int} (hp : ∀ i, i < get.length → 0 ≤ get.getD i default ∧ get.getD i default < nc) (hl : get.length ≤ 120000) (hc : (c.length : Int) = nc) : ∀ (k i : Nat), i + k = get.length →
    loop (fun (l21, x23) => loop_Machine_Row_2_l1 get c l21 x23) ((getF get c).take i, (i : Int)) = some (getF get c)
  | 0, i, hi => by
    have : i = get.length := by omega
    subst this
    rw [List.take_of_length_le (by simp [getF])]
    exact loop_done (by show loop_Machine_Row_2_l1 _ _ _ _ = _; unfold loop_Machine_Row_2_l1; rw [if_neg (not_ltI _)])
  | k + 1, i, hi => by
    have hlt : i < get.length := by omega
    have := hp i hlt
    rw [loop_next (s' := ((getF get c).take (i + 1), ((i + 1 : Nat) : Int))) (by
      show loop_Machine_Row_2_l1 _ _ _ _ = _
      unfold loop_Machine_Row_2_l1
      rw [if_pos (ltI hlt), if_pos (inI hlt), Int.toNat_natCast, if_pos ⟨by omega, roomC (by simp [getF]; omega) (by omega)⟩, wrs i (by omega), take_getF get _ i hlt]
      rfl)]
    exact m_get hp hl hc k (i + 1) (by omega)
theorem r_get {get c : List Int} {nc : Int} (hp : ∀ i, i < get.length → 0 ≤ get.getD i default ∧ get.getD i default < nc) (hl : get.length ≤ 120000) (hc : (c.length : Int) = nc) : ∀ (k i : Nat), i + k = get.length →
    loop (fun (l21, x23) => ref_Looping_Row_l1 get c l21 x23) ((getF get c).take i, (i : Int)) = some (getF get c)
  | 0, i, hi => by
    have : i = get.length := by omega
    subst this
    rw [List.take_of_length_le (by simp [getF])]
    exact loop_done (by show ref_Looping_Row_l1 _ _ _ _ = _; unfold ref_Looping_Row_l1; rw [if_neg (not_ltI _)])
  | k + 1, i, hi => by
    have hlt : i < get.length := by omega
    have := hp i hlt
    rw [loop_next (s' := ((getF get c).take (i + 1), ((i + 1 : Nat) : Int))) (by
      show ref_Looping_Row_l1 _ _ _ _ = _
      unfold ref_Looping_Row_l1
      rw [if_pos (ltI hlt), Int.toNat_natCast, if_pos ⟨inI hlt, by omega, roomC (by simp [getF]; omega) (by omega)⟩, wrs i (by omega), take_getF get _ i hlt]
      rfl)]
    exact r_get hp hl hc k (i + 1) (by omega)

theorem rowL_eq {m : TLoops} (G : LoopG m) (hm : m.ok) (fuel : Nat) (hf : 24 ≤ fuel) (inn : List Int) (hin : ∀ y ∈ inn, okI .i64 y) (c : List Int) (g : CGood m.cells c) (hl : inn.length = m.put.length) :
    ∃ out c', loop_Machine_Row_2 inn m.cells m.put m.get m.steps c = some (out, TFault.mk 0 0, c') ∧ ref_Looping_Row fuel inn m.cells m.put m.get m.steps c = some (out, c') ∧ CGood m.cells c' ∧ out.length ≤ 120000 := by
  have hc2 := G.c2
  have gl := g.len
  have hls := G.ls
  have h1 := m_put (nc := m.cells) G.put hl G.l1 m.put.length 0 c (by omega) gl
  have h2 := r_put (nc := m.cells) G.put hl G.l1 m.put.length 0 c (by omega) gl
  simp only [Int.natCast_zero] at h1 h2
  obtain ⟨g1, g2⟩ := putF_good (put := m.put) hin m.put.length 0 c g.ok
  have g3 : CGood m.cells (putF m.put inn m.put.length 0 c) := ⟨by rw [g1]; exact gl, g2⟩
  obtain ⟨s1, s2, s3⟩ := steps_eq hc2 (by omega) hm.2.2.2 G.ok fuel hf m.cells m.put m.get m.steps.length 0 _ (by omega) g3
  simp only [Int.natCast_zero, List.drop_zero] at s1 s2 s3
  have e1 := m_get G.get G.l3 s3.len m.get.length 0 (by omega)
  have e2 := r_get G.get G.l3 s3.len m.get.length 0 (by omega)
  simp only [Int.natCast_zero, List.take_zero] at e1 e2
  refine ⟨getF m.get (stepsV m.steps (putF m.put inn m.put.length 0 c)), stepsV m.steps (putF m.put inn m.put.length 0 c), ?_, ?_, s3, by simp [getF]; exact G.l3⟩
  · unfold loop_Machine_Row_2
    rw [if_neg (by omega), h1]
    simp only [Option.bind_some]
    unfold loop_Machine_Row_2_j1
    rw [s1]
    simp only [Option.bind_some]
    unfold loop_Machine_Row_2_j2
    rw [e1]; rfl
  · unfold ref_Looping_Row
    rw [h2]
    simp only [Option.bind_some]
    unfold ref_Looping_Row_j1
    rw [s2]
    simp only [Option.bind_some]
    unfold ref_Looping_Row_j2
    rw [e2]; rfl

theorem newL_bad {m : TLoops} (hs : ∀ x ∈ m.steps, x.e.length ≤ 9000000 ∧ x.f.length ≤ 9000000) (h : (loopsF m).code ≠ 0) : loop_New m = some (.inl (loopsF m)) := by
  unfold loop_New
  rw [loopCheck_eq m hs]
  simp only [Option.bind_some]
  rw [if_pos h]
theorem newL_good {m : TLoops} (hs : ∀ x ∈ m.steps, x.e.length ≤ 1000 ∧ x.f.length ≤ 1000) (G : LoopG m) (h : loopsF m = TFault.mk 0 0) :
    loop_New m = some (.inr (TFault.mk 0 0, m.cells, m.put, m.get, m.steps, 0, 0, List.replicate m.cells.toNat 0)) := by
  have g1 := G.c1
  have g2 := G.c2
  have g3 := G.l1
  have g4 := G.l3
  have g5 := G.ls
  have key : ∀ (k i : Nat), i + k = m.steps.length → loop (fun (l20, x22) => loop_New_l1 m l20 x22) (m.steps.take i, (i : Int)) = some m.steps := by
    intro k
    induction k with
    | zero =>
      intro i hi
      have : i = m.steps.length := by omega
      subst this
      rw [List.take_length]
      exact loop_done (by show loop_New_l1 _ _ _ = _; unfold loop_New_l1; rw [if_neg (not_ltI _)])
    | succ k ih =>
      intro i hi
      have hlt : i < m.steps.length := by omega
      obtain ⟨q1, q2⟩ := hs _ (getD_mem hlt)
      rw [loop_next (s' := (m.steps.take (i + 1), ((i + 1 : Nat) : Int))) (by
        show loop_New_l1 _ _ _ = _
        unfold loop_New_l1
        rw [if_pos (ltI hlt), Int.toNat_natCast, if_pos (inI hlt), clone_push _ (by omega), clone_push _ (by omega)]
        simp only [Option.bind_some]
        rw [if_pos (roomL (by simp; omega) (by omega)), wrs i (by omega), take_step _ i hlt]
        rfl)]
      exact ih (i + 1) (by omega)
  have hk := key m.steps.length 0 (by omega)
  simp only [List.take_zero, Int.natCast_zero] at hk
  unfold loop_New
  rw [loopCheck_eq m (fun x hx => by have := hs x hx; omega), h]
  simp only [Option.bind_some]
  rw [if_neg (by simp), cloneL_int _ (by omega), cloneL_int _ (by omega)]
  simp only [Option.bind_some]
  rw [hk]
  simp only [Option.bind_some]
  unfold loop_New_j1
  rw [if_pos ⟨by omega, roomL (by omega) (by omega)⟩]

theorem samePush_refl (l : List TPush) (hl : l.length ≤ 9000000) : ref_samePush l l = some true := by
  unfold ref_samePush
  rw [if_neg (by simp), loop_upto l.length (fun _ => none) ()]
  · rw [upto_none (fun _ _ => rfl)]; rfl
  · intro i hi
    unfold ref_samePush_l1
    rw [if_pos (ltI hi), if_pos ⟨inI hi, inI hi⟩, if_pos (by simp), wrs i (by omega)]
  · unfold ref_samePush_l1; rw [if_neg (not_ltI _)]

theorem sameLoops_refl (m : TLoops) (h1 : m.put.length ≤ 9000000) (h2 : m.get.length ≤ 9000000) (h3 : m.steps.length ≤ 9000000) (hs : ∀ x ∈ m.steps, x.e.length ≤ 9000000 ∧ x.f.length ≤ 9000000) : ref_SameLoops m m = some true := by
  unfold ref_SameLoops
  rw [if_neg (by simp), sameInts_refl _ h1]
  simp only [Option.bind_some, if_true]
  rw [sameInts_refl _ h2]
  simp only [Option.bind_some, if_true]
  rw [if_neg (by simp), loop_upto m.steps.length (fun _ => none) ()]
  · rw [upto_none (fun _ _ => rfl)]; rfl
  · intro i hi
    obtain ⟨q1, q2⟩ := hs _ (getD_mem hi)
    unfold ref_SameLoops_l1
    rw [if_pos (ltI hi), if_pos ⟨inI hi, inI hi⟩, Int.toNat_natCast, if_neg (by simp), if_neg (by simp), if_neg (by simp), if_neg (by simp), samePush_refl _ q1, samePush_refl _ q2, wrs i (by omega)]
    simp
  · unfold ref_SameLoops_l1; rw [if_neg (not_ltI _)]

theorem law_LoopRows_true (m : TLoops) (rows : List (List Int)) (hm : m.ok) (hr : okL (okL (okI .i64)) rows) (hs : m.sz + (szL (szL szI)) rows ≤ 1048576) : ∃ fuel, law_LoopRows fuel m rows = some true := by
  refine ⟨24, ?_⟩
  have z4 := szL_len TLoop.sz_pos m.steps
  have z5 := szL_len (f := szL (α := Int) szI) (fun l => by unfold szL; omega) rows
  unfold TLoops.sz at hs
  obtain ⟨b, hg, hb⟩ := great_eq m (by omega)
  obtain ⟨b2, hg2, hrows⟩ := rowsGreat_eq rows (by omega)
  unfold law_LoopRows
  rw [loopBegun_true, hg]
  simp only [Option.bind_some, if_true]
  cases b with
  | true => rfl
  | false =>
  obtain ⟨h1, h2, h3, h4⟩ := hb rfl
  rw [if_neg (by simp), hg2]
  simp only [Option.bind_some]
  cases b2 with
  | true => rfl
  | false =>
  obtain ⟨q1, q2⟩ := hrows rfl
  have hst : ∀ x ∈ m.steps, x.e.length ≤ 1000 ∧ x.f.length ≤ 1000 := by
    intro x hx
    obtain ⟨i, hi, he⟩ := List.getElem_of_mem hx
    have := h4 i hi
    rw [show m.steps.getD i default = x by simp [List.getD, hi, he]] at this
    exact this
  have hst2 : ∀ x ∈ m.steps, x.e.length ≤ 9000000 ∧ x.f.length ≤ 9000000 := fun x hx => by have := hst x hx; omega
  rw [if_neg (by simp), copyLoops_eq m h1 h2 h3 h4, copyRows_eq rows q1 q2]
  simp only [Option.bind_some]
  by_cases h0 : (loopsF m).code = 0
  case neg =>
    rw [newL_bad hst2 h0]
    simp only [Option.bind_some, Sum.elim_inl]
    rw [loopsFault_eq m hst2]
    simp only [Option.bind_some]
    rw [if_pos ⟨trivial, trivial⟩, if_pos h0]
  obtain ⟨G, hF⟩ := loopG_of h0
  have gc1 := G.c1
  have gc2 := G.c2
  rw [newL_good hst G hF]
  simp only [Option.bind_some, Sum.elim_inr]
  rw [loopsFault_eq m hst2, hF]
  simp only [Option.bind_some]
  rw [if_pos ⟨trivial, trivial⟩, if_neg (by simp)]
  have hbeg : ref_BeginLoops m = some (m.cells, m.put, m.get, m.steps, List.replicate m.cells.toNat 0) := by
    unfold ref_BeginLoops
    rw [if_pos ⟨by omega, roomL (by omega) (by omega)⟩]
  rw [hbeg]
  simp only [Option.bind_some]
  have hfin : ∀ z44 z45, law_LoopRows_j2 m rows m rows z44 z45 = some true := by
    intro z44 z45
    unfold law_LoopRows_j2
    rw [sameLoops_refl m (by omega) (by omega) (by omega) hst2]
    simp only [Option.bind_some, if_true]
    rw [sameRows_refl rows q1 q2]; rfl
  have key : ∀ (k i : Nat) (c : List Int), i + k = rows.length → CGood m.cells c →
      ∃ z44 z45, loop (fun (l34, l35, x36) => law_LoopRows_l2 24 m rows rows (TFault.mk 0 0, m.cells, m.put, m.get, m.steps, 0, 0, List.replicate m.cells.toNat 0) (m.cells, m.put, m.get, m.steps, List.replicate m.cells.toNat 0) l34 l35 x36) (c, c, (i : Int)) = some (.inl (z44, z45)) := by
    intro k
    induction k with
    | zero =>
      intro i c hi _
      have : i = rows.length := by omega
      subst this
      exact ⟨c, c, loop_done (by show law_LoopRows_l2 _ _ _ _ _ _ _ _ _ = _; unfold law_LoopRows_l2; rw [if_neg (not_ltI _)])⟩
    | succ k ih =>
      intro i c hi g
      have hlt : i < rows.length := by omega
      have gl := g.len
      have j3 : ∀ (out : List Int) (F : TFault) (c' : List Int), CGood m.cells c' → law_LoopRows_j3 (TFault.mk 0 0, m.cells, m.put, m.get, m.steps, 0, 0, List.replicate m.cells.toNat 0) (i : Int) (out, F, c') c' = some (.inl (c', c', ((i + 1 : Nat) : Int))) := by
        intro out F c' g'
        have gl' := g'.len
        unfold law_LoopRows_j3 loop_Machine_Cells
        rw [clone64 c' (by omega)]
        simp only [Option.bind_some]
        rw [sameLongs2_refl c' (by omega)]
        simp only [Option.bind_some, if_true]
        rw [wrs i (by omega)]
      by_cases hl : ((rows.getD i default).length : Int) = (m.put.length : Int)
      · obtain ⟨out, c', e1, e2, g', hout⟩ := rowL_eq G hm 24 (Nat.le_refl _) (rows.getD i default) (row_ok hr hlt) c g (by omega)
        obtain ⟨z1, z2, h⟩ := ih (i + 1) c' (by omega) g'
        refine ⟨z1, z2, ?_⟩
        rw [← h]
        refine loop_next ?_
        show law_LoopRows_l2 _ _ _ _ _ _ _ _ _ = _
        unfold law_LoopRows_l2
        rw [if_pos (ltI hlt), if_pos (inI hlt), Int.toNat_natCast]
        simp only [e1, Option.bind_some]
        rw [if_pos (inI hlt), if_neg (fun h => h hl)]
        simp only [e2, Option.bind_some]
        rw [if_neg (by simp), sameLongs_refl out (by omega)]
        simp only [Option.bind_some, if_true]
        exact j3 out _ c' g'
      · obtain ⟨z1, z2, h⟩ := ih (i + 1) c (by omega) g
        refine ⟨z1, z2, ?_⟩
        rw [← h]
        refine loop_next ?_
        show law_LoopRows_l2 _ _ _ _ _ _ _ _ _ = _
        unfold law_LoopRows_l2
        have e1 : loop_Machine_Row_2 (rows.getD i default) m.cells m.put m.get m.steps c = some ([], TFault.mk 17 (-1), c) := by
          unfold loop_Machine_Row_2
          rw [if_pos hl]
        rw [if_pos (ltI hlt), if_pos (inI hlt), Int.toNat_natCast]
        simp only [e1, Option.bind_some]
        rw [if_pos (inI hlt), if_pos hl, if_pos ⟨trivial, trivial⟩, if_neg (by simp)]
        exact j3 [] _ c g
  obtain ⟨z44, z45, h⟩ := key rows.length 0 (List.replicate m.cells.toNat 0) (by omega) ⟨by simp; omega, fun y hy => by rw [(List.mem_replicate.1 hy).2]; exact okI_zero⟩
  simp only [Int.natCast_zero] at h
  rw [h]
  simp only [Option.bind_some, Sum.elim_inl]
  exact hfin _ _
end Pam
