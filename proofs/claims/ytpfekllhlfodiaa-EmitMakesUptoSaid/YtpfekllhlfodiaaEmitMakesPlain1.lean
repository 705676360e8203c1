/- Trees of looping code: both tell the same trees good. -/
import Derived.Test.YtpfekllhlfodiaaEmitMakesFun1
import Derived.Test.YtpfekllhlfodiaaWide1
set_option linter.all false
namespace Pam
open Go

def takesL (k : Int) : Int := if 1 ≤ k ∧ k ≤ 12 then 2 else if k = 13 ∨ k = 14 then 1 else 0
theorem lop_eq (k : Int) : ∃ a b, kinds_Op k = some (a, b, takesL k) := by
  unfold kinds_Op takesL
  repeat' split
  all_goals first
    | exact ⟨_, _, rfl⟩
    | (exfalso; omega)
theorem lopOf_eq (k : Int) : ∃ a b, ref_OpOf k = some (a, b, takesL k) := by
  unfold ref_OpOf
  by_cases h1 : k < 1
  · rw [if_pos h1]; exact ⟨0, 0, by unfold takesL; rw [if_neg (by omega), if_neg (by omega)]⟩
  · rw [if_neg h1]
    by_cases h2 : k > 14
    · rw [if_pos h2]; exact ⟨0, 0, by unfold takesL; rw [if_neg (by omega), if_neg (by omega)]⟩
    · rw [if_neg h2]
      have hg : (0 ≤ k ∧ k < (([63, 105, 105, 105, 105, 105, 105, 105, 105, 105, 98, 98, 98, 105, 98] : List UInt8).length : Int)) ∧ (0 ≤ k ∧ k < (([63, 105, 105, 105, 105, 105, 105, 105, 98, 98, 98, 98, 98, 105, 98] : List UInt8).length : Int)) := by
        simp only [List.length_cons, List.length_nil]; omega
      by_cases h3 : k ≥ 13
      · rw [if_pos h3]; unfold ref_OpOf_j1; rw [if_pos hg]; exact ⟨_, _, by unfold takesL; rw [if_neg (by omega), if_pos (by omega)]⟩
      · rw [if_neg h3]; unfold ref_OpOf_j1; rw [if_pos hg]; exact ⟨_, _, by unfold takesL; rw [if_pos (by omega)]⟩

def insideB (cells a n : Int) : Bool := decide (0 ≤ a ∧ 1 ≤ n ∧ a + n ≤ cells)
theorem inside_eq (m : TLoops) (a n : Int) (h1 : 1 ≤ m.cells) (h2 : m.cells ≤ 6000) : loop_inside m a n = some (insideB m.cells a n) := by
  unfold loop_inside insideB
  by_cases a1 : a ≥ 0
  · rw [if_pos a1]
    by_cases a2 : n ≥ 1
    · rw [if_pos a2]
      by_cases a3 : n ≤ m.cells
      · rw [if_pos a3, wr (by omega) (by omega)]; congr 1; rw [decide_eq_decide]; omega
      · rw [if_neg a3]; congr 1; symm; rw [decide_eq_false_iff_not]; omega
    · rw [if_neg a2]; congr 1; symm; rw [decide_eq_false_iff_not]; omega
  · rw [if_neg a1]; congr 1; symm; rw [decide_eq_false_iff_not]; omega
theorem there_eq (m : TLoops) (a n : Int) (h1 : 1 ≤ m.cells) (h2 : m.cells ≤ 6000) : ref_there m a n = some (insideB m.cells a n) := by
  unfold ref_there insideB
  by_cases a1 : a ≥ 0
  · rw [if_pos a1]
    by_cases a2 : a < m.cells
    · rw [if_pos a2]
      by_cases a3 : n ≥ 1
      · rw [if_pos a3, wr (by omega) (by omega)]; congr 1; rw [decide_eq_decide]; omega
      · rw [if_neg a3]; congr 1; symm; rw [decide_eq_false_iff_not]; omega
    · rw [if_neg a2]; congr 1; symm; rw [decide_eq_false_iff_not]; omega
  · rw [if_neg a1]; congr 1; symm; rw [decide_eq_false_iff_not]; omega

/-- one step of a tree: how deep it leaves the stack -/
def stepF (cells w : Int) (s : TPush) (d : Int) : Option Int :=
  if s.op = 1 then some (d + 1) else if s.op = 2 then (if insideB cells s.v 1 = true then some (d + 1) else none)
  else if s.op = 3 then (if insideB cells s.v w = true then some (d + 1) else none)
  else if s.op = 4 then (if s.n ≥ (-1000000000000000000) ∧ s.n ≤ 1000000000000000000 then some (d + 1) else none)
  else if s.op = 5 then (if takesL s.k = 1 ∧ ¬ d < 1 then some d else none)
  else if s.op = 6 then (if takesL s.k = 2 ∧ ¬ d < 2 then some (d - 1) else none)
  else if s.op = 7 then (if d < 3 then none else some (d - 2))
  else if s.op = 8 then (if insideB cells s.v s.n = true ∧ ¬ d < 2 then some (d - 1) else none)
  else none
/-- a tree from here on -/
def treeF (cells w : Int) : List TPush → Int → Option Int
  | [], d => some d
  | s :: r, d => match stepF cells w s d with | none => none | some e => treeF cells w r e
theorem stepF_le {cells w : Int} {s : TPush} {d e : Int} (h : stepF cells w s d = some e) (hd : 0 ≤ d) : 0 ≤ e ∧ e ≤ d + 1 := by
  unfold stepF at h
  repeat' split at h
  all_goals first
    | (cases h; done)
    | (simp only [Option.some.injEq] at h; omega)

/-- both loops over a tree -/
theorem tree_loop {l : List TPush} {cells w : Int} {body : Int × Int → Option ((Int × Int) ⊕ (Int ⊕ Bool))} (hl : l.length ≤ 9000000)
    (hs : ∀ (i : Nat) (d : Int), i < l.length → 0 ≤ d → d ≤ i → body (d, (i : Int)) = match stepF cells w (l.getD i default) d with | none => some (.inr (.inr false)) | some e => some (.inl (e, ((i + 1 : Nat) : Int))))
    (he : ∀ d, body (d, (l.length : Int)) = some (.inr (.inl d))) : ∀ (k i : Nat) (d : Int), i + k = l.length → 0 ≤ d → d ≤ i →
    loop body (d, (i : Int)) = some (match treeF cells w (l.drop i) d with | none => .inr false | some e => .inl e)
  | 0, i, d, hi, h1, h2 => by
    have : i = l.length := by omega
    subst this
    rw [List.drop_length]
    exact loop_done (he d)
  | k + 1, i, d, hi, h1, h2 => by
    have hlt : i < l.length := by omega
    have hb := hs i d hlt h1 h2
    have hd : l.drop i = l.getD i default :: l.drop (i + 1) := by
      rw [List.drop_eq_getElem_cons hlt]
      simp [List.getD, hlt]
    rw [hd]
    simp only [treeF]
    cases hf : stepF cells w (l.getD i default) d with
    | none =>
      rw [hf] at hb
      exact loop_done hb
    | some e =>
      rw [hf] at hb
      obtain ⟨g1, g2⟩ := stepF_le hf h1
      rw [loop_next hb]
      exact tree_loop hl hs he k (i + 1) e (by omega) g1 (by omega)

def treeB (cells w : Int) (l : List TPush) : Bool := match treeF cells w l 0 with | none => false | some e => decide (e = 1 ∧ (l.length : Int) ≤ 24)

theorem lbody (m : TLoops) (l : List TPush) (w : Int) (h1 : 1 ≤ m.cells) (h2 : m.cells ≤ 6000) (hl : l.length ≤ 9000000) (i : Nat) (d : Int) (hi : i < l.length) (d1 : 0 ≤ d) (d2 : d ≤ i) :
    loop_tree_l1 m l w d i = match stepF m.cells w (l.getD i default) d with | none => some (.inr (.inr false)) | some e => some (.inl (e, ((i + 1 : Nat) : Int))) := by
  unfold loop_tree_l1
  rw [if_pos (ltI hi), if_pos (inI hi), Int.toNat_natCast, wrs i (by omega)]
  generalize l.getD i default = s
  unfold loop_step loop_step_j1 stepF
  obtain ⟨a, b, hop⟩ := lop_eq s.k
  have ht : takesL s.k = 0 ∨ takesL s.k = 1 ∨ takesL s.k = 2 := by
    unfold takesL
    split
    · exact .inr (.inr rfl)
    · split
      · exact .inr (.inl rfl)
      · exact .inl rfl
  have w0 : IntKind.wrap .i64 (1 - 0) = 1 := wr (by omega) (by omega)
  have w1 : IntKind.wrap .i64 (1 - 1) = 0 := wr (by omega) (by omega)
  have w2 : IntKind.wrap .i64 (1 - 2) = -1 := wr (by omega) (by omega)
  have w3 : IntKind.wrap .i64 (1 - 3) = -2 := wr (by omega) (by omega)
  by_cases o1 : s.op = 1
  · simp only [if_pos o1, Option.bind_some, if_true]
    rw [if_neg (by omega), w0, wr (by omega) (by omega)]
  by_cases o2 : s.op = 2
  · simp only [if_neg o1, if_pos o2, inside_eq m _ _ h1 h2, Option.bind_some]
    cases insideB m.cells s.v 1
    · rfl
    · simp only [if_true]; rw [if_neg (by omega), w0, wr (by omega) (by omega)]
  by_cases o3 : s.op = 3
  · simp only [if_neg o1, if_neg o2, if_pos o3, inside_eq m _ _ h1 h2, Option.bind_some]
    cases insideB m.cells s.v w
    · rfl
    · simp only [if_true]; rw [if_neg (by omega), w0, wr (by omega) (by omega)]
  by_cases o4 : s.op = 4
  · simp only [if_neg o1, if_neg o2, if_neg o3, if_pos o4]
    by_cases c1 : s.n ≥ (-1000000000000000000)
    · rw [if_pos c1]
      simp only [Option.bind_some]
      by_cases c2 : s.n ≤ 1000000000000000000
      · rw [if_pos (decide_eq_true c2), if_pos (And.intro c1 c2), if_neg (by omega), w0, wr (by omega) (by omega)]
      · rw [if_neg (by simpa using c2), if_neg (fun h => c2 h.2)]
    · rw [if_neg c1, if_neg (fun h => c1 h.1)]; rfl
  by_cases o5 : s.op = 5
  · have e : (s.op == 5) = true := by rw [o5]; rfl
    simp only [if_neg o1, if_neg o2, if_neg o3, if_neg o4, if_pos o5, e, if_true, hop, Option.bind_some]
    rw [o5, wr (n := (5 : Int) - 5) (by omega) (by omega), wr (n := (5 : Int) - 5 + 1) (by omega) (by omega)]
    rcases ht with t | t | t <;> rw [t]
    · rfl
    · by_cases c : d < 1
      · rw [if_pos (show ((1 : Int) == 5 - 5 + 1) = true from rfl), if_pos c, if_neg (fun h : (1 : Int) = 1 ∧ ¬ d < 1 => h.2 c)]
      · rw [if_pos (show ((1 : Int) == 5 - 5 + 1) = true from rfl), if_neg c, if_pos (show (1 : Int) = 1 ∧ ¬ d < 1 from ⟨rfl, c⟩), w1, Int.add_zero, wr (by omega) (by omega)]
    · rfl
  by_cases o6 : s.op = 6
  · have e : (s.op == 6) = true := by rw [o6]; rfl
    simp only [if_neg o1, if_neg o2, if_neg o3, if_neg o4, if_neg o5, if_pos o6, e, if_true, hop, Option.bind_some]
    rw [o6, wr (n := (6 : Int) - 5) (by omega) (by omega), wr (n := (6 : Int) - 5 + 1) (by omega) (by omega)]
    rcases ht with t | t | t <;> rw [t]
    · rfl
    · rfl
    · by_cases c : d < 2
      · rw [if_pos (show ((2 : Int) == 6 - 5 + 1) = true from rfl), if_pos c, if_neg (fun h : (2 : Int) = 2 ∧ ¬ d < 2 => h.2 c)]
      · rw [if_pos (show ((2 : Int) == 6 - 5 + 1) = true from rfl), if_neg c, if_pos (show (2 : Int) = 2 ∧ ¬ d < 2 from ⟨rfl, c⟩), w2, show d + -1 = d - 1 by omega, wr (by omega) (by omega)]
  have e : (s.op == 6) = false := by simp [o6]
  simp only [if_neg o1, if_neg o2, if_neg o3, if_neg o4, if_neg o5, if_neg o6, e]
  rw [if_neg (by simp)]
  by_cases o7 : s.op = 7
  · simp only [if_pos o7, Option.bind_some, if_true]
    by_cases c : d < 3
    · rw [if_pos c, if_pos c]
    · rw [if_neg c, if_neg c, w3, show d + -2 = d - 2 by omega, wr (by omega) (by omega)]
  by_cases o8 : s.op = 8
  · simp only [if_neg o7, if_pos o8, inside_eq m _ _ h1 h2, Option.bind_some]
    cases insideB m.cells s.v s.n
    · simp
    · by_cases c : d < 2
      · simp only [if_true]; rw [if_pos c, if_neg (fun h => h.2 c)]
      · simp only [if_true]; rw [if_neg c, if_pos ⟨trivial, c⟩, w2, show d + -1 = d - 1 by omega, wr (by omega) (by omega)]
  · simp only [if_neg o7, if_neg o8, Option.bind_some]
    rfl

theorem rbody (m : TLoops) (l : List TPush) (w : Int) (h1 : 1 ≤ m.cells) (h2 : m.cells ≤ 6000) (hl : l.length ≤ 9000000) (i : Nat) (d : Int) (hi : i < l.length) (d1 : 0 ≤ d) (d2 : d ≤ i) :
    ref_plainTree_l1 m l w d i = match stepF m.cells w (l.getD i default) d with | none => some (.inr (.inr false)) | some e => some (.inl (e, ((i + 1 : Nat) : Int))) := by
  unfold ref_plainTree_l1
  rw [if_pos (ltI hi), if_pos (inI hi), Int.toNat_natCast, wrs i (by omega)]
  generalize l.getD i default = s
  obtain ⟨a, b, hop⟩ := lopOf_eq s.k
  rw [hop, wr (n := d + 1) (by omega) (by omega), wr (n := d - 1) (by omega) (by omega), wr (n := d - 2) (by omega) (by omega)]
  simp only [Option.bind_some, there_eq m _ _ h1 h2]
  unfold stepF
  by_cases o1 : s.op = 1
  · simp only [if_pos o1]
  by_cases o2 : s.op = 2
  · simp only [if_neg o1, if_pos o2]
    cases insideB m.cells s.v 1 <;> rfl
  by_cases o3 : s.op = 3
  · simp only [if_neg o1, if_neg o2, if_pos o3]
    cases insideB m.cells s.v w <;> rfl
  by_cases o4 : s.op = 4
  · simp only [if_neg o1, if_neg o2, if_neg o3, if_pos o4]
    by_cases c1 : s.n < (-1000000000000000000)
    · rw [if_pos c1, if_neg (by omega)]
    · rw [if_neg c1]
      by_cases c2 : s.n > 1000000000000000000
      · rw [if_pos c2, if_neg (by omega)]
      · rw [if_neg c2, if_pos (by omega)]
  by_cases o5 : s.op = 5
  · simp only [if_neg o1, if_neg o2, if_neg o3, if_neg o4, if_pos o5]
    by_cases c1 : takesL s.k = 1
    · by_cases c : d < 1
      · rw [if_neg (fun h => h c1), if_pos c, if_neg (fun h => h.2 c)]
      · rw [if_neg (fun h => h c1), if_neg c, if_pos ⟨c1, c⟩]
    · rw [if_pos c1, if_neg (fun h => c1 h.1)]
  by_cases o6 : s.op = 6
  · simp only [if_neg o1, if_neg o2, if_neg o3, if_neg o4, if_neg o5, if_pos o6]
    by_cases c1 : takesL s.k = 2
    · by_cases c : d < 2
      · rw [if_neg (fun h => h c1), if_pos c, if_neg (fun h => h.2 c)]
      · rw [if_neg (fun h => h c1), if_neg c, if_pos ⟨c1, c⟩]
    · rw [if_pos c1, if_neg (fun h => c1 h.1)]
  by_cases o7 : s.op = 7
  · simp only [if_neg o1, if_neg o2, if_neg o3, if_neg o4, if_neg o5, if_neg o6, if_pos o7]
    by_cases c : d < 3
    · rw [if_pos c, if_pos c]
    · rw [if_neg c, if_neg c]
  by_cases o8 : s.op = 8
  · simp only [if_neg o1, if_neg o2, if_neg o3, if_neg o4, if_neg o5, if_neg o6, if_neg o7, if_pos o8]
    cases insideB m.cells s.v s.n
    · simp
    · by_cases c : d < 2
      · rw [if_pos rfl, if_pos c, if_neg (fun h => h.2 c)]
      · rw [if_pos rfl, if_neg c, if_pos ⟨rfl, c⟩]
  · simp only [if_neg o1, if_neg o2, if_neg o3, if_neg o4, if_neg o5, if_neg o6, if_neg o7, if_neg o8]

theorem tree_eq (m : TLoops) (l : List TPush) (w : Int) (h1 : 1 ≤ m.cells) (h2 : m.cells ≤ 6000) (hl : l.length ≤ 9000000) : loop_tree m l w = some (treeB m.cells w l) := by
  have h := tree_loop (body := fun (x6, x7) => loop_tree_l1 m l w x6 x7) (cells := m.cells) (w := w) hl (fun i d hi d1 d2 => lbody m l w h1 h2 hl i d hi d1 d2) (fun d => by show loop_tree_l1 _ _ _ _ _ = _; unfold loop_tree_l1; rw [if_neg (not_ltI _)]) l.length 0 0 (by omega) (by omega) (by omega)
  simp only [List.drop_zero, Int.natCast_zero] at h
  unfold loop_tree treeB
  rw [h]
  cases treeF m.cells w l 0 with
  | none => rfl
  | some e =>
    simp only [Option.bind_some, Sum.elim_inl]
    unfold loop_tree_j1
    by_cases c : e = 1
    · rw [if_pos c]; simp [c]
    · rw [if_neg c]; simp [c]
theorem plain_eq (m : TLoops) (l : List TPush) (w : Int) (h1 : 1 ≤ m.cells) (h2 : m.cells ≤ 6000) (hl : l.length ≤ 9000000) : ref_plainTree m l w = some (treeB m.cells w l) := by
  have h := tree_loop (body := fun (x6, x7) => ref_plainTree_l1 m l w x6 x7) (cells := m.cells) (w := w) hl (fun i d hi d1 d2 => rbody m l w h1 h2 hl i d hi d1 d2) (fun d => by show ref_plainTree_l1 _ _ _ _ _ = _; unfold ref_plainTree_l1; rw [if_neg (not_ltI _)]) l.length 0 0 (by omega) (by omega) (by omega)
  simp only [List.drop_zero, Int.natCast_zero] at h
  unfold ref_plainTree treeB
  rw [h]
  cases treeF m.cells w l 0 with
  | none => rfl
  | some e =>
    simp only [Option.bind_some, Sum.elim_inl]
    unfold ref_plainTree_j1
    by_cases c : e = 1
    · rw [if_pos c]; simp [c]
    · rw [if_neg c]; simp [c]

/-- a step of looping code is good -/
def stepOk (cells : Int) (x : TLoop) : Bool :=
  if x.op = 1 then insideB cells x.to 1 && treeB cells 1 x.e
  else if (x.op = 2 ∨ x.op = 3 ∨ x.op = 4) ∧ 1 ≤ x.n ∧ x.n ≤ 300 then
    treeB cells x.n x.e && insideB cells x.to (if x.op = 3 then 1 else x.n) && (decide (x.op = 2) || (decide (takesL x.k = 2) && treeB cells 1 x.f))
  else false

theorem fitsL_eq (m : TLoops) (x : TLoop) (h1 : 1 ≤ m.cells) (h2 : m.cells ≤ 6000) (he : x.e.length ≤ 9000000) (hf : x.f.length ≤ 9000000) : loop_fits m x = some (stepOk m.cells x) := by
  unfold loop_fits loop_fits_j1 loop_fits_j2 stepOk
  obtain ⟨a, b, hop⟩ := lop_eq x.k
  rw [hop]
  simp only [Option.bind_some, inside_eq m _ _ h1 h2, tree_eq m _ _ h1 h2 he, tree_eq m _ _ h1 h2 hf]
  by_cases o1 : x.op = 1
  · rw [if_pos o1, if_pos o1]
    cases insideB m.cells x.to 1 <;> rfl
  rw [if_neg o1, if_neg o1]
  have fin : ∀ (w : Int), (x.op = 2 ∨ x.op = 3 ∨ x.op = 4) → w = (if x.op = 3 then 1 else x.n) →
      (if x.n ≥ 1 then if x.n ≤ 300 then if insideB m.cells x.to w = true then if treeB m.cells x.n x.e = true then if x.op = 2 then some true else if takesL x.k = 2 then some (treeB m.cells 1 x.f) else some false else some false else some false else some false else some false) =
      some (if (x.op = 2 ∨ x.op = 3 ∨ x.op = 4) ∧ 1 ≤ x.n ∧ x.n ≤ 300 then treeB m.cells x.n x.e && insideB m.cells x.to (if x.op = 3 then 1 else x.n) && (decide (x.op = 2) || (decide (takesL x.k = 2) && treeB m.cells 1 x.f)) else false) := by
    intro w ho hw
    rw [← hw]
    by_cases n1 : x.n ≥ 1
    · by_cases n2 : x.n ≤ 300
      · rw [if_pos n1, if_pos n2, if_pos (show (x.op = 2 ∨ x.op = 3 ∨ x.op = 4) ∧ 1 ≤ x.n ∧ x.n ≤ 300 from ⟨ho, n1, n2⟩)]
        cases insideB m.cells x.to w
        · simp
        · cases treeB m.cells x.n x.e
          · simp
          · by_cases o2 : x.op = 2
            · simp [o2]
            · by_cases t : takesL x.k = 2
              · simp [o2, t]
              · simp [o2, t]
      · rw [if_pos n1, if_neg n2, if_neg (fun h => n2 h.2.2)]
    · rw [if_neg n1, if_neg (fun h => n1 h.2.1)]
  by_cases o2 : x.op = 2
  · have e : (x.op == 2) = true := by rw [o2]; rfl
    rw [if_pos o2, if_pos e, if_neg (by omega : ¬ x.op = 3)]
    exact fin x.n (.inl o2) (by rw [if_neg (by omega)])
  rw [if_neg o2]
  by_cases o4 : x.op = 4
  · have e : (x.op == 4) = true := by rw [o4]; rfl
    rw [if_pos o4, if_pos e, if_neg (by omega : ¬ x.op = 3)]
    exact fin x.n (.inr (.inr o4)) (by rw [if_neg (by omega)])
  rw [if_neg o4]
  by_cases o3 : x.op = 3
  · have e : (x.op == 3) = true := by rw [o3]; rfl
    rw [if_pos e, if_pos o3]
    exact fin 1 (.inr (.inl o3)) (by rw [if_pos o3])
  · rw [if_neg (by simp [o3]), if_neg (by omega)]

theorem loopOK_eq (m : TLoops) (x : TLoop) (h1 : 1 ≤ m.cells) (h2 : m.cells ≤ 6000) (he : x.e.length ≤ 9000000) (hf : x.f.length ≤ 9000000) : ref_loopOK m x = some (stepOk m.cells x) := by
  unfold ref_loopOK ref_loopOK_j1 stepOk
  obtain ⟨a, b, hop⟩ := lopOf_eq x.k
  rw [hop]
  simp only [Option.bind_some, there_eq m _ _ h1 h2, plain_eq m _ _ h1 h2 he, plain_eq m _ _ h1 h2 hf]
  by_cases o1 : x.op = 1
  · rw [if_pos o1, if_pos o1]
    cases insideB m.cells x.to 1 <;> rfl
  rw [if_neg o1, if_neg o1]
  by_cases c1 : x.op < 1
  · rw [if_pos c1, if_neg (show ¬ ((x.op = 2 ∨ x.op = 3 ∨ x.op = 4) ∧ 1 ≤ x.n ∧ x.n ≤ 300) by omega)]
  rw [if_neg c1]
  by_cases c2 : x.op > 4
  · rw [if_pos c2, if_neg (show ¬ ((x.op = 2 ∨ x.op = 3 ∨ x.op = 4) ∧ 1 ≤ x.n ∧ x.n ≤ 300) by omega)]
  rw [if_neg c2]
  by_cases c3 : x.n < 1
  · rw [if_pos c3, if_neg (show ¬ ((x.op = 2 ∨ x.op = 3 ∨ x.op = 4) ∧ 1 ≤ x.n ∧ x.n ≤ 300) by omega)]
  rw [if_neg c3]
  by_cases c4 : x.n > 300
  · rw [if_pos c4, if_neg (show ¬ ((x.op = 2 ∨ x.op = 3 ∨ x.op = 4) ∧ 1 ≤ x.n ∧ x.n ≤ 300) by omega)]
  rw [if_neg c4, if_pos (show (x.op = 2 ∨ x.op = 3 ∨ x.op = 4) ∧ 1 ≤ x.n ∧ x.n ≤ 300 by omega)]
  cases treeB m.cells x.n x.e
  · simp
  · by_cases o3 : x.op = 3
    · rw [if_pos rfl, if_pos o3, if_pos o3]
      cases insideB m.cells x.to 1
      · simp
      · by_cases t : takesL x.k = 2
        · simp [o3, t]
        · simp [o3, t]
    · rw [if_pos rfl, if_neg o3, if_neg o3]
      cases insideB m.cells x.to x.n
      · simp
      · by_cases o2 : x.op = 2
        · simp [o2]
        · by_cases t : takesL x.k = 2
          · simp [o2, t]
          · simp [o2, t]
end Pam

/- The check of looping code is as the document says. -/
namespace Pam
open Go

theorem roomL {n b : Nat} (h : n ≤ 200000) (hb : b ≤ 1000) : room n b := by
  have h1 : n * b ≤ 200000 * 1000 := Nat.mul_le_mul h hb
  exact ⟨by omega, by simp only [maxLen]; omega⟩

theorem upto_all {α Z : Type} [Inhabited α] (l : List α) (p : α → Bool) (z : Z) : upto l.length (fun i => if p (l.getD i default) = true then none else some z) () = if l.all p = true then .inl () else .inr z := by
  rcases upto_cases l.length (fun i => if p (l.getD i default) = true then none else some z) () with ⟨e, h⟩ | ⟨i, z', hi, hf, e⟩
  · rw [e, if_pos]
    rw [all_getD, decide_eq_true_eq]
    intro i hi
    have := h i hi
    split at this
    · assumption
    · cases this
  · rw [e, if_neg]
    · split at hf
      · cases hf
      · simp only [Option.some.injEq] at hf; rw [hf]
    · rw [all_getD, decide_eq_true_eq]
      intro h
      rw [if_pos (h i hi)] at hf
      cases hf

def stepsF (m : TLoops) : Unit ⊕ TFault := upto m.steps.length (fun i => if stepOk m.cells (m.steps.getD i default) = true then none else some (TFault.mk 4 i)) ()
def loopsF (m : TLoops) : TFault :=
  if m.cells < 1 ∨ m.cells > 6000 then TFault.mk 13 (-1)
  else if (m.put.length : Int) > 6000 ∨ (m.get.length : Int) > 120000 ∨ (m.steps.length : Int) > 1200 then TFault.mk 7 (-1)
  else if (m.put ++ m.get).all (fun a => insideB m.cells a 1) = true then (match stepsF m with | .inl _ => TFault.mk 0 0 | .inr z => z)
  else TFault.mk 16 (-1)

theorem grow_eq (n : Nat) (h : n ≤ 200000) : slices_Grow_int_int (n : Int) = some [] := by
  have w0 : IntKind.wrap .i64 (0 - 0) = 0 := wr (by omega) (by omega)
  unfold slices_Grow_int_int
  rw [if_neg (by omega), w0, Int.sub_zero, wr (by omega) (by omega)]
  by_cases z : (n : Int) > 0
  · rw [if_pos z, if_pos ⟨by omega, roomL (by omega) (by omega)⟩, if_pos ⟨by omega, by omega⟩, List.take_zero]
  · rw [if_neg z]

theorem concat_eq (a b : List Int) (ha : a.length ≤ 6000) (hb : b.length ≤ 120000) : slices_Concat_int_int (lit [a, b]) = some (a ++ b) := by
  unfold slices_Concat_int_int
  rw [show lit ([a, b] : List (List Int)) = [a, b] from rfl]
  have hlen : (([a, b] : List (List Int)).length : Int) = 2 := rfl
  have e1 : IntKind.wrap .i64 (0 + (a.length : Int)) = (a.length : Int) := by rw [Int.zero_add]; exact wr (by omega) (by omega)
  have e2 : IntKind.wrap .i64 ((a.length : Int) + (b.length : Int)) = ((a.length + b.length : Nat) : Int) := by rw [wr (by omega) (by omega)]; omega
  have s1 : slices_Concat_int_int_l2 [a, b] 0 0 = some (.inl ((a.length : Int), 1)) := by
    unfold slices_Concat_int_int_l2
    rw [if_pos (by rw [hlen]; omega), if_pos (by rw [hlen]; omega)]
    show (if IntKind.wrap .i64 (0 + (a.length : Int)) < 0 then none else (some (.inl (IntKind.wrap .i64 (0 + (a.length : Int)), IntKind.wrap .i64 (0 + 1))) : Option ((Int × Int) ⊕ Int))) = _
    rw [e1, if_neg (by omega)]; rfl
  have s2 : slices_Concat_int_int_l2 [a, b] (a.length : Int) 1 = some (.inl (((a.length + b.length : Nat) : Int), 2)) := by
    unfold slices_Concat_int_int_l2
    rw [if_pos (by rw [hlen]; omega), if_pos (by rw [hlen]; omega)]
    show (if IntKind.wrap .i64 ((a.length : Int) + (b.length : Int)) < 0 then none else (some (.inl (IntKind.wrap .i64 ((a.length : Int) + (b.length : Int)), IntKind.wrap .i64 (1 + 1))) : Option ((Int × Int) ⊕ Int))) = _
    rw [e2, if_neg (by omega)]; rfl
  have s3 : ∀ x, slices_Concat_int_int_l2 [a, b] x 2 = some (.inr x) := by
    intro x
    unfold slices_Concat_int_int_l2
    rw [if_neg (by rw [hlen]; omega)]
  rw [loop_next (s' := ((a.length : Int), 1)) s1, loop_next (s' := (((a.length + b.length : Nat) : Int), 2)) s2, loop_done (s3 _)]
  simp only [Option.bind_some]
  unfold slices_Concat_int_int_j1
  rw [grow_eq _ (by omega)]
  simp only [Option.bind_some]
  have t1 : slices_Concat_int_int_l1 [a, b] [] 0 = some (.inl (a, 1)) := by
    unfold slices_Concat_int_int_l1
    rw [if_pos (by rw [hlen]; omega), if_pos (by rw [hlen]; omega)]
    show (if room (0 + a.length) 8 then (some (.inl ([] ++ a, IntKind.wrap .i64 (0 + 1))) : Option ((List Int × Int) ⊕ List Int)) else none) = _
    rw [if_pos (roomL (by omega) (by omega))]; rfl
  have t2 : slices_Concat_int_int_l1 [a, b] a 1 = some (.inl (a ++ b, 2)) := by
    unfold slices_Concat_int_int_l1
    rw [if_pos (by rw [hlen]; omega), if_pos (by rw [hlen]; omega)]
    show (if room (a.length + b.length) 8 then (some (.inl (a ++ b, IntKind.wrap .i64 (1 + 1))) : Option ((List Int × Int) ⊕ List Int)) else none) = _
    rw [if_pos (roomL (by omega) (by omega))]; rfl
  have t3 : slices_Concat_int_int_l1 [a, b] (a ++ b) 2 = some (.inr (a ++ b)) := by
    unfold slices_Concat_int_int_l1
    rw [if_neg (by rw [hlen]; omega)]
  rw [loop_next (s' := (a, 1)) t1, loop_next (s' := (a ++ b, 2)) t2, loop_done t3]
  rfl

theorem getD_len (m : TLoops) (hs : ∀ x ∈ m.steps, x.e.length ≤ 9000000 ∧ x.f.length ≤ 9000000) (i : Nat) (hi : i < m.steps.length) : (m.steps.getD i default).e.length ≤ 9000000 ∧ (m.steps.getD i default).f.length ≤ 9000000 := hs _ (getD_mem hi)

theorem loopCheck_eq (m : TLoops) (hs : ∀ x ∈ m.steps, x.e.length ≤ 9000000 ∧ x.f.length ≤ 9000000) : loop_Check m = some (loopsF m) := by
  unfold loop_Check loopsF
  by_cases c1 : m.cells < 1
  · rw [if_pos c1, if_pos (.inl c1)]
  rw [if_neg c1]
  by_cases c2 : m.cells > 6000
  · rw [if_pos c2, if_pos (.inr c2)]
  rw [if_neg c2, if_neg (by omega : ¬ (m.cells < 1 ∨ m.cells > 6000))]
  by_cases c3 : (m.put.length : Int) > 6000
  · rw [if_pos c3, if_pos (.inl c3)]
  rw [if_neg c3]
  by_cases c4 : (m.get.length : Int) > 120000
  · rw [if_pos c4, if_pos (.inr (.inl c4))]
  rw [if_neg c4]
  by_cases c5 : (m.steps.length : Int) > 1200
  · rw [if_pos c5, if_pos (.inr (.inr c5))]
  rw [if_neg c5, if_neg (by omega : ¬ ((m.put.length : Int) > 6000 ∨ (m.get.length : Int) > 120000 ∨ (m.steps.length : Int) > 1200))]
  rw [concat_eq _ _ (by omega) (by omega)]
  simp only [Option.bind_some]
  rw [loop_upto (m.put ++ m.get).length (fun i => if insideB m.cells ((m.put ++ m.get).getD i default) 1 = true then none else some (TFault.mk 16 (-1))) ()]
  · rw [upto_all (m.put ++ m.get) (fun a => insideB m.cells a 1)]
    cases hh : (m.put ++ m.get).all (fun a => insideB m.cells a 1)
    · rfl
    · simp only [Option.bind_some, if_true, Sum.elim_inl]
      unfold loop_Check_j1
      rw [loop_upto m.steps.length (fun i => if stepOk m.cells (m.steps.getD i default) = true then none else some (TFault.mk 4 i)) ()]
      · show Option.bind (some (stepsF m)) _ = _
        cases stepsF m <;> rfl
      · intro i hi
        obtain ⟨l1, l2⟩ := getD_len m hs i hi
        unfold loop_Check_l1
        rw [if_pos (ltI hi), if_pos (inI hi), Int.toNat_natCast, fitsL_eq m _ (by omega) (by omega) l1 l2, wrs i (by omega)]
        simp only [Option.bind_some]
        cases stepOk m.cells (m.steps.getD i default) <;> rfl
      · unfold loop_Check_l1; rw [if_neg (not_ltI _)]
  · intro i hi
    unfold loop_Check_l2
    rw [if_pos (ltI hi), if_pos (inI hi), Int.toNat_natCast, inside_eq m _ _ (by omega) (by omega), wrs i (by simp at hi; omega)]
    simp only [Option.bind_some]
    cases insideB m.cells ((m.put ++ m.get).getD i default) 1 <;> rfl
  · unfold loop_Check_l2; rw [if_neg (not_ltI _)]

theorem loopsFault_eq (m : TLoops) (hs : ∀ x ∈ m.steps, x.e.length ≤ 9000000 ∧ x.f.length ≤ 9000000) : ref_LoopsFault m = some (loopsF m) := by
  unfold ref_LoopsFault loopsF ref_F
  simp only [Option.bind_some]
  by_cases c1 : m.cells < 1
  · rw [if_pos c1, if_pos (.inl c1)]
  rw [if_neg c1]
  by_cases c2 : m.cells > 6000
  · rw [if_pos c2, if_pos (.inr c2)]
  rw [if_neg c2, if_neg (by omega : ¬ (m.cells < 1 ∨ m.cells > 6000))]
  by_cases c3 : (m.put.length : Int) > 6000
  · rw [if_pos c3, if_pos (.inl c3)]
  rw [if_neg c3]
  by_cases c4 : (m.get.length : Int) > 120000
  · rw [if_pos c4, if_pos (.inr (.inl c4))]
  rw [if_neg c4]
  by_cases c5 : (m.steps.length : Int) > 1200
  · rw [if_pos c5, if_pos (.inr (.inr c5))]
  rw [if_neg c5, if_neg (by omega : ¬ ((m.put.length : Int) > 6000 ∨ (m.get.length : Int) > 120000 ∨ (m.steps.length : Int) > 1200))]
  rw [loop_upto m.put.length (fun i => if insideB m.cells (m.put.getD i default) 1 = true then none else some (TFault.mk 16 (-1))) ()]
  · rw [upto_all m.put (fun a => insideB m.cells a 1), List.all_append]
    cases hh : m.put.all (fun a => insideB m.cells a 1)
    · rfl
    · simp only [Option.bind_some, if_true, Sum.elim_inl, Bool.true_and]
      unfold ref_LoopsFault_j1
      rw [loop_upto m.get.length (fun i => if insideB m.cells (m.get.getD i default) 1 = true then none else some (TFault.mk 16 (-1))) ()]
      · rw [upto_all m.get (fun a => insideB m.cells a 1)]
        cases hh : m.get.all (fun a => insideB m.cells a 1)
        · rfl
        · simp only [Option.bind_some, if_true, Sum.elim_inl]
          unfold ref_LoopsFault_j2
          rw [loop_upto m.steps.length (fun i => if stepOk m.cells (m.steps.getD i default) = true then none else some (TFault.mk 4 i)) ()]
          · show Option.bind (some (stepsF m)) _ = _
            cases stepsF m <;> rfl
          · intro i hi
            obtain ⟨l1, l2⟩ := getD_len m hs i hi
            unfold ref_LoopsFault_l1 ref_F
            rw [if_pos (ltI hi), if_pos (inI hi), Int.toNat_natCast, loopOK_eq m _ (by omega) (by omega) l1 l2, wrs i (by omega)]
            simp only [Option.bind_some]
            cases stepOk m.cells (m.steps.getD i default) <;> rfl
          · unfold ref_LoopsFault_l1; rw [if_neg (not_ltI _)]
      · intro i hi
        unfold ref_LoopsFault_l2 ref_F
        rw [if_pos (ltI hi), if_pos (inI hi), Int.toNat_natCast, there_eq m _ _ (by omega) (by omega), wrs i (by omega)]
        simp only [Option.bind_some]
        cases insideB m.cells (m.get.getD i default) 1 <;> rfl
      · unfold ref_LoopsFault_l2; rw [if_neg (not_ltI _)]
  · intro i hi
    unfold ref_LoopsFault_l3 ref_F
    rw [if_pos (ltI hi), if_pos (inI hi), Int.toNat_natCast, there_eq m _ _ (by omega) (by omega), wrs i (by omega)]
    simp only [Option.bind_some]
    cases insideB m.cells (m.put.getD i default) 1 <;> rfl
  · unfold ref_LoopsFault_l3; rw [if_neg (not_ltI _)]
end Pam

/- What is emitted for trees, steps and loops: the program and the document write the same. -/
namespace Pam
open Go

/-- registers that so much code needs -/
def regsL (x : Int) (l : List TIns) : Int := l.foldl (fun x i => if IntKind.wrap .i64 (i.r_ + 1) > x then IntKind.wrap .i64 (i.r_ + 1) else x) x
theorem regsL_append (x : Int) (a b : List TIns) : regsL x (a ++ b) = regsL (regsL x a) b := by unfold regsL; rw [List.foldl_append]

theorem room48 (n : Nat) (h : n ≤ 1000000) : room n 48 := by
  unfold room
  have : maxLen = 9223372036854775807 := rfl
  omega
theorem wr6 (i : Nat) (h : i < 1000000) : IntKind.wrap .i64 ((i : Int) + 1) = ((i + 1 : Nat) : Int) := wrs i (by omega)
theorem wsm {x : Int} (h : -1000000 ≤ x ∧ x ≤ 1000000) : IntKind.wrap .i64 x = x := wr (by omega) (by omega)

theorem put_eq (p : List TIns) (x : Int) (l : List TIns) (h : l.length + p.length ≤ 900000) : emit_emitter_put p x l = some (regsL x p, l ++ p) := by
  unfold emit_emitter_put
  obtain ⟨h1, _⟩ := loop_fold (A := Int × List TIns) (T := TIns) (O := Int × List TIns) (S := Int × List TIns × Int) (fun a i => (a.1, a.2, i)) (body := fun s => emit_emitter_put_l1 p s.1 s.2.1 s.2.2) p
    (fun a t => (if IntKind.wrap .i64 (t.r_ + 1) > a.1 then IntKind.wrap .i64 (t.r_ + 1) else a.1, a.2 ++ [t])) (fun i a => a.2.length = l.length + i) (fun a => a) (x, l) (by simp)
    (by
      intro i a hi hI
      refine ⟨?_, by simp only [List.length_append, List.length_cons, List.length_nil]; omega⟩
      show emit_emitter_put_l1 p a.1 a.2 (i : Int) = _
      unfold emit_emitter_put_l1
      rw [if_pos (ltI hi), if_pos (inI hi), if_pos (room48 _ (by omega)), wr6 i (by omega)]
      rfl)
    (by
      intro a _
      show emit_emitter_put_l1 p a.1 a.2 (p.length : Int) = _
      unfold emit_emitter_put_l1
      rw [if_neg (not_ltI _)])
  show (loop (fun s : Int × List TIns × Int => emit_emitter_put_l1 p s.1 s.2.1 s.2.2) (x, l, 0)).bind (fun z19 => some z19) = _
  rw [h1]
  have key : ∀ (p : List TIns) (x : Int) (l : List TIns), p.foldl (fun (a : Int × List TIns) t => (if IntKind.wrap .i64 (t.r_ + 1) > a.1 then IntKind.wrap .i64 (t.r_ + 1) else a.1, a.2 ++ [t])) (x, l) = (regsL x p, l ++ p) := by
    intro p
    induction p with
    | nil => intro x l; simp [regsL]
    | cons t p ih =>
      intro x l
      rw [List.foldl_cons, ih]
      simp [regsL]
  rw [key]
  rfl

theorem rput_eq (a b c d e f : Int) (l : List TIns) (h : l.length ≤ 900000) : ref_emitting_put a b c d e f l = some (l ++ [TIns.mk a b c d e f]) := by
  unfold ref_emitting_put
  rw [if_pos (room48 _ (by omega))]
  rfl

/-- what a step of a tree is written as: r: the first free register -/
def insOf (n r : Int) (p : TPush) : List TIns :=
  if p.op = 1 then [TIns.mk 1 0 r 0 0 p.n]
  else if p.op = 2 then [TIns.mk 2 0 r 0 0 p.v]
  else if p.op = 3 then (if n = 0 then [TIns.mk 2 0 r 0 0 p.v] else [TIns.mk 3 0 r 0 n p.v])
  else if p.op = 4 then (if n = 0 then [TIns.mk 1 0 r 0 0 p.n] else [TIns.mk 1 0 r 0 0 p.n, TIns.mk 7 1 r r 0 0])
  else if p.op = 5 then [TIns.mk 6 p.k (r - 1) (r - 1) 0 0]
  else if p.op = 6 then [TIns.mk 7 p.k (r - 2) (r - 2) (r - 1) 0]
  else if p.op = 7 then [TIns.mk 8 0 (r - 3) (r - 2) (r - 1) 0]
  else [TIns.mk 1 0 r 0 0 0, TIns.mk 7 8 (r + 1) (r - 2) r 0, TIns.mk 6 14 (r + 1) (r + 1) 0 0, TIns.mk 1 0 (r + 2) 0 0 p.n, TIns.mk 7 8 (r + 2) (r - 2) (r + 2) 0, TIns.mk 7 10 (r + 1) (r + 1) (r + 2) 0,
    TIns.mk 9 0 (r + 2) (r + 1) 0 0, TIns.mk 8 0 (r + 2) (r - 2) r 0, TIns.mk 3 0 (r + 2) (r + 2) p.n p.v, TIns.mk 8 0 (r + 1) (r + 2) (r - 1) 0, TIns.mk 9 0 (r - 2) (r + 1) 0 0]
def nextR (r : Int) (p : TPush) : Int := if p.op = 5 then r else if p.op = 6 then r - 1 else if p.op = 7 then r - 2 else if p.op = 8 then r - 1 else r + 1
def goodP (p : TPush) : Prop := 1 ≤ p.op ∧ p.op ≤ 8
theorem insOf_len (n r : Int) (p : TPush) : (insOf n r p).length ≤ 11 := by
  unfold insOf
  repeat' split
  all_goals simp

theorem goodP_cases {p : TPush} (h : goodP p) : p.op = 1 ∨ p.op = 2 ∨ p.op = 3 ∨ p.op = 4 ∨ p.op = 5 ∨ p.op = 6 ∨ p.op = 7 ∨ p.op = 8 := by
  obtain ⟨h1, h2⟩ := h; omega

theorem wraps (r : Int) (hr : -100000 ≤ r ∧ r ≤ 100000) : IntKind.wrap .i64 (r - 1) = r - 1 ∧ IntKind.wrap .i64 (r - 2) = r - 2 ∧ IntKind.wrap .i64 (r - 3) = r - 3 ∧ IntKind.wrap .i64 (r + 1) = r + 1 ∧ IntKind.wrap .i64 (r + 2) = r + 2 ∧
    IntKind.wrap .i64 (r - 1 + 1) = r ∧ IntKind.wrap .i64 (r - 2 + 1) = r - 1 ∧ IntKind.wrap .i64 (r - 2 + 2) = r ∧ IntKind.wrap .i64 (r - 2 + 3) = r + 1 ∧ IntKind.wrap .i64 (r - 2 + 4) = r + 2 ∧ IntKind.wrap .i64 (r - 3 + 1) = r - 2 ∧ IntKind.wrap .i64 (r - 3 + 2) = r - 1 := by
  refine ⟨wsm (by omega), wsm (by omega), wsm (by omega), wsm (by omega), wsm (by omega), ?_, ?_, ?_, ?_, ?_, ?_, ?_⟩
  all_goals (rw [wsm (by omega)]; omega)

theorem ebody (e : List TPush) (n x r : Int) (l : List TIns) (i : Nat) (hi : i < e.length) (hg : goodP (e.getD i default)) (hr : -100000 ≤ r ∧ r ≤ 100000) (hl : l.length ≤ 800000) (hi' : i < 100000) :
    emit_emitter_tree_l1 e n x l r (i : Int) = some (.inl (regsL x (insOf n r (e.getD i default)), l ++ insOf n r (e.getD i default), nextR r (e.getD i default), ((i + 1 : Nat) : Int))) := by
  unfold emit_emitter_tree_l1
  rw [if_pos (ltI hi), if_pos (inI hi)]
  simp only [Int.toNat_natCast]
  generalize e.getD i default = p at hg ⊢
  obtain ⟨w1, w2, w3, w4, w5, w6, w7, w8, w9, w10, w11, w12⟩ := wraps r hr
  have hp := fun (q : List TIns) (hq : q.length ≤ 20) => put_eq q x l (by omega)
  rw [wr6 i (by omega)]
  rcases goodP_cases hg with h | h | h | h | h | h | h | h
  · simp only [h, if_true, insOf, nextR, Int.reduceEq, if_false, lit]
    rw [hp _ (by simp), w4]; rfl
  · simp only [h, if_true, insOf, nextR, Int.reduceEq, if_false, lit]
    rw [hp _ (by simp), w4]; rfl
  · simp only [h, if_true, insOf, nextR, Int.reduceEq, if_false, emit_emitter_arr, lit]
    by_cases hn : n = 0
    · simp only [hn, if_true]
      rw [hp _ (by simp), w4]; rfl
    · simp only [hn, if_false]
      rw [hp _ (by simp), w4]; rfl
  · simp only [h, if_true, insOf, nextR, Int.reduceEq, if_false, emit_emitter_index, lit]
    by_cases hn : n = 0
    · simp only [hn, if_true]
      rw [hp _ (by simp), w4]; rfl
    · simp only [hn, if_false]
      rw [hp _ (by simp), w4]; rfl
  · simp only [h, if_true, insOf, nextR, Int.reduceEq, if_false, lit, w1, w6]
    rw [hp _ (by simp)]; rfl
  · simp only [h, if_true, insOf, nextR, Int.reduceEq, if_false, lit, w2, w7]
    rw [hp _ (by simp)]; rfl
  · simp only [h, if_true, insOf, nextR, Int.reduceEq, if_false, lit, w3, w11, w12]
    rw [hp _ (by simp)]; rfl
  · simp only [h, if_true, insOf, nextR, Int.reduceEq, if_false, lit, w2, w7, emit_emitter_pick, w8, w9, w10]
    rw [hp _ (by simp)]; rfl

theorem rbodyE (e : List TPush) (n r : Int) (l : List TIns) (i : Nat) (hi : i < e.length) (hg : goodP (e.getD i default)) (hr : -100000 ≤ r ∧ r ≤ 100000) (hl : l.length ≤ 800000) (hi' : i < 100000) (hn0 : 0 ≤ n) :
    ref_emitting_tree_l1 e n l r (i : Int) = some (.inl (l ++ insOf n r (e.getD i default), nextR r (e.getD i default), ((i + 1 : Nat) : Int))) := by
  unfold ref_emitting_tree_l1
  rw [if_pos (ltI hi), if_pos (inI hi)]
  simp only [Int.toNat_natCast]
  generalize e.getD i default = p at hg ⊢
  obtain ⟨w1, w2, w3, w4, w5, w6, w7, w8, w9, w10, w11, w12⟩ := wraps r hr
  rw [wr6 i (by omega)]
  rcases goodP_cases hg with h | h | h | h | h | h | h | h
  · simp only [h, if_true, insOf, nextR, Int.reduceEq, if_false]
    rw [rput_eq _ _ _ _ _ _ _ (by omega), w4]; rfl
  · simp only [h, if_true, insOf, nextR, Int.reduceEq, if_false]
    rw [rput_eq _ _ _ _ _ _ _ (by omega), w4]; rfl
  · simp only [h, if_true, insOf, nextR, Int.reduceEq, if_false]
    by_cases hn : n = 0
    · simp only [hn, if_true]
      rw [rput_eq _ _ _ _ _ _ _ (by omega), w4]; rfl
    · simp only [hn, if_false]
      rw [rput_eq _ _ _ _ _ _ _ (by omega), w4]; rfl
  · simp only [h, if_true, insOf, nextR, Int.reduceEq, if_false]
    rw [rput_eq _ _ _ _ _ _ _ (by omega), w4]
    simp only [Option.bind_some]
    by_cases hn : n = 0
    · rw [if_neg (by omega), if_pos hn]
    · rw [if_pos (by omega), if_neg hn, rput_eq _ _ _ _ _ _ _ (by simp only [List.length_append, List.length_cons, List.length_nil]; omega)]
      simp only [Option.bind_some, List.append_assoc, List.cons_append, List.nil_append]
  · simp only [h, if_true, insOf, nextR, Int.reduceEq, if_false, w1]
    rw [rput_eq _ _ _ _ _ _ _ (by omega)]; rfl
  · simp only [h, if_true, insOf, nextR, Int.reduceEq, if_false, w2, w1]
    rw [rput_eq _ _ _ _ _ _ _ (by omega)]; rfl
  · simp only [h, if_true, insOf, nextR, Int.reduceEq, if_false, w3, w2, w1]
    rw [rput_eq _ _ _ _ _ _ _ (by omega)]; rfl
  · simp only [h, if_true, insOf, nextR, Int.reduceEq, if_false, w4, w5, w2, w1]
    iterate 11 (rw [rput_eq _ _ _ _ _ _ _ (by first | omega | (simp only [List.length_append, List.length_cons, List.length_nil]; omega))]; try simp only [Option.bind_some])
    simp only [List.append_assoc, List.cons_append, List.nil_append]

/-- a tree, written -/
def treeT (n : Int) : Int → List TPush → List TIns
  | _, [] => []
  | r, p :: e => insOf n r p ++ treeT n (nextR r p) e
def endR : Int → List TPush → Int
  | r, [] => r
  | r, p :: e => endR (nextR r p) e
theorem treeT_len (n : Int) : ∀ (e : List TPush) (r : Int), (treeT n r e).length ≤ 11 * e.length
  | [], r => by simp [treeT]
  | p :: e, r => by
    have h1 := insOf_len n r p
    have h2 := treeT_len n e (nextR r p)
    simp only [treeT, List.length_append, List.length_cons]; omega
theorem nextR_le (r : Int) (p : TPush) : r - 2 ≤ nextR r p ∧ nextR r p ≤ r + 1 := by
  unfold nextR; repeat' split
  all_goals omega

theorem etree_eq (e : List TPush) (r n x : Int) (l : List TIns) (hg : ∀ p ∈ e, goodP p) (he : e.length ≤ 1000) (hr : -1000 ≤ r ∧ r ≤ 1000) (hl : l.length ≤ 700000) :
    emit_emitter_tree e r n x l = some (regsL x (treeT n r e), l ++ treeT n r e) := by
  unfold emit_emitter_tree
  obtain ⟨h1, _⟩ := loop_fold (A := Int × List TIns × Int) (T := TPush) (O := Int × List TIns) (S := Int × List TIns × Int × Int) (fun a i => (a.1, a.2.1, a.2.2, i)) (body := fun s => emit_emitter_tree_l1 e n s.1 s.2.1 s.2.2.1 s.2.2.2) e
    (fun a p => (regsL a.1 (insOf n a.2.2 p), a.2.1 ++ insOf n a.2.2 p, nextR a.2.2 p)) (fun i a => a.2.1.length ≤ l.length + 11 * i ∧ -1000 - 2 * (i : Int) ≤ a.2.2 ∧ a.2.2 ≤ 1000 + (i : Int)) (fun a => (a.1, a.2.1)) (x, l, r) (by simp; omega)
    (by
      intro i a hi hI
      obtain ⟨k1, k2, k3⟩ := hI
      refine ⟨ebody e n a.1 a.2.2 a.2.1 i hi (hg _ (getD_mem hi)) (by omega) (by omega) (by omega), ?_⟩
      have h1 := insOf_len n a.2.2 (e.getD i default)
      have h2 := nextR_le a.2.2 (e.getD i default)
      simp only [List.length_append]
      omega)
    (by
      intro a _
      show emit_emitter_tree_l1 e n a.1 a.2.1 a.2.2 (e.length : Int) = _
      unfold emit_emitter_tree_l1
      rw [if_neg (not_ltI _)])
  show (loop (fun s : Int × List TIns × Int × Int => emit_emitter_tree_l1 e n s.1 s.2.1 s.2.2.1 s.2.2.2) (x, l, r, 0)).bind (fun z => some z) = _
  rw [h1]
  have key : ∀ (e : List TPush) (x : Int) (l : List TIns) (r : Int), e.foldl (fun (a : Int × List TIns × Int) p => (regsL a.1 (insOf n a.2.2 p), a.2.1 ++ insOf n a.2.2 p, nextR a.2.2 p)) (x, l, r) = (regsL x (treeT n r e), l ++ treeT n r e, endR r e) := by
    intro e
    induction e with
    | nil => intro x l r; simp [treeT, endR, regsL]
    | cons p e ih =>
      intro x l r
      rw [List.foldl_cons, ih]
      simp only [treeT, endR, regsL_append, List.append_assoc]
  rw [key]
  rfl

theorem rtree_eq (e : List TPush) (r n : Int) (l : List TIns) (hg : ∀ p ∈ e, goodP p) (he : e.length ≤ 1000) (hr : -1000 ≤ r ∧ r ≤ 1000) (hl : l.length ≤ 700000) (hn : 0 ≤ n) :
    ref_emitting_tree e r n l = some (l ++ treeT n r e) := by
  unfold ref_emitting_tree
  obtain ⟨h1, _⟩ := loop_fold (A := List TIns × Int) (T := TPush) (O := List TIns) (S := List TIns × Int × Int) (fun a i => (a.1, a.2, i)) (body := fun s => ref_emitting_tree_l1 e n s.1 s.2.1 s.2.2) e
    (fun a p => (a.1 ++ insOf n a.2 p, nextR a.2 p)) (fun i a => a.1.length ≤ l.length + 11 * i ∧ -1000 - 2 * (i : Int) ≤ a.2 ∧ a.2 ≤ 1000 + (i : Int)) (fun a => a.1) (l, r) (by simp; omega)
    (by
      intro i a hi hI
      obtain ⟨k1, k2, k3⟩ := hI
      refine ⟨rbodyE e n a.2 a.1 i hi (hg _ (getD_mem hi)) (by omega) (by omega) (by omega) hn, ?_⟩
      have h1 := insOf_len n a.2 (e.getD i default)
      have h2 := nextR_le a.2 (e.getD i default)
      simp only [List.length_append]
      omega)
    (by
      intro a _
      show ref_emitting_tree_l1 e n a.1 a.2 (e.length : Int) = _
      unfold ref_emitting_tree_l1
      rw [if_neg (not_ltI _)])
  show (loop (fun s : List TIns × Int × Int => ref_emitting_tree_l1 e n s.1 s.2.1 s.2.2) (l, r, 0)).bind (fun z => some z) = _
  rw [h1]
  have key : ∀ (e : List TPush) (l : List TIns) (r : Int), e.foldl (fun (a : List TIns × Int) p => (a.1 ++ insOf n a.2 p, nextR a.2 p)) (l, r) = (l ++ treeT n r e, endR r e) := by
    intro e
    induction e with
    | nil => intro l r; simp [treeT, endR]
    | cons p e ih =>
      intro l r
      rw [List.foldl_cons, ih]
      simp only [treeT, endR, List.append_assoc]
  rw [key]
  rfl

/-- a step, written -/
def stepT (x : TLoop) : List TIns :=
  if x.op = 1 then treeT 0 2 x.e ++ [TIns.mk 4 0 2 0 0 x.to]
  else (if x.op = 2 then [] else treeT 0 2 x.f ++ [TIns.mk 9 0 1 2 0 0]) ++ ([TIns.mk 10 0 0 0 0 x.n] ++ (treeT x.n 2 x.e ++
    ((if x.op = 2 then [TIns.mk 5 0 2 0 x.n x.to] else if x.op = 3 then [TIns.mk 7 x.k 1 1 2 0] else [TIns.mk 7 x.k 1 1 2 0, TIns.mk 5 0 1 0 x.n x.to]) ++ ([TIns.mk 11 0 0 0 0 0] ++ (if x.op = 3 then [TIns.mk 4 0 1 0 0 x.to] else [])))))

/-- what is asked of a step, so that it can be written -/
structure GoodX (x : TLoop) : Prop where
  op : x.op = 1 ∨ x.op = 2 ∨ x.op = 3 ∨ x.op = 4
  e : ∀ p ∈ x.e, goodP p
  el : x.e.length ≤ 24
  n : x.op ≠ 1 → 1 ≤ x.n
  f : x.op = 3 ∨ x.op = 4 → (∀ p ∈ x.f, goodP p) ∧ x.f.length ≤ 24

theorem stepT_len {x : TLoop} (h : GoodX x) : (stepT x).length ≤ 600 := by
  have h1 := treeT_len 0 x.e 2
  have h2 := treeT_len x.n x.e 2
  have h3 := treeT_len 0 x.f 2
  have := h.el
  unfold stepT
  rcases h.op with o | o | o | o
  · simp [o]; omega
  · simp [o]; omega
  · have := (h.f (.inl o)).2
    simp [o]; omega
  · have := (h.f (.inr o)).2
    simp [o]; omega

theorem estep_eq (x : TLoop) (q : Int) (l : List TIns) (h : GoodX x) (hl : l.length ≤ 300000) : emit_emitter_step x q l = some (regsL q (stepT x), l ++ stepT x) := by
  have t1 := treeT_len 0 x.e 2
  have t2 := treeT_len x.n x.e 2
  have t3 := treeT_len 0 x.f 2
  have el := h.el
  have tail : ∀ (q : Int) (l : List TIns), x.op = 2 ∨ x.op = 3 ∨ x.op = 4 → l.length ≤ 301000 → emit_emitter_step_j1 x q l = some (regsL q ([TIns.mk 10 0 0 0 0 x.n] ++ (treeT x.n 2 x.e ++
    ((if x.op = 2 then [TIns.mk 5 0 2 0 x.n x.to] else if x.op = 3 then [TIns.mk 7 x.k 1 1 2 0] else [TIns.mk 7 x.k 1 1 2 0, TIns.mk 5 0 1 0 x.n x.to]) ++ ([TIns.mk 11 0 0 0 0 0] ++ (if x.op = 3 then [TIns.mk 4 0 1 0 0 x.to] else []))))),
      l ++ ([TIns.mk 10 0 0 0 0 x.n] ++ (treeT x.n 2 x.e ++
    ((if x.op = 2 then [TIns.mk 5 0 2 0 x.n x.to] else if x.op = 3 then [TIns.mk 7 x.k 1 1 2 0] else [TIns.mk 7 x.k 1 1 2 0, TIns.mk 5 0 1 0 x.n x.to]) ++ ([TIns.mk 11 0 0 0 0 0] ++ (if x.op = 3 then [TIns.mk 4 0 1 0 0 x.to] else [])))))) := by
    intro q l ho hl
    unfold emit_emitter_step_j1
    rw [show (lit ([(TIns.mk 10 0 0 0 0 x.n)] : List TIns)) = [TIns.mk 10 0 0 0 0 x.n] from rfl, put_eq _ _ _ (by simp; omega)]
    simp only [Option.bind_some]
    rw [etree_eq _ _ _ _ _ h.e (by omega) (by omega) (by simp; omega)]
    simp only [Option.bind_some]
    rcases ho with o | o | o
    · rw [if_neg (by omega)]
      unfold emit_emitter_step_j2
      rw [if_pos (by omega), show (lit ([(TIns.mk 5 0 2 0 x.n x.to)] : List TIns)) = [TIns.mk 5 0 2 0 x.n x.to] from rfl, put_eq _ _ _ (by simp; omega)]
      simp only [Option.bind_some]
      unfold emit_emitter_step_j3
      rw [show (lit ([(TIns.mk 11 0 0 0 0 0)] : List TIns)) = [TIns.mk 11 0 0 0 0 0] from rfl, put_eq _ _ _ (by simp; omega)]
      simp only [Option.bind_some]
      rw [if_neg (by omega), if_pos o, if_neg (by omega)]
      simp only [regsL_append, List.append_assoc, List.append_nil]
    · rw [if_pos (by omega), show (lit ([(TIns.mk 7 x.k 1 1 2 0)] : List TIns)) = [TIns.mk 7 x.k 1 1 2 0] from rfl, put_eq _ _ _ (by simp; omega)]
      simp only [Option.bind_some]
      unfold emit_emitter_step_j2
      rw [if_neg (by omega)]
      unfold emit_emitter_step_j3
      rw [show (lit ([(TIns.mk 11 0 0 0 0 0)] : List TIns)) = [TIns.mk 11 0 0 0 0 0] from rfl, put_eq _ _ _ (by simp; omega)]
      simp only [Option.bind_some]
      rw [if_pos o, show (lit ([(TIns.mk 4 0 1 0 0 x.to)] : List TIns)) = [TIns.mk 4 0 1 0 0 x.to] from rfl, put_eq _ _ _ (by simp; omega), if_neg (by omega), if_pos o, if_pos o]
      simp only [regsL_append, List.append_assoc, Option.bind_some]
    · rw [if_pos (by omega), show (lit ([(TIns.mk 7 x.k 1 1 2 0)] : List TIns)) = [TIns.mk 7 x.k 1 1 2 0] from rfl, put_eq _ _ _ (by simp; omega)]
      simp only [Option.bind_some]
      unfold emit_emitter_step_j2
      rw [if_pos (by omega), show (lit ([(TIns.mk 5 0 1 0 x.n x.to)] : List TIns)) = [TIns.mk 5 0 1 0 x.n x.to] from rfl, put_eq _ _ _ (by simp; omega)]
      simp only [Option.bind_some]
      unfold emit_emitter_step_j3
      rw [show (lit ([(TIns.mk 11 0 0 0 0 0)] : List TIns)) = [TIns.mk 11 0 0 0 0 0] from rfl, put_eq _ _ _ (by simp; omega)]
      simp only [Option.bind_some]
      rw [if_neg (by omega), if_neg (by omega), if_neg (by omega), if_neg (by omega), show [TIns.mk 7 x.k 1 1 2 0, TIns.mk 5 0 1 0 x.n x.to] = [TIns.mk 7 x.k 1 1 2 0] ++ [TIns.mk 5 0 1 0 x.n x.to] from rfl]
      simp only [regsL_append, List.append_assoc, List.append_nil]
  unfold emit_emitter_step
  rcases h.op with o | o | o | o
  · rw [if_pos o, etree_eq _ _ _ _ _ h.e (by omega) (by omega) (by omega)]
    simp only [Option.bind_some]
    rw [show (lit ([(TIns.mk 4 0 2 0 0 x.to)] : List TIns)) = [TIns.mk 4 0 2 0 0 x.to] from rfl, put_eq _ _ _ (by simp; omega)]
    simp only [Option.bind_some, stepT, o, if_true, regsL_append, List.append_assoc]
  · rw [if_neg (by omega), if_neg (by omega), tail _ _ (by omega) (by omega)]
    unfold stepT
    simp only [o, Int.reduceEq, if_true, if_false, List.nil_append]
  · obtain ⟨f1, f2⟩ := h.f (.inl o)
    rw [if_neg (by omega), if_pos (by omega), etree_eq _ _ _ _ _ f1 (by omega) (by omega) (by omega)]
    simp only [Option.bind_some]
    rw [show (lit ([(TIns.mk 9 0 1 2 0 0)] : List TIns)) = [TIns.mk 9 0 1 2 0 0] from rfl, put_eq _ _ _ (by simp; omega)]
    simp only [Option.bind_some]
    rw [tail _ _ (by omega) (by simp; omega)]
    conv => rhs; unfold stepT
    simp only [o, Int.reduceEq, if_true, if_false, regsL_append, List.append_assoc, List.append_nil]
  · obtain ⟨f1, f2⟩ := h.f (.inr o)
    rw [if_neg (by omega), if_pos (by omega), etree_eq _ _ _ _ _ f1 (by omega) (by omega) (by omega)]
    simp only [Option.bind_some]
    rw [show (lit ([(TIns.mk 9 0 1 2 0 0)] : List TIns)) = [TIns.mk 9 0 1 2 0 0] from rfl, put_eq _ _ _ (by simp; omega)]
    simp only [Option.bind_some]
    rw [tail _ _ (by omega) (by simp; omega)]
    conv => rhs; unfold stepT
    simp only [o, Int.reduceEq, if_true, if_false, regsL_append, List.append_assoc, List.append_nil]

theorem rstep_eq (x : TLoop) (l : List TIns) (h : GoodX x) (hl : l.length ≤ 300000) : ref_emitting_step x l = some (l ++ stepT x) := by
  have t1 := treeT_len 0 x.e 2
  have t2 := treeT_len x.n x.e 2
  have t3 := treeT_len 0 x.f 2
  have el := h.el
  have tail : ∀ (l : List TIns), x.op = 2 ∨ x.op = 3 ∨ x.op = 4 → l.length ≤ 301000 → ref_emitting_step_j1 x l = some (l ++ ([TIns.mk 10 0 0 0 0 x.n] ++ (treeT x.n 2 x.e ++
    ((if x.op = 2 then [TIns.mk 5 0 2 0 x.n x.to] else if x.op = 3 then [TIns.mk 7 x.k 1 1 2 0] else [TIns.mk 7 x.k 1 1 2 0, TIns.mk 5 0 1 0 x.n x.to]) ++ ([TIns.mk 11 0 0 0 0 0] ++ (if x.op = 3 then [TIns.mk 4 0 1 0 0 x.to] else [])))))) := by
    intro l ho hl
    unfold ref_emitting_step_j1
    rw [rput_eq _ _ _ _ _ _ _ (by omega)]
    simp only [Option.bind_some]
    rw [rtree_eq _ _ _ _ h.e (by omega) (by omega) (by simp; omega) (by have := h.n (by omega); omega)]
    simp only [Option.bind_some]
    rcases ho with o | o | o
    · rw [if_pos o, rput_eq _ _ _ _ _ _ _ (by simp; omega)]
      simp only [Option.bind_some]
      unfold ref_emitting_step_j2
      rw [rput_eq _ _ _ _ _ _ _ (by simp; omega)]
      simp only [Option.bind_some]
      rw [if_neg (by omega), if_pos o, if_neg (by omega)]
      simp only [List.append_assoc, List.append_nil]
    · rw [if_neg (by omega), if_pos o, rput_eq _ _ _ _ _ _ _ (by simp; omega)]
      simp only [Option.bind_some]
      unfold ref_emitting_step_j2
      rw [rput_eq _ _ _ _ _ _ _ (by simp; omega)]
      simp only [Option.bind_some]
      rw [if_pos o, rput_eq _ _ _ _ _ _ _ (by simp; omega), if_neg (by omega), if_pos o, if_pos o]
      simp only [List.append_assoc, Option.bind_some]
    · rw [if_neg (by omega), if_neg (by omega), if_pos o, rput_eq _ _ _ _ _ _ _ (by simp; omega)]
      simp only [Option.bind_some]
      rw [rput_eq _ _ _ _ _ _ _ (by simp; omega)]
      simp only [Option.bind_some]
      unfold ref_emitting_step_j2
      rw [rput_eq _ _ _ _ _ _ _ (by simp; omega)]
      simp only [Option.bind_some]
      rw [if_neg (by omega), if_neg (by omega), if_neg (by omega), if_neg (by omega), show [TIns.mk 7 x.k 1 1 2 0, TIns.mk 5 0 1 0 x.n x.to] = [TIns.mk 7 x.k 1 1 2 0] ++ [TIns.mk 5 0 1 0 x.n x.to] from rfl]
      simp only [List.append_assoc, List.append_nil]
  unfold ref_emitting_step
  rcases h.op with o | o | o | o
  · rw [if_pos o, rtree_eq _ _ _ _ h.e (by omega) (by omega) (by omega) (by omega)]
    simp only [Option.bind_some]
    rw [rput_eq _ _ _ _ _ _ _ (by simp; omega)]
    simp only [Option.bind_some, stepT, o, if_true, List.append_assoc]
  · rw [if_neg (by omega), if_neg (by omega), if_neg (by omega), tail _ (by omega) (by omega)]
    unfold stepT
    simp only [o, Int.reduceEq, if_true, if_false, List.nil_append]
  · obtain ⟨f1, f2⟩ := h.f (by omega)
    rw [if_neg (by omega), if_pos o, rtree_eq _ _ _ _ f1 (by omega) (by omega) (by omega) (by omega)]
    simp only [Option.bind_some]
    rw [rput_eq _ _ _ _ _ _ _ (by simp; omega)]
    simp only [Option.bind_some]
    rw [tail _ (by omega) (by simp; omega)]
    conv => rhs; unfold stepT
    simp only [o, Int.reduceEq, if_true, if_false, List.append_assoc, List.append_nil]
  · obtain ⟨f1, f2⟩ := h.f (by omega)
    rw [if_neg (by omega), if_neg (by omega), if_pos o, rtree_eq _ _ _ _ f1 (by omega) (by omega) (by omega) (by omega)]
    simp only [Option.bind_some]
    rw [rput_eq _ _ _ _ _ _ _ (by simp; omega)]
    simp only [Option.bind_some]
    rw [tail _ (by omega) (by simp; omega)]
    conv => rhs; unfold stepT
    simp only [o, Int.reduceEq, if_true, if_false, List.append_assoc, List.append_nil]
end Pam

/- What the parts of code.Check and of the document that look at instructions come to: the same. -/
namespace Pam
open Go

def regOk (regs r : Int) : Bool := decide (0 ≤ r ∧ r < regs)

theorem index_eq (l : List Int) (j : Tjudge_code) (hl : l.length ≤ 9000000) :
    slices_IndexFunc_int_int l j = some (match upto l.length (fun i => if regOk j.m_.regs (l.getD i default) then none else some (i : Int)) () with | .inr i => i | .inl _ => -1) := by
  unfold slices_IndexFunc_int_int
  rw [loop_upto l.length (fun i => if regOk j.m_.regs (l.getD i default) then none else some (i : Int)) ()]
  · rcases upto_cases l.length (fun i => if regOk j.m_.regs (l.getD i default) then none else some (i : Int)) () with ⟨h, _⟩ | ⟨i, z, _, _, h⟩
    · rw [h]; rfl
    · rw [h]; rfl
  · intro i hi
    unfold slices_IndexFunc_int_int_l1
    rw [if_pos (ltI hi), if_pos (inI hi), Int.toNat_natCast, wrs i (by omega)]
    unfold code_judge_reg_1
    by_cases h1 : l.getD i default < 0
    · rw [if_pos h1]; simp only [Option.bind_some, if_true]; rw [if_neg (by simp only [regOk, decide_eq_true_eq]; omega)]
    · rw [if_neg h1]; simp only [Option.bind_some]
      by_cases h2 : l.getD i default ≥ j.m_.regs
      · rw [if_pos (decide_eq_true h2), if_neg (by simp only [regOk, decide_eq_true_eq]; omega)]
      · rw [if_neg (by simp only [decide_eq_true_eq]; exact h2), if_pos (by simp only [regOk, decide_eq_true_eq]; omega)]
  · unfold slices_IndexFunc_int_int_l1
    rw [if_neg (not_ltI _)]

theorem reg_eq (j : Tjudge_code) (l : List Int) (hl : l.length ≤ 9000000) : code_judge_reg j l = some (l.all (regOk j.m_.regs)) := by
  unfold code_judge_reg slices_ContainsFunc_int_int
  rw [index_eq l j hl, all_getD]
  rcases upto_cases l.length (fun i => if regOk j.m_.regs (l.getD i default) then none else some (i : Int)) () with ⟨h, h'⟩ | ⟨i, z, hi, hf, h⟩
  · rw [h]
    have : ∀ i, i < l.length → regOk j.m_.regs (l.getD i default) = true := fun i hi => by have := h' i hi; simpa using this
    rw [decide_eq_true this]; rfl
  · rw [h]
    have hn : ¬ ∀ i, i < l.length → regOk j.m_.regs (l.getD i default) = true := fun k => by rw [if_pos (k i hi)] at hf; cases hf
    rw [decide_eq_false hn]
    have : z = i := by split at hf <;> simp_all
    subst this
    simp

theorem regsOK_eq (m : TImage) (l : List Int) (hl : l.length ≤ 9000000) : ref_regsOK m l = some (l.all (regOk m.regs)) := by
  unfold ref_regsOK
  rw [loop_upto l.length (fun i => if regOk m.regs (l.getD i default) then none else some false) ()]
  · rw [all_getD]
    rcases upto_cases l.length (fun i => if regOk m.regs (l.getD i default) then none else some false) () with ⟨h, h'⟩ | ⟨i, z, hi, hf, h⟩
    · rw [h]
      have : ∀ i, i < l.length → regOk m.regs (l.getD i default) = true := fun i hi => by have := h' i hi; simpa using this
      rw [decide_eq_true this]; rfl
    · rw [h]
      have hn : ¬ ∀ i, i < l.length → regOk m.regs (l.getD i default) = true := fun k => by rw [if_pos (k i hi)] at hf; cases hf
      rw [decide_eq_false hn]
      have : z = false := by split at hf <;> simp_all
      subst this; rfl
  · intro i hi
    unfold ref_regsOK_l1
    rw [if_pos (ltI hi), if_pos (inI hi), Int.toNat_natCast, wrs i (by omega)]
    by_cases h1 : l.getD i default < 0
    · rw [if_pos h1, if_neg (by simp only [regOk, decide_eq_true_eq]; omega)]
    · rw [if_neg h1]
      by_cases h2 : l.getD i default ≥ m.regs
      · rw [if_pos h2, if_neg (by simp only [regOk, decide_eq_true_eq]; omega)]
      · rw [if_neg h2, if_pos (by simp only [regOk, decide_eq_true_eq]; omega)]
  · unfold ref_regsOK_l1
    rw [if_neg (not_ltI _)]

def cellsOk (cells a n : Int) : Bool := decide (1 ≤ n ∧ n ≤ cells ∧ 0 ≤ a ∧ a ≤ cells - n)
theorem cells_eq (j : Tjudge_code) (a n : Int) (h1 : 1 ≤ j.m_.cells) (h2 : j.m_.cells ≤ 6000) : code_judge_cells j a n = some (cellsOk j.m_.cells a n) := by
  unfold code_judge_cells cellsOk
  by_cases a1 : n ≥ 1
  · rw [if_pos a1]
    by_cases a2 : n ≤ j.m_.cells
    · rw [if_pos a2, wr (by omega) (by omega)]
      by_cases a3 : a ≥ 0
      · rw [if_pos a3]; congr 1; rw [Bool.eq_iff_iff]; simp only [decide_eq_true_eq]; omega
      · rw [if_neg a3]; congr 1; symm; rw [decide_eq_false_iff_not]; omega
    · rw [if_neg a2]; congr 1; symm; rw [decide_eq_false_iff_not]; omega
  · rw [if_neg a1]; congr 1; symm; rw [decide_eq_false_iff_not]; omega

/-- how many an operator takes -/
def takes (k : Int) : Int := if 1 ≤ k ∧ k ≤ 12 then 2 else if k = 13 ∨ k = 14 then 1 else 0
theorem op_eq (k : Int) : ∃ a b, kinds_Op k = some (a, b, takes k) := by
  unfold kinds_Op takes
  repeat' split
  all_goals first
    | exact ⟨_, _, rfl⟩
    | (exfalso; omega)
theorem opOf_eq (k : Int) : ∃ a b, ref_OpOf k = some (a, b, takes k) := by
  unfold ref_OpOf
  by_cases h1 : k < 1
  · rw [if_pos h1]; exact ⟨0, 0, by unfold takes; rw [if_neg (by omega), if_neg (by omega)]⟩
  · rw [if_neg h1]
    by_cases h2 : k > 14
    · rw [if_pos h2]; exact ⟨0, 0, by unfold takes; rw [if_neg (by omega), if_neg (by omega)]⟩
    · rw [if_neg h2]
      have hg : (0 ≤ k ∧ k < (([63, 105, 105, 105, 105, 105, 105, 105, 105, 105, 98, 98, 98, 105, 98] : List UInt8).length : Int)) ∧ (0 ≤ k ∧ k < (([63, 105, 105, 105, 105, 105, 105, 105, 98, 98, 98, 98, 98, 105, 98] : List UInt8).length : Int)) := by
        simp only [List.length_cons, List.length_nil]; omega
      by_cases h3 : k ≥ 13
      · rw [if_pos h3]; unfold ref_OpOf_j1; rw [if_pos hg]; exact ⟨_, _, by unfold takes; rw [if_neg (by omega), if_pos (by omega)]⟩
      · rw [if_neg h3]; unfold ref_OpOf_j1; rw [if_pos hg]; exact ⟨_, _, by unfold takes; rw [if_pos (by omega)]⟩

/-- both look at an instruction alike -/
theorem fits_eq (m : TImage) (x : TIns) (h1 : 1 ≤ m.cells) (h2 : m.cells ≤ 6000) : ∃ b, code_judge_fits (Tjudge_code.mk m) x = some b ∧ ref_insOK m x = some b := by
  obtain ⟨a, b, e1⟩ := op_eq x.k
  obtain ⟨a', b', e2⟩ := opOf_eq x.k
  have r1 : ∀ l : List Int, l.length ≤ 9000000 → code_judge_reg (Tjudge_code.mk m) l = some (l.all (regOk m.regs)) := fun l hl => reg_eq _ l hl
  have r2 : ∀ l : List Int, l.length ≤ 9000000 → ref_regsOK m l = some (l.all (regOk m.regs)) := fun l hl => regsOK_eq _ l hl
  have c1 : ∀ a n, code_judge_cells (Tjudge_code.mk m) a n = some (cellsOk m.cells a n) := fun a n => cells_eq _ a n h1 h2
  unfold code_judge_fits ref_insOK
  rw [e1, e2]
  simp only [Option.bind_some]
  unfold code_judge_fits_j1 ref_insOK_j1 code_judge_fits_j2 ref_insOK_j2
  have q1 := r1 (lit [x.r_]) (by simp [lit])
  have q2 := r1 (lit [x.r_, x.a]) (by simp [lit])
  have q3 := r1 (lit [x.r_, x.a, x.b]) (by simp [lit])
  have p1 := r2 (lit [x.r_]) (by simp [lit])
  have p2 := r2 (lit [x.r_, x.a]) (by simp [lit])
  have p3 := r2 (lit [x.r_, x.a, x.b]) (by simp [lit])
  rw [q1, q2, q3, p1, p2, p3]
  simp only [Option.bind_some, c1]
  generalize (lit [x.r_]).all (regOk m.regs) = g1
  generalize (lit [x.r_, x.a]).all (regOk m.regs) = g2
  generalize (lit [x.r_, x.a, x.b]).all (regOk m.regs) = g3
  have k1 : (if x.n ≥ 0 then some (decide (x.n < m.cells)) else some false) = some (cellsOk m.cells x.n 1) := by
    unfold cellsOk
    split
    · congr 1; rw [Bool.eq_iff_iff]; simp only [decide_eq_true_eq]; omega
    · congr 1; symm; rw [decide_eq_false_iff_not]; omega
  have k2 : (if x.n ≥ 0 then if x.n < m.cells then if x.b ≥ 1 then some (decide (x.b ≤ IntKind.wrap .i64 (m.cells - x.n))) else some false else some false else some false) = some (cellsOk m.cells x.n x.b) := by
    unfold cellsOk
    split
    · split
      · split
        · rw [wr (by omega) (by omega)]; congr 1; rw [Bool.eq_iff_iff]; simp only [decide_eq_true_eq]; omega
        · congr 1; symm; rw [decide_eq_false_iff_not]; omega
      · congr 1; symm; rw [decide_eq_false_iff_not]; omega
    · congr 1; symm; rw [decide_eq_false_iff_not]; omega
  rw [k1, k2]
  generalize cellsOk m.cells x.n 1 = g4
  generalize cellsOk m.cells x.n x.b = g5
  have key : ∀ X : Option Bool, X.isSome = true → ∃ b, X = some b ∧ X = some b := fun X h => by
    obtain ⟨b, hb⟩ := Option.isSome_iff_exists.1 h
    exact ⟨b, hb, hb⟩
  refine key _ ?_
  simp only [apply_ite Option.isSome, Option.isSome_some, ite_self]
end Pam

/- What code costs: the program and the document reckon the same. -/
namespace Pam
open Go

/-- what code costs, so much before, so many times, within a loop or not -/
def costL (n times one : Int) : List TIns → Int
  | [] => if one > 0 then 0 else n
  | x :: l =>
    if x.op = 10 then (if times > 1 ∨ one > 0 ∨ x.n < 1 ∨ x.n > 300 then 0 else costL (n + times) x.n 1 l)
    else if x.op = 11 then (if one = 0 then 0 else costL (n + times) 1 0 l)
    else costL (n + times) times one l

theorem code_from (l : List TIns) (hl : l.length ≤ 9000000) : ∀ (k i : Nat) (n times one : Int), i + k = l.length → 0 ≤ n → n ≤ 300 * i → 1 ≤ times → times ≤ 300 →
    (loop (fun (x11, x12, x13, x14) => code_Cost_2_l1 l x11 x12 x13 x14) (n, times, one, (i : Int))).bind (Sum.elim (fun (z15, z16) => code_Cost_2_j1 z15 z16) (fun z17 => some z17)) = some (costL n times one (l.drop i))
  | 0, i, n, times, one, hi, _, _, _, _ => by
    have hi : i = l.length := by omega
    subst hi
    rw [loop_done (o := .inl (n, one)) (by simp only [code_Cost_2_l1]; rw [if_neg (not_ltI _)]), List.drop_length]
    simp only [Option.bind_some, Sum.elim_inl, code_Cost_2_j1, costL]
    split <;> rfl
  | k + 1, i, n, times, one, hi, h1, h2, h3, h4 => by
    have hlt : i < l.length := by omega
    rw [drop_cons l i hlt]
    have hw : IntKind.wrap .i64 (n + times) = n + times := wr (by omega) (by omega)
    have hb : code_Cost_2_l1 l n times one i = (if (l.getD i default).op = 10 then (if times > 1 ∨ one > 0 ∨ (l.getD i default).n < 1 ∨ (l.getD i default).n > 300 then some (.inr (.inr 0)) else some (.inl (n + times, (l.getD i default).n, 1, ((i + 1 : Nat) : Int))))
        else if (l.getD i default).op = 11 then (if one = 0 then some (.inr (.inr 0)) else some (.inl (n + times, 1, 0, ((i + 1 : Nat) : Int)))) else some (.inl (n + times, times, one, ((i + 1 : Nat) : Int)))) := by
      unfold code_Cost_2_l1
      rw [if_pos (ltI hlt), if_pos (inI hlt), Int.toNat_natCast, hw, wrs i (by omega)]
      by_cases a1 : (l.getD i default).op = 10
      · rw [if_pos a1, if_pos a1]
        by_cases b1 : times > 1
        · rw [if_pos b1, if_pos (.inl b1)]
        · rw [if_neg b1]
          by_cases b2 : one > 0
          · rw [if_pos b2, if_pos (.inr (.inl b2))]
          · rw [if_neg b2]
            by_cases b3 : (l.getD i default).n < 1
            · rw [if_pos b3, if_pos (.inr (.inr (.inl b3)))]
            · rw [if_neg b3]
              by_cases b4 : (l.getD i default).n > 300
              · rw [if_pos b4, if_pos (.inr (.inr (.inr b4)))]
              · rw [if_neg b4, if_neg (by omega)]
      · rw [if_neg a1, if_neg a1]
    generalize l.getD i default = x at hb ⊢
    have ih := fun n' t' o' h1 h2 h3 h4 => code_from l hl k (i + 1) n' t' o' (by omega) h1 h2 h3 h4
    simp only [costL]
    by_cases a1 : x.op = 10
    · rw [if_pos a1] at hb ⊢
      by_cases b1 : times > 1 ∨ one > 0 ∨ x.n < 1 ∨ x.n > 300
      · rw [if_pos b1] at hb ⊢; rw [loop_done (by simpa using hb)]; rfl
      · rw [if_neg b1] at hb ⊢; rw [loop_next (by simpa using hb)]; exact ih _ _ _ (by omega) (by omega) (by omega) (by omega)
    · rw [if_neg a1] at hb ⊢
      by_cases a2 : x.op = 11
      · rw [if_pos a2] at hb ⊢
        by_cases b1 : one = 0
        · rw [if_pos b1] at hb ⊢; rw [loop_done (by simpa using hb)]; rfl
        · rw [if_neg b1] at hb ⊢; rw [loop_next (by simpa using hb)]; exact ih _ _ _ (by omega) (by omega) (by omega) (by omega)
      · rw [if_neg a2] at hb ⊢; rw [loop_next (by simpa using hb)]; exact ih _ _ _ (by omega) (by omega) (by omega) (by omega)

theorem cost_eq (l : List TIns) (hl : l.length ≤ 9000000) : code_Cost_2 l = some (costL 0 1 0 l) := by
  have := code_from l hl l.length 0 0 1 0 (by omega) (by omega) (by omega) (by omega) (by omega)
  unfold code_Cost_2
  simpa using this

/-- where a loop ends -/
theorem end_from (l : List TIns) (hl : l.length ≤ 9000000) : ∀ (k j : Nat), j + k = l.length →
    (loop (fun x13 => ref_CostOf_2_l2 l x13) (j : Int) = some (.inl ((l.length : Nat) : Int)) ∧ ∀ n N, costL n N 1 (l.drop j) = 0) ∨
    (loop (fun x13 => ref_CostOf_2_l2 l x13) (j : Int) = some (.inr 0) ∧ ∀ n N, costL n N 1 (l.drop j) = 0) ∨
    ∃ e : Nat, j ≤ e ∧ e < l.length ∧ loop (fun x13 => ref_CostOf_2_l2 l x13) (j : Int) = some (.inl (e : Int)) ∧ ∀ n N, costL n N 1 (l.drop j) = costL (n + N * (e - j + 1)) 1 0 (l.drop (e + 1))
  | 0, j, hj => by
    have hj : j = l.length := by omega
    subst hj
    left
    refine ⟨loop_done (by simp only [ref_CostOf_2_l2]; rw [if_neg (not_ltI _)]), fun n N => ?_⟩
    rw [List.drop_length]; simp [costL]
  | k + 1, j, hj => by
    have hlt : j < l.length := by omega
    have hb : ref_CostOf_2_l2 l j = (if ¬ (l.getD j default).op = 11 then (if (l.getD j default).op = 10 then some (.inr (.inr 0)) else some (.inl ((j + 1 : Nat) : Int))) else some (.inr (.inl (j : Int)))) := by
      unfold ref_CostOf_2_l2
      rw [if_pos (ltI hlt), if_pos (inI hlt), Int.toNat_natCast, wrs j (by omega)]
    rw [drop_cons l j hlt]
    generalize l.getD j default = x at hb ⊢
    simp only [costL]
    by_cases a1 : x.op = 11
    · rw [if_neg (by simp [a1])] at hb
      refine .inr (.inr ⟨j, Nat.le_refl _, hlt, loop_done hb, fun n N => ?_⟩)
      rw [if_neg (by omega), if_pos a1, if_neg (by omega)]
      congr 1
      rw [show ((j : Int) - j + 1) = 1 by omega, Int.mul_one]
    · rw [if_pos a1] at hb
      by_cases a2 : x.op = 10
      · rw [if_pos a2] at hb
        refine .inr (.inl ⟨loop_done hb, fun n N => ?_⟩)
        rw [if_pos a2, if_pos (by omega)]
      · rw [if_neg a2] at hb
        rw [loop_next hb]
        rcases end_from l hl k (j + 1) (by omega) with ⟨h1, h2⟩ | ⟨h1, h2⟩ | ⟨e, h0, h1, h2, h3⟩
        · exact .inl ⟨h1, fun n N => by rw [if_neg a2, if_neg a1]; exact h2 _ _⟩
        · exact .inr (.inl ⟨h1, fun n N => by rw [if_neg a2, if_neg a1]; exact h2 _ _⟩)
        · refine .inr (.inr ⟨e, by omega, h1, h2, fun n N => ?_⟩)
          rw [if_neg a2, if_neg a1, h3]
          congr 1
          rw [show ((e : Int) - (j + 1 : Nat) + 1) = e - j by omega, Int.mul_add, Int.mul_one, Int.add_assoc]
          omega

theorem ref_from (l : List TIns) (hl : l.length ≤ 9000000) : ∀ (k i : Nat) (n : Int), i + k = l.length → 0 ≤ n → n ≤ 301 * i →
    (loop (fun (x6, x7) => ref_CostOf_2_l1 l x6 x7) (n, (i : Int))).bind (Sum.elim (fun z16 => ref_CostOf_2_j1 z16) (fun z17 => some z17)) = some (costL n 1 0 (l.drop i)) := by
  intro k
  induction k using Nat.strongRecOn with
  | _ k ih =>
    intro i n hi h1 h2
    cases k with
    | zero =>
      have hi : i = l.length := by omega
      subst hi
      rw [loop_done (o := .inl n) (by simp only [ref_CostOf_2_l1]; rw [if_neg (not_ltI _)]), List.drop_length]
      simp [ref_CostOf_2_j1, costL]
    | succ k =>
      have hlt : i < l.length := by omega
      have hw : IntKind.wrap .i64 (n + 1) = n + 1 := wr (by omega) (by omega)
      have hb : ref_CostOf_2_l1 l n i = (if (l.getD i default).op = 11 then some (.inr (.inr 0)) else if ¬ (l.getD i default).op = 10 then some (.inl (n + 1, ((i + 1 : Nat) : Int))) else
          (loop (fun x13 => ref_CostOf_2_l2 l x13) ((i + 1 : Nat) : Int)).bind (Sum.elim (fun z14 => ref_CostOf_2_j3 l n i z14) (fun z15 => some (.inr (.inr z15))))) := by
        unfold ref_CostOf_2_l1 ref_CostOf_2_j2
        rw [if_pos (ltI hlt), if_pos (inI hlt), Int.toNat_natCast, hw, wrs i (by omega)]
      have hd := drop_cons l i hlt
      have hj3 : ∀ z, ref_CostOf_2_j3 l n i z = (if z = (l.length : Int) then some (.inr (.inr 0)) else if (l.getD i default).n < 1 then some (.inr (.inr 0)) else if (l.getD i default).n > 300 then some (.inr (.inr 0)) else
          some (.inl (IntKind.wrap .i64 (n + 1 + IntKind.wrap .i64 ((l.getD i default).n * IntKind.wrap .i64 (z - i))), IntKind.wrap .i64 (z + 1)))) := by
        intro z; unfold ref_CostOf_2_j3 ref_CostOf_2_j2; rw [Int.toNat_natCast, hw]
      rw [hd]
      generalize l.getD i default = x at hb hj3 ⊢
      simp only [costL]
      by_cases a1 : x.op = 11
      · rw [if_pos a1] at hb
        rw [loop_done hb, if_neg (by omega), if_pos a1]; rfl
      · rw [if_neg a1] at hb
        by_cases a2 : x.op = 10
        · rw [if_neg (by simp [a2])] at hb
          rw [if_pos a2]
          rcases end_from l hl k (i + 1) (by omega) with ⟨e1, e2⟩ | ⟨e1, e2⟩ | ⟨e, e0, e1, e2, e3⟩
          · rw [e1] at hb
            simp only [Option.bind_some, Sum.elim_inl, hj3, if_true] at hb
            rw [loop_done hb]
            have : (if (1 : Int) > 1 ∨ (0 : Int) > 0 ∨ x.n < 1 ∨ x.n > 300 then (0 : Int) else costL (n + 1) x.n 1 (l.drop (i + 1))) = 0 := by split <;> first | rfl | exact e2 _ _
            rw [this]; rfl
          · rw [e1] at hb
            simp only [Option.bind_some, Sum.elim_inr] at hb
            rw [loop_done hb]
            have : (if (1 : Int) > 1 ∨ (0 : Int) > 0 ∨ x.n < 1 ∨ x.n > 300 then (0 : Int) else costL (n + 1) x.n 1 (l.drop (i + 1))) = 0 := by split <;> first | rfl | exact e2 _ _
            rw [this]; rfl
          · rw [e2] at hb
            simp only [Option.bind_some, Sum.elim_inl, hj3] at hb
            rw [if_neg (by omega)] at hb
            by_cases b1 : x.n < 1
            · rw [if_pos b1] at hb; rw [loop_done hb, if_pos (by omega)]; rfl
            · rw [if_neg b1] at hb
              by_cases b2 : x.n > 300
              · rw [if_pos b2] at hb; rw [loop_done hb, if_pos (by omega)]; rfl
              · rw [if_neg b2] at hb
                have m1 : 0 ≤ x.n * ((e : Int) - i) := Int.mul_nonneg (by omega) (by omega)
                have m2 : x.n * ((e : Int) - i) ≤ 300 * ((e : Int) - i) := Int.mul_le_mul_of_nonneg_right (by omega) (by omega)
                rw [wr (n := (e : Int) - i) (by omega) (by omega), wr (n := x.n * ((e : Int) - i)) (by omega) (by omega), wr (n := n + 1 + x.n * ((e : Int) - i)) (by omega) (by omega), wrs e (by omega)] at hb
                rw [loop_next hb, if_neg (by omega), e3]
                have := ih (l.length - (e + 1)) (by omega) (e + 1) (n + 1 + x.n * ((e : Int) - i)) (by omega) (by omega) (by omega)
                rw [this]
                congr 2
                rw [show ((e : Int) - (i + 1 : Nat) + 1) = e - i by omega]
        · rw [if_pos a2] at hb
          rw [loop_next hb, if_neg a2, if_neg a1]
          exact ih k (by omega) (i + 1) (n + 1) (by omega) (by omega) (by omega)

theorem costOf_eq (l : List TIns) (hl : l.length ≤ 9000000) : ref_CostOf_2 l = some (costL 0 1 0 l) := by
  have := ref_from l hl l.length 0 0 (by omega) (by omega) (by omega)
  unfold ref_CostOf_2
  simpa using this
end Pam

/- What Cost and Check of the program and the document come to: the same. -/
namespace Pam
open Go

noncomputable def insOk (m : TImage) (x : TIns) : Bool := (code_judge_fits (Tjudge_code.mk m) x).getD false
theorem ins_eq (m : TImage) (x : TIns) (h1 : 1 ≤ m.cells) (h2 : m.cells ≤ 6000) : code_judge_fits (Tjudge_code.mk m) x = some (insOk m x) ∧ ref_insOK m x = some (insOk m x) := by
  obtain ⟨b, e1, e2⟩ := fits_eq m x h1 h2
  unfold insOk
  rw [e1, e2]
  exact ⟨rfl, rfl⟩

/-- a cell that is none -/
def outF (m : TImage) (l : List Int) (i : Nat) : Option TFault := if l.getD i default < 0 ∨ l.getD i default ≥ m.cells then some (TFault.mk 16 (-1)) else none
def outs (m : TImage) (l : List Int) : Option TFault := match upto l.length (outF m l) () with | .inr z => some z | .inl _ => none
def lists (m : TImage) (i : Nat) : List Int := (lit ([m.put, m.bools, m.get] : List (List Int))).getD i default
def F1 (m : TImage) : Unit ⊕ TFault := upto 3 (fun i => outs m (lists m i)) ()
noncomputable def F2 (m : TImage) : Unit ⊕ TFault := upto m.code.length (fun i => if insOk m (m.code.getD i default) then none else some (TFault.mk 4 i)) ()
def F3 (m : TImage) : TFault := if costL 0 1 0 m.code ≠ m.cost ∨ (costL 0 1 0 m.code = 0 ∧ (m.code.length : Int) > 0) then TFault.mk 18 (-1) else TFault.mk 0 0
noncomputable def imgF (m : TImage) : TFault :=
  if m.cells < 1 ∨ m.cells > 6000 ∨ m.regs < 1 ∨ m.regs > 40 then TFault.mk 13 (-1)
  else if (m.put.length : Int) > 6000 ∨ (m.bools.length : Int) > 6000 ∨ (m.get.length : Int) > 120000 ∨ (m.code.length : Int) > 200000 then TFault.mk 7 (-1)
  else match F1 m with
    | .inr z => z
    | .inl _ => match F2 m with
      | .inr z => z
      | .inl _ => F3 m

theorem lists_len (m : TImage) (h : m.put.length ≤ 9000000 ∧ m.bools.length ≤ 9000000 ∧ m.get.length ≤ 9000000) (i : Nat) : (lists m i).length ≤ 9000000 := by
  unfold lists lit
  match i with
  | 0 => exact h.1
  | 1 => exact h.2.1
  | 2 => exact h.2.2
  | i + 3 => exact Nat.zero_le _

theorem code_l3 (m : TImage) (x : Nat) (hx : x < 3) (hl : (lists m x).length ≤ 9000000) : loop (fun x12 => code_Check_l3 m x x12) 0 = some (upto (lists m x).length (outF m (lists m x)) ()) := by
  refine loop_upto _ _ _ (fun i hi => ?_) ?_
  · unfold code_Check_l3
    rw [Int.toNat_natCast, Int.toNat_natCast]
    show (if (i : Int) < ((lists m x).length : Int) then _ else _) = _
    rw [if_pos (ltI hi)]
    show (if 0 ≤ (i : Int) ∧ (i : Int) < ((lists m x).length : Int) then _ else _) = _
    rw [if_pos (inI hi), wrs i (by omega)]
    show (if (lists m x).getD i default < 0 then _ else if (lists m x).getD i default ≥ m.cells then _ else _) = _
    unfold outF
    by_cases a : (lists m x).getD i default < 0
    · rw [if_pos a, if_pos (.inl a)]
    · rw [if_neg a]
      by_cases b : (lists m x).getD i default ≥ m.cells
      · rw [if_pos b, if_pos (.inr b)]
      · rw [if_neg b, if_neg (by omega)]
  · unfold code_Check_l3
    rw [Int.toNat_natCast]
    exact if_neg (not_ltI (lists m x).length)

theorem ref_l3 (m : TImage) (x : Nat) (hx : x < 3) (hl : (lists m x).length ≤ 9000000) : loop (fun x23 => ref_ImageFault_l3 m x x23) 0 = some (upto (lists m x).length (outF m (lists m x)) ()) := by
  have h3 : 0 ≤ (x : Int) ∧ (x : Int) < 3 := by omega
  refine loop_upto _ _ _ (fun i hi => ?_) ?_
  · unfold ref_ImageFault_l3
    rw [if_pos h3, Int.toNat_natCast, Int.toNat_natCast]
    show (if (i : Int) < ((lists m x).length : Int) then (if 0 ≤ (i : Int) ∧ (i : Int) < ((lists m x).length : Int) then (if (lists m x).getD i default < 0 then _ else (if (lists m x).getD i default ≥ m.cells then _ else _)) else _) else _) = _
    rw [if_pos (ltI hi), if_pos (inI hi), wrs i (by omega)]
    unfold outF ref_F
    by_cases a : (lists m x).getD i default < 0
    · rw [if_pos a, if_pos (.inl a)]; rfl
    · rw [if_neg a]
      by_cases b : (lists m x).getD i default ≥ m.cells
      · rw [if_pos b, if_pos (.inr b)]; rfl
      · rw [if_neg b, if_neg (by omega)]
  · unfold ref_ImageFault_l3
    rw [if_pos h3, Int.toNat_natCast]
    exact if_neg (not_ltI (lists m x).length)

theorem code_l2 (m : TImage) (h : m.put.length ≤ 9000000 ∧ m.bools.length ≤ 9000000 ∧ m.get.length ≤ 9000000) : loop (fun x9 => code_Check_l2 m x9) 0 = some (F1 m) := by
  refine loop_upto 3 _ _ (fun i hi => ?_) ?_
  · unfold code_Check_l2
    have h3 : (i : Int) < 3 := by omega
    rw [if_pos h3, if_pos ⟨by omega, h3⟩, code_l3 m i hi (lists_len m h i)]
    unfold outs
    rcases upto_cases (lists m i).length (outF m (lists m i)) () with ⟨e, _⟩ | ⟨j, z, _, _, e⟩
    · rw [e]; simp only [Option.bind_some, Sum.elim_inl, code_Check_j3]; rw [wrs i (by omega)]
    · rw [e]; rfl
  · unfold code_Check_l2; rfl
theorem ref_l2 (m : TImage) (h : m.put.length ≤ 9000000 ∧ m.bools.length ≤ 9000000 ∧ m.get.length ≤ 9000000) : loop (fun x20 => ref_ImageFault_l2 m x20) 0 = some (F1 m) := by
  refine loop_upto 3 _ _ (fun i hi => ?_) ?_
  · unfold ref_ImageFault_l2
    have h3 : (i : Int) < 3 := by omega
    rw [if_pos h3, ref_l3 m i hi (lists_len m h i)]
    unfold outs
    rcases upto_cases (lists m i).length (outF m (lists m i)) () with ⟨e, _⟩ | ⟨j, z, _, _, e⟩
    · rw [e]; simp only [Option.bind_some, Sum.elim_inl, ref_ImageFault_j3]; rw [wrs i (by omega)]
    · rw [e]; rfl
  · unfold ref_ImageFault_l2; rfl

theorem code_l1 (m : TImage) (h1 : 1 ≤ m.cells) (h2 : m.cells ≤ 6000) (hl : m.code.length ≤ 9000000) : loop (fun x4 => code_Check_l1 m x4) 0 = some (F2 m) := by
  refine loop_upto _ _ _ (fun i hi => ?_) ?_
  · unfold code_Check_l1
    rw [if_pos (ltI hi), if_pos (inI hi), Int.toNat_natCast, (ins_eq m _ h1 h2).1, wrs i (by omega)]
    simp only [Option.bind_some]
    cases insOk m (m.code.getD i default) <;> rfl
  · unfold code_Check_l1; rw [if_neg (not_ltI _)]
theorem ref_l1 (m : TImage) (h1 : 1 ≤ m.cells) (h2 : m.cells ≤ 6000) (hl : m.code.length ≤ 9000000) : loop (fun x14 => ref_ImageFault_l1 m x14) 0 = some (F2 m) := by
  refine loop_upto _ _ _ (fun i hi => ?_) ?_
  · unfold ref_ImageFault_l1 ref_F
    rw [if_pos (ltI hi), if_pos (inI hi), Int.toNat_natCast, (ins_eq m _ h1 h2).2, wrs i (by omega)]
    simp only [Option.bind_some]
    cases insOk m (m.code.getD i default) <;> rfl
  · unfold ref_ImageFault_l1; rw [if_neg (not_ltI _)]

theorem check_eq (m : TImage) (hl : m.put.length ≤ 9000000 ∧ m.bools.length ≤ 9000000 ∧ m.get.length ≤ 9000000 ∧ m.code.length ≤ 9000000) : code_Check m = some (imgF m) := by
  unfold code_Check imgF
  by_cases c1 : m.cells < 1
  · rw [if_pos c1, if_pos (by omega)]
  rw [if_neg c1]
  by_cases c2 : m.cells > 6000
  · rw [if_pos c2, if_pos (by omega)]
  rw [if_neg c2]
  by_cases c3 : m.regs < 1
  · rw [if_pos c3, if_pos (by omega)]
  rw [if_neg c3]
  by_cases c4 : m.regs > 40
  · rw [if_pos c4, if_pos (by omega)]
  rw [if_neg c4, if_neg (show ¬ (m.cells < 1 ∨ m.cells > 6000 ∨ m.regs < 1 ∨ m.regs > 40) by omega)]
  by_cases c5 : (m.put.length : Int) > 6000
  · rw [if_pos c5, if_pos (by omega)]
  rw [if_neg c5]
  by_cases c6 : (m.bools.length : Int) > 6000
  · rw [if_pos c6, if_pos (by omega)]
  rw [if_neg c6]
  by_cases c7 : (m.get.length : Int) > 120000
  · rw [if_pos c7, if_pos (by omega)]
  rw [if_neg c7]
  by_cases c8 : (m.code.length : Int) > 200000
  · rw [if_pos c8, if_pos (by omega)]
  rw [if_neg c8, if_neg (show ¬ ((m.put.length : Int) > 6000 ∨ (m.bools.length : Int) > 6000 ∨ (m.get.length : Int) > 120000 ∨ (m.code.length : Int) > 200000) by omega)]
  rw [code_l2 m ⟨hl.1, hl.2.1, hl.2.2.1⟩]
  cases F1 m with
  | inr z => rfl
  | inl u =>
    simp only [Option.bind_some, Sum.elim_inl]
    unfold code_Check_j1
    rw [code_l1 m (by omega) (by omega) hl.2.2.2]
    cases F2 m with
    | inr z => rfl
    | inl u =>
      simp only [Option.bind_some, Sum.elim_inl]
      unfold code_Check_j2 F3
      rw [cost_eq _ hl.2.2.2]
      simp only [Option.bind_some]
      generalize costL 0 1 0 m.code = c
      generalize (m.code.length : Int) = n
      by_cases d1 : c = 0
      · rw [if_pos d1]
        by_cases d2 : n > 0
        · rw [if_pos d2, if_pos (.inr ⟨d1, d2⟩)]
        · rw [if_neg d2]
          by_cases d3 : c = m.cost
          · rw [if_neg (by simpa using d3), if_neg (by simp only [ne_eq, not_or, Decidable.not_not]; exact ⟨d3, fun h => d2 h.2⟩)]
          · rw [if_pos d3, if_pos (.inl d3)]
      · rw [if_neg d1]
        by_cases d3 : c = m.cost
        · rw [if_neg (by simpa using d3), if_neg (by simp only [ne_eq, not_or, Decidable.not_not]; exact ⟨d3, fun h => d1 h.1⟩)]
        · rw [if_pos d3, if_pos (.inl d3)]

theorem fault_eq (m : TImage) (hl : m.put.length ≤ 9000000 ∧ m.bools.length ≤ 9000000 ∧ m.get.length ≤ 9000000 ∧ m.code.length ≤ 9000000) : ref_ImageFault m = some (imgF m) := by
  unfold ref_ImageFault imgF ref_F
  simp only [Option.bind_some]
  by_cases c1 : m.cells < 1
  · rw [if_pos c1, if_pos (by omega)]
  rw [if_neg c1]
  by_cases c2 : m.cells > 6000
  · rw [if_pos c2, if_pos (by omega)]
  rw [if_neg c2]
  by_cases c3 : m.regs < 1
  · rw [if_pos c3, if_pos (by omega)]
  rw [if_neg c3]
  by_cases c4 : m.regs > 40
  · rw [if_pos c4, if_pos (by omega)]
  rw [if_neg c4, if_neg (show ¬ (m.cells < 1 ∨ m.cells > 6000 ∨ m.regs < 1 ∨ m.regs > 40) by omega)]
  by_cases c5 : (m.put.length : Int) > 6000
  · rw [if_pos c5, if_pos (by omega)]
  rw [if_neg c5]
  by_cases c6 : (m.bools.length : Int) > 6000
  · rw [if_pos c6, if_pos (by omega)]
  rw [if_neg c6]
  by_cases c7 : (m.get.length : Int) > 120000
  · rw [if_pos c7, if_pos (by omega)]
  rw [if_neg c7]
  by_cases c8 : (m.code.length : Int) > 200000
  · rw [if_pos c8, if_pos (by omega)]
  rw [if_neg c8, if_neg (show ¬ ((m.put.length : Int) > 6000 ∨ (m.bools.length : Int) > 6000 ∨ (m.get.length : Int) > 120000 ∨ (m.code.length : Int) > 200000) by omega)]
  rw [ref_l2 m ⟨hl.1, hl.2.1, hl.2.2.1⟩]
  cases F1 m with
  | inr z => rfl
  | inl u =>
    simp only [Option.bind_some, Sum.elim_inl]
    unfold ref_ImageFault_j1
    rw [ref_l1 m (by omega) (by omega) hl.2.2.2]
    cases F2 m with
    | inr z => rfl
    | inl u =>
      simp only [Option.bind_some, Sum.elim_inl]
      unfold ref_ImageFault_j2 F3 ref_F
      rw [costOf_eq _ hl.2.2.2]
      simp only [Option.bind_some]
      generalize costL 0 1 0 m.code = c
      generalize (m.code.length : Int) = n
      by_cases d3 : m.cost = c
      · subst d3
        rw [if_neg (by simp)]
        by_cases d1 : m.cost = 0
        · rw [if_pos d1]
          by_cases d2 : n > 0
          · rw [if_pos d2, if_pos (.inr ⟨d1, d2⟩)]
          · rw [if_neg d2, if_neg (by simp only [ne_eq, not_or, Decidable.not_not]; exact ⟨trivial, fun h => d2 h.2⟩)]
        · rw [if_neg d1, if_neg (by simp only [ne_eq, not_or, Decidable.not_not]; exact ⟨trivial, fun h => d1 h.1⟩)]
      · rw [if_pos d3, if_pos (.inl (fun h => d3 h.symm))]

theorem sameInts_refl (l : List Int) (hl : l.length ≤ 9000000) : ref_SameInts l l = some true := by
  unfold ref_SameInts
  rw [if_neg (by simp), loop_upto l.length (fun _ => none) ()]
  · rw [upto_none (fun _ _ => rfl)]; rfl
  · intro i hi
    unfold ref_SameInts_l1
    rw [if_pos (ltI hi), if_pos ⟨inI hi, inI hi⟩, if_neg (by simp), wrs i (by omega)]
  · unfold ref_SameInts_l1; rw [if_neg (not_ltI _)]
theorem sameImage_refl (m : TImage) (hl : m.put.length ≤ 9000000 ∧ m.bools.length ≤ 9000000 ∧ m.get.length ≤ 9000000 ∧ m.code.length ≤ 9000000) : ref_SameImage m m = some true := by
  unfold ref_SameImage
  rw [if_neg (by simp), if_neg (by simp), if_neg (by simp), sameInts_refl _ hl.1, sameInts_refl _ hl.2.1, sameInts_refl _ hl.2.2.1]
  simp only [Option.bind_some, if_true]
  rw [if_neg (by simp), loop_upto m.code.length (fun _ => none) ()]
  · rw [upto_none (fun _ _ => rfl)]; rfl
  · intro i hi
    unfold ref_SameImage_l1
    rw [if_pos (ltI hi), if_pos ⟨inI hi, inI hi⟩, if_pos ⟨rfl, rfl, rfl, rfl, rfl, rfl⟩, wrs i (by omega)]
  · unfold ref_SameImage_l1; rw [if_neg (not_ltI _)]

theorem insOk_eq (m : TImage) (x : TIns) (b : Bool) (h1 : 1 ≤ m.cells) (h2 : m.cells ≤ 6000) (h : ref_insOK m x = some b) : insOk m x = b := by
  have := (ins_eq m x h1 h2).2
  rw [h] at this
  exact (Option.some.inj this).symm

def begunCode : List TIns := lit [TIns.mk 1 0 0 0 0 0, TIns.mk 10 0 0 0 0 3, TIns.mk 9 0 0 0 0 0, TIns.mk 11 0 0 0 0 0, TIns.mk 4 0 0 0 0 0]
theorem begun_chk : imgF (TImage.mk 1 1 9 [] [] [] begunCode) = TFault.mk 0 0 := by
  unfold imgF
  rw [if_neg (by decide), if_neg (by decide)]
  have f1 : F1 (TImage.mk 1 1 9 [] [] [] begunCode) = .inl () := by rfl
  rw [f1]
  have f2 : F2 (TImage.mk 1 1 9 [] [] [] begunCode) = .inl () := by
    refine upto_none fun i hi => ?_
    have hi : i < 5 := hi
    have : insOk (TImage.mk 1 1 9 [] [] [] begunCode) (begunCode.getD i default) = true := by
      refine insOk_eq _ _ _ (by decide) (by decide) ?_
      have r2 : ∀ l : List Int, l.length ≤ 9000000 → ref_regsOK (TImage.mk 1 1 9 [] [] [] begunCode) l = some (l.all (regOk 1)) := fun l hl => regsOK_eq _ l hl
      obtain ⟨a', b', e2⟩ := opOf_eq (begunCode.getD i default).k
      unfold ref_insOK
      rw [e2]
      simp only [Option.bind_some]
      unfold ref_insOK_j1 ref_insOK_j2
      rw [r2 _ (by simp [lit]), r2 _ (by simp [lit]), r2 _ (by simp [lit])]
      match i, hi with
      | 0, _ => rfl
      | 1, _ => rfl
      | 2, _ => rfl
      | 3, _ => rfl
      | 4, _ => rfl
    simp only at this ⊢
    rw [this]; rfl
  rw [f2]
  decide

end Pam

/- What code costs: the program and the document reckon the same. -/
namespace Pam
open Go

theorem code_fromO (l : List TIns) (hl : l.length ≤ 9000000) : ∀ (k i : Nat) (n times one : Int), i + k = l.length → 0 ≤ n → n ≤ 300 * i → 1 ≤ times → times ≤ 300 →
    (loop (fun (x11, x12, x13, x14) => code_Cost_l1 l x11 x12 x13 x14) (n, times, one, (i : Int))).bind (Sum.elim (fun (z15, z16) => code_Cost_j1 z15 z16) (fun z17 => some z17)) = some (costL n times one (l.drop i))
  | 0, i, n, times, one, hi, _, _, _, _ => by
    have hi : i = l.length := by omega
    subst hi
    rw [loop_done (o := .inl (n, one)) (by simp only [code_Cost_l1]; rw [if_neg (not_ltI _)]), List.drop_length]
    simp only [Option.bind_some, Sum.elim_inl, code_Cost_j1, costL]
    split <;> rfl
  | k + 1, i, n, times, one, hi, h1, h2, h3, h4 => by
    have hlt : i < l.length := by omega
    rw [drop_cons l i hlt]
    have hw : IntKind.wrap .i64 (n + times) = n + times := wr (by omega) (by omega)
    have hb : code_Cost_l1 l n times one i = (if (l.getD i default).op = 10 then (if times > 1 ∨ one > 0 ∨ (l.getD i default).n < 1 ∨ (l.getD i default).n > 300 then some (.inr (.inr 0)) else some (.inl (n + times, (l.getD i default).n, 1, ((i + 1 : Nat) : Int))))
        else if (l.getD i default).op = 11 then (if one = 0 then some (.inr (.inr 0)) else some (.inl (n + times, 1, 0, ((i + 1 : Nat) : Int)))) else some (.inl (n + times, times, one, ((i + 1 : Nat) : Int)))) := by
      unfold code_Cost_l1
      rw [if_pos (ltI hlt), if_pos (inI hlt), Int.toNat_natCast, hw, wrs i (by omega)]
      by_cases a1 : (l.getD i default).op = 10
      · rw [if_pos a1, if_pos a1]
        by_cases b1 : times > 1
        · rw [if_pos b1, if_pos (.inl b1)]
        · rw [if_neg b1]
          by_cases b2 : one > 0
          · rw [if_pos b2, if_pos (.inr (.inl b2))]
          · rw [if_neg b2]
            by_cases b3 : (l.getD i default).n < 1
            · rw [if_pos b3, if_pos (.inr (.inr (.inl b3)))]
            · rw [if_neg b3]
              by_cases b4 : (l.getD i default).n > 300
              · rw [if_pos b4, if_pos (.inr (.inr (.inr b4)))]
              · rw [if_neg b4, if_neg (by omega)]
      · rw [if_neg a1, if_neg a1]
    generalize l.getD i default = x at hb ⊢
    have ih := fun n' t' o' h1 h2 h3 h4 => code_fromO l hl k (i + 1) n' t' o' (by omega) h1 h2 h3 h4
    simp only [costL]
    by_cases a1 : x.op = 10
    · rw [if_pos a1] at hb ⊢
      by_cases b1 : times > 1 ∨ one > 0 ∨ x.n < 1 ∨ x.n > 300
      · rw [if_pos b1] at hb ⊢; rw [loop_done (by simpa using hb)]; rfl
      · rw [if_neg b1] at hb ⊢; rw [loop_next (by simpa using hb)]; exact ih _ _ _ (by omega) (by omega) (by omega) (by omega)
    · rw [if_neg a1] at hb ⊢
      by_cases a2 : x.op = 11
      · rw [if_pos a2] at hb ⊢
        by_cases b1 : one = 0
        · rw [if_pos b1] at hb ⊢; rw [loop_done (by simpa using hb)]; rfl
        · rw [if_neg b1] at hb ⊢; rw [loop_next (by simpa using hb)]; exact ih _ _ _ (by omega) (by omega) (by omega) (by omega)
      · rw [if_neg a2] at hb ⊢; rw [loop_next (by simpa using hb)]; exact ih _ _ _ (by omega) (by omega) (by omega) (by omega)

theorem costO_eq (l : List TIns) (hl : l.length ≤ 9000000) : code_Cost l = some (costL 0 1 0 l) := by
  have := code_fromO l hl l.length 0 0 1 0 (by omega) (by omega) (by omega) (by omega) (by omega)
  unfold code_Cost
  simpa using this

/-- where a loop ends -/
theorem end_fromO (l : List TIns) (hl : l.length ≤ 9000000) : ∀ (k j : Nat), j + k = l.length →
    (loop (fun x13 => ref_CostOf_l2 l x13) (j : Int) = some (.inl ((l.length : Nat) : Int)) ∧ ∀ n N, costL n N 1 (l.drop j) = 0) ∨
    (loop (fun x13 => ref_CostOf_l2 l x13) (j : Int) = some (.inr 0) ∧ ∀ n N, costL n N 1 (l.drop j) = 0) ∨
    ∃ e : Nat, j ≤ e ∧ e < l.length ∧ loop (fun x13 => ref_CostOf_l2 l x13) (j : Int) = some (.inl (e : Int)) ∧ ∀ n N, costL n N 1 (l.drop j) = costL (n + N * (e - j + 1)) 1 0 (l.drop (e + 1))
  | 0, j, hj => by
    have hj : j = l.length := by omega
    subst hj
    left
    refine ⟨loop_done (by simp only [ref_CostOf_l2]; rw [if_neg (not_ltI _)]), fun n N => ?_⟩
    rw [List.drop_length]; simp [costL]
  | k + 1, j, hj => by
    have hlt : j < l.length := by omega
    have hb : ref_CostOf_l2 l j = (if ¬ (l.getD j default).op = 11 then (if (l.getD j default).op = 10 then some (.inr (.inr 0)) else some (.inl ((j + 1 : Nat) : Int))) else some (.inr (.inl (j : Int)))) := by
      unfold ref_CostOf_l2
      rw [if_pos (ltI hlt), if_pos (inI hlt), Int.toNat_natCast, wrs j (by omega)]
    rw [drop_cons l j hlt]
    generalize l.getD j default = x at hb ⊢
    simp only [costL]
    by_cases a1 : x.op = 11
    · rw [if_neg (by simp [a1])] at hb
      refine .inr (.inr ⟨j, Nat.le_refl _, hlt, loop_done hb, fun n N => ?_⟩)
      rw [if_neg (by omega), if_pos a1, if_neg (by omega)]
      congr 1
      rw [show ((j : Int) - j + 1) = 1 by omega, Int.mul_one]
    · rw [if_pos a1] at hb
      by_cases a2 : x.op = 10
      · rw [if_pos a2] at hb
        refine .inr (.inl ⟨loop_done hb, fun n N => ?_⟩)
        rw [if_pos a2, if_pos (by omega)]
      · rw [if_neg a2] at hb
        rw [loop_next hb]
        rcases end_fromO l hl k (j + 1) (by omega) with ⟨h1, h2⟩ | ⟨h1, h2⟩ | ⟨e, h0, h1, h2, h3⟩
        · exact .inl ⟨h1, fun n N => by rw [if_neg a2, if_neg a1]; exact h2 _ _⟩
        · exact .inr (.inl ⟨h1, fun n N => by rw [if_neg a2, if_neg a1]; exact h2 _ _⟩)
        · refine .inr (.inr ⟨e, by omega, h1, h2, fun n N => ?_⟩)
          rw [if_neg a2, if_neg a1, h3]
          congr 1
          rw [show ((e : Int) - (j + 1 : Nat) + 1) = e - j by omega, Int.mul_add, Int.mul_one, Int.add_assoc]
          omega

theorem ref_fromO (l : List TIns) (hl : l.length ≤ 9000000) : ∀ (k i : Nat) (n : Int), i + k = l.length → 0 ≤ n → n ≤ 301 * i →
    (loop (fun (x6, x7) => ref_CostOf_l1 l x6 x7) (n, (i : Int))).bind (Sum.elim (fun z16 => ref_CostOf_j1 z16) (fun z17 => some z17)) = some (costL n 1 0 (l.drop i)) := by
  intro k
  induction k using Nat.strongRecOn with
  | _ k ih =>
    intro i n hi h1 h2
    cases k with
    | zero =>
      have hi : i = l.length := by omega
      subst hi
      rw [loop_done (o := .inl n) (by simp only [ref_CostOf_l1]; rw [if_neg (not_ltI _)]), List.drop_length]
      simp [ref_CostOf_j1, costL]
    | succ k =>
      have hlt : i < l.length := by omega
      have hw : IntKind.wrap .i64 (n + 1) = n + 1 := wr (by omega) (by omega)
      have hb : ref_CostOf_l1 l n i = (if (l.getD i default).op = 11 then some (.inr (.inr 0)) else if ¬ (l.getD i default).op = 10 then some (.inl (n + 1, ((i + 1 : Nat) : Int))) else
          (loop (fun x13 => ref_CostOf_l2 l x13) ((i + 1 : Nat) : Int)).bind (Sum.elim (fun z14 => ref_CostOf_j3 l n i z14) (fun z15 => some (.inr (.inr z15))))) := by
        unfold ref_CostOf_l1 ref_CostOf_j2
        rw [if_pos (ltI hlt), if_pos (inI hlt), Int.toNat_natCast, hw, wrs i (by omega)]
      have hd := drop_cons l i hlt
      have hj3 : ∀ z, ref_CostOf_j3 l n i z = (if z = (l.length : Int) then some (.inr (.inr 0)) else if (l.getD i default).n < 1 then some (.inr (.inr 0)) else if (l.getD i default).n > 300 then some (.inr (.inr 0)) else
          some (.inl (IntKind.wrap .i64 (n + 1 + IntKind.wrap .i64 ((l.getD i default).n * IntKind.wrap .i64 (z - i))), IntKind.wrap .i64 (z + 1)))) := by
        intro z; unfold ref_CostOf_j3 ref_CostOf_j2; rw [Int.toNat_natCast, hw]
      rw [hd]
      generalize l.getD i default = x at hb hj3 ⊢
      simp only [costL]
      by_cases a1 : x.op = 11
      · rw [if_pos a1] at hb
        rw [loop_done hb, if_neg (by omega), if_pos a1]; rfl
      · rw [if_neg a1] at hb
        by_cases a2 : x.op = 10
        · rw [if_neg (by simp [a2])] at hb
          rw [if_pos a2]
          rcases end_fromO l hl k (i + 1) (by omega) with ⟨e1, e2⟩ | ⟨e1, e2⟩ | ⟨e, e0, e1, e2, e3⟩
          · rw [e1] at hb
            simp only [Option.bind_some, Sum.elim_inl, hj3, if_true] at hb
            rw [loop_done hb]
            have : (if (1 : Int) > 1 ∨ (0 : Int) > 0 ∨ x.n < 1 ∨ x.n > 300 then (0 : Int) else costL (n + 1) x.n 1 (l.drop (i + 1))) = 0 := by split <;> first | rfl | exact e2 _ _
            rw [this]; rfl
          · rw [e1] at hb
            simp only [Option.bind_some, Sum.elim_inr] at hb
            rw [loop_done hb]
            have : (if (1 : Int) > 1 ∨ (0 : Int) > 0 ∨ x.n < 1 ∨ x.n > 300 then (0 : Int) else costL (n + 1) x.n 1 (l.drop (i + 1))) = 0 := by split <;> first | rfl | exact e2 _ _
            rw [this]; rfl
          · rw [e2] at hb
            simp only [Option.bind_some, Sum.elim_inl, hj3] at hb
            rw [if_neg (by omega)] at hb
            by_cases b1 : x.n < 1
            · rw [if_pos b1] at hb; rw [loop_done hb, if_pos (by omega)]; rfl
            · rw [if_neg b1] at hb
              by_cases b2 : x.n > 300
              · rw [if_pos b2] at hb; rw [loop_done hb, if_pos (by omega)]; rfl
              · rw [if_neg b2] at hb
                have m1 : 0 ≤ x.n * ((e : Int) - i) := Int.mul_nonneg (by omega) (by omega)
                have m2 : x.n * ((e : Int) - i) ≤ 300 * ((e : Int) - i) := Int.mul_le_mul_of_nonneg_right (by omega) (by omega)
                rw [wr (n := (e : Int) - i) (by omega) (by omega), wr (n := x.n * ((e : Int) - i)) (by omega) (by omega), wr (n := n + 1 + x.n * ((e : Int) - i)) (by omega) (by omega), wrs e (by omega)] at hb
                rw [loop_next hb, if_neg (by omega), e3]
                have := ih (l.length - (e + 1)) (by omega) (e + 1) (n + 1 + x.n * ((e : Int) - i)) (by omega) (by omega) (by omega)
                rw [this]
                congr 2
                rw [show ((e : Int) - (i + 1 : Nat) + 1) = e - i by omega]
        · rw [if_pos a2] at hb
          rw [loop_next hb, if_neg a2, if_neg a1]
          exact ih k (by omega) (i + 1) (n + 1) (by omega) (by omega) (by omega)

theorem costOfO_eq (l : List TIns) (hl : l.length ≤ 9000000) : ref_CostOf l = some (costL 0 1 0 l) := by
  have := ref_fromO l hl l.length 0 0 (by omega) (by omega) (by omega)
  unfold ref_CostOf
  simpa using this
end Pam

/- Make is as the document says: the image. -/
namespace Pam
open Go

theorem stepF_good {cells w : Int} {s : TPush} {d e : Int} (h : stepF cells w s d = some e) : goodP s := by
  unfold stepF at h
  unfold goodP
  by_cases h1 : s.op = 1
  · omega
  by_cases h2 : s.op = 2
  · omega
  by_cases h3 : s.op = 3
  · omega
  by_cases h4 : s.op = 4
  · omega
  by_cases h5 : s.op = 5
  · omega
  by_cases h6 : s.op = 6
  · omega
  by_cases h7 : s.op = 7
  · omega
  by_cases h8 : s.op = 8
  · omega
  · simp [h1, h2, h3, h4, h5, h6, h7, h8] at h
theorem treeF_good {cells w : Int} : ∀ (l : List TPush) (d e : Int), treeF cells w l d = some e → ∀ p ∈ l, goodP p
  | [], _, _, _, p, hp => by simp at hp
  | s :: l, d, e, h, p, hp => by
    unfold treeF at h
    cases hs : stepF cells w s d with
    | none => rw [hs] at h; cases h
    | some d' =>
      rw [hs] at h
      rcases List.mem_cons.1 hp with rfl | hp
      · exact stepF_good hs
      · exact treeF_good l d' e h p hp
theorem treeB_good {cells w : Int} {l : List TPush} (h : treeB cells w l = true) : (∀ p ∈ l, goodP p) ∧ l.length ≤ 24 := by
  unfold treeB at h
  cases ht : treeF cells w l 0 with
  | none => rw [ht] at h; cases h
  | some e =>
    rw [ht] at h
    simp only [decide_eq_true_eq] at h
    exact ⟨treeF_good l 0 e ht, by omega⟩
theorem stepOk_good {cells : Int} {x : TLoop} (h : stepOk cells x = true) : GoodX x := by
  unfold stepOk at h
  by_cases h1 : x.op = 1
  · rw [if_pos h1] at h
    simp only [Bool.and_eq_true] at h
    obtain ⟨k1, k2⟩ := treeB_good h.2
    exact ⟨.inl h1, k1, k2, fun e => absurd h1 e, fun e => by omega⟩
  · rw [if_neg h1] at h
    by_cases h2 : (x.op = 2 ∨ x.op = 3 ∨ x.op = 4) ∧ 1 ≤ x.n ∧ x.n ≤ 300
    · rw [if_pos h2] at h
      simp only [Bool.and_eq_true, Bool.or_eq_true, decide_eq_true_eq] at h
      obtain ⟨k1, k2⟩ := treeB_good h.1.1
      refine ⟨.inr h2.1, k1, k2, fun _ => h2.2.1, fun e => ?_⟩
      rcases h.2 with h3 | h3
      · omega
      · exact treeB_good h3.2
    · rw [if_neg h2] at h; cases h

/-- the image that is none -/
def img0 : TImage := TImage.mk 0 0 0 [] [] [] []
def stepE (i : Nat) (a : Int × List TIns) (x : TLoop) : (Int × List TIns) ⊕ (TImage × TFault) :=
  if ((a.2 ++ stepT x).length : Int) > 200000 ∨ regsL a.1 (stepT x) > 40 then .inr (img0, TFault.mk 7 i) else .inl (regsL a.1 (stepT x), a.2 ++ stepT x)
noncomputable def endE (m : TLoops) (bools : List Int) (a : Int × List TIns) : TImage × TFault :=
  let im := TImage.mk m.cells a.1 (costL 0 1 0 a.2) m.put bools m.get a.2
  if ¬ (imgF im).code = 0 then (img0, imgF im) else (im, TFault.mk 0 0)
/-- Make, without a program -/
noncomputable def makeF (m : TLoops) (bools : List Int) : TImage × TFault :=
  if ¬ (loopsF m).code = 0 then (img0, loopsF m) else match foldE stepE 0 m.steps (3, []) with | .inl a => endE m bools a | .inr z => z

theorem rregs : ∀ (T pre : List TIns) (x : Int), pre.length + T.length ≤ 900000 → loop (fun s : Int × Int => ref_Emitted_l2 (pre ++ T) s.1 s.2) (x, (pre.length : Int)) = some (regsL x T)
  | [], pre, x, h => by
    rw [loop_done (o := x) (by
      show ref_Emitted_l2 (pre ++ []) x (pre.length : Int) = _
      unfold ref_Emitted_l2
      rw [if_neg (by simp)])]
    rfl
  | t :: T, pre, x, h => by
    simp only [List.length_cons] at h
    have hlt : pre.length < (pre ++ t :: T).length := by simp
    have hget : (pre ++ t :: T).getD pre.length default = t := by simp [List.getD]
    have hb : ref_Emitted_l2 (pre ++ t :: T) x (pre.length : Int) = some (.inl ((if IntKind.wrap .i64 (t.r_ + 1) > x then IntKind.wrap .i64 (t.r_ + 1) else x), ((pre.length + 1 : Nat) : Int))) := by
      unfold ref_Emitted_l2
      rw [if_pos (ltI hlt), if_pos (inI hlt)]
      simp only [Int.toNat_natCast]
      rw [hget, wrs _ (by omega)]
      split <;> rfl
    rw [loop_next (s := (x, (pre.length : Int))) hb]
    have := rregs T (pre ++ [t]) (if IntKind.wrap .i64 (t.r_ + 1) > x then IntKind.wrap .i64 (t.r_ + 1) else x) (by simp; omega)
    simp only [List.append_assoc, List.cons_append, List.nil_append, List.length_append, List.length_cons, List.length_nil] at this
    exact this

theorem steps_good {m : TLoops} (h : (loopsF m).code = 0) : (∀ i, i < m.steps.length → GoodX (m.steps.getD i default)) ∧ m.put.length ≤ 6000 ∧ m.get.length ≤ 120000 ∧ m.steps.length ≤ 1200 := by
  unfold loopsF at h
  split at h
  · simp at h
  · split at h
    · simp at h
    · rename_i h2
      split at h
      · refine ⟨fun i hi => ?_, by omega, by omega, by omega⟩
        unfold stepsF at h
        rcases upto_cases m.steps.length (fun i => if stepOk m.cells (m.steps.getD i default) = true then none else some (TFault.mk 4 i)) () with ⟨e, hall⟩ | ⟨j, z, hj, hf, e⟩
        · have := hall i hi
          by_cases hs : stepOk m.cells (m.steps.getD i default) = true
          · exact stepOk_good hs
          · rw [if_neg hs] at this; cases this
        · rw [e] at h
          simp only at hf h
          by_cases hs : stepOk m.cells (m.steps.getD j default) = true
          · rw [if_pos hs] at hf; cases hf
          · rw [if_neg hs] at hf
            simp only [Option.some.injEq] at hf
            rw [← hf] at h
            simp at h
      · simp at h

theorem roomN8 (n : Nat) (h : n ≤ 2000000) : room n 8 := by
  unfold room
  have : maxLen = 9223372036854775807 := rfl
  omega

theorem make2_eq (m : TLoops) (bools : List Int) (hs : ∀ x ∈ m.steps, x.e.length ≤ 9000000 ∧ x.f.length ≤ 9000000) (hb : bools.length ≤ 1500000) : emit_Make_2 m bools = some (makeF m bools) := by
  unfold emit_Make_2 makeF
  rw [loopCheck_eq m hs]
  simp only [Option.bind_some]
  by_cases h0 : (loopsF m).code = 0
  · obtain ⟨hg, hp, hq, hr⟩ := steps_good h0
    rw [if_neg (by simpa using h0), if_neg (by simpa using h0)]
    obtain ⟨h1, h2⟩ := loop_foldE (A := Int × List TIns) (T := TLoop) (O := Int × List TIns) (Z := TImage × TFault) (S := Int × List TIns × Int) (fun a i => (a.1, a.2, i)) (body := fun s => emit_Make_2_l1 m s.1 s.2.1 s.2.2) m.steps stepE
      (fun _ a => a.2.length ≤ 200000) (fun a => a) (3, []) (by simp)
      (by
        intro i a hi hI
        refine ⟨?_, ?_⟩
        · show emit_Make_2_l1 m a.1 a.2 (i : Int) = _
          unfold emit_Make_2_l1
          rw [if_pos (ltI hi), if_pos (inI hi)]
          simp only [Int.toNat_natCast]
          rw [estep_eq _ _ _ (hg i hi) (by omega)]
          simp only [Option.bind_some]
          unfold stepE
          by_cases k1 : ((a.2 ++ stepT (m.steps.getD i default)).length : Int) > 200000
          · rw [if_pos k1, if_pos (.inl k1)]; rfl
          · rw [if_neg k1]
            by_cases k2 : regsL a.1 (stepT (m.steps.getD i default)) > 40
            · rw [if_pos k2, if_pos (.inr k2)]; rfl
            · rw [if_neg k2, if_neg (by rintro (h | h) <;> contradiction), wr6 i (by omega)]
        · intro a' ha'
          unfold stepE at ha'
          split at ha'
          · cases ha'
          · rename_i hn
            simp only [Sum.inl.injEq] at ha'
            subst ha'
            simp only
            omega)
      (by
        intro a _
        show emit_Make_2_l1 m a.1 a.2 (m.steps.length : Int) = _
        unfold emit_Make_2_l1
        rw [if_neg (not_ltI _)])
    show (loop (fun s : Int × List TIns × Int => emit_Make_2_l1 m s.1 s.2.1 s.2.2) (3, [], 0)).bind (Sum.elim (fun z => emit_Make_2_j1 m bools z.1 z.2) (fun z => some z)) = _
    rw [h1]
    simp only [Option.bind_some]
    cases hf : foldE stepE 0 m.steps (3, []) with
    | inr z => rfl
    | inl a =>
      have hl := h2 a hf
      simp only [Sum.elim_inl]
      unfold emit_Make_2_j1
      rw [costO_eq _ (by omega)]
      simp only [Option.bind_some]
      rw [if_pos ⟨roomN8 _ (by omega), roomN8 _ (by omega), roomN8 _ (by omega)⟩, check_eq _ ⟨by show m.put.length ≤ _; omega, by show bools.length ≤ _; omega, by show m.get.length ≤ _; omega, by show a.2.length ≤ _; omega⟩]
      simp only [Option.bind_some, endE]
      split <;> rfl
  · rw [if_pos h0, if_pos h0]; rfl

theorem emitted_eq (m : TLoops) (bools : List Int) (hs : ∀ x ∈ m.steps, x.e.length ≤ 9000000 ∧ x.f.length ≤ 9000000) (hb : bools.length ≤ 1500000) : ref_Emitted m bools = some (makeF m bools) := by
  unfold ref_Emitted makeF
  rw [loopsFault_eq m hs]
  simp only [Option.bind_some]
  by_cases h0 : (loopsF m).code = 0
  · obtain ⟨hg, hp, hq, hr⟩ := steps_good h0
    rw [if_neg (by simpa using h0), if_neg (by simpa using h0)]
    obtain ⟨h1, h2⟩ := loop_foldE (A := Int × List TIns) (T := TLoop) (O := List TIns × Int) (Z := TImage × TFault) (S := List TIns × Int × Int) (fun a i => (a.2, a.1, i)) (body := fun s => ref_Emitted_l1 m s.1 s.2.1 s.2.2) m.steps stepE
      (fun _ a => a.2.length ≤ 200000) (fun a => (a.2, a.1)) (3, []) (by simp)
      (by
        intro i a hi hI
        have hT := stepT_len (hg i hi)
        refine ⟨?_, ?_⟩
        · show ref_Emitted_l1 m a.2 a.1 (i : Int) = _
          unfold ref_Emitted_l1
          rw [if_pos (ltI hi), if_pos (inI hi)]
          simp only [Int.toNat_natCast]
          rw [rstep_eq _ _ (hg i hi) (by omega)]
          simp only [Option.bind_some]
          have hrr := rregs (stepT (m.steps.getD i default)) a.2 a.1 (by omega)
          show (loop (fun s : Int × Int => ref_Emitted_l2 (a.2 ++ stepT (m.steps.getD i default)) s.1 s.2) (a.1, (a.2.length : Int))).bind (fun z55 => ref_Emitted_j3 (i : Int) (a.2 ++ stepT (m.steps.getD i default)) z55) = _
          rw [hrr]
          simp only [Option.bind_some]
          unfold stepE ref_Emitted_j3
          have hF : ref_F 7 (i : Int) = some (TFault.mk 7 i) := rfl
          by_cases k1 : ((a.2 ++ stepT (m.steps.getD i default)).length : Int) > 200000
          · rw [if_pos k1, if_pos (.inl k1), hF]; rfl
          · rw [if_neg k1]
            by_cases k2 : regsL a.1 (stepT (m.steps.getD i default)) > 40
            · rw [if_pos k2, if_pos (.inr k2), hF]; rfl
            · rw [if_neg k2, if_neg (by rintro (h | h) <;> contradiction)]
              unfold ref_Emitted_j2
              rw [wr6 i (by omega)]
        · intro a' ha'
          unfold stepE at ha'
          split at ha'
          · cases ha'
          · rename_i hn
            simp only [Sum.inl.injEq] at ha'
            subst ha'
            simp only
            omega)
      (by
        intro a _
        show ref_Emitted_l1 m a.2 a.1 (m.steps.length : Int) = _
        unfold ref_Emitted_l1
        rw [if_neg (not_ltI _)])
    show (loop (fun s : List TIns × Int × Int => ref_Emitted_l1 m s.1 s.2.1 s.2.2) ([], 3, 0)).bind (Sum.elim (fun z => ref_Emitted_j1 m bools z.1 z.2) (fun z => some z)) = _
    rw [h1]
    simp only [Option.bind_some]
    cases hf : foldE stepE 0 m.steps (3, []) with
    | inr z => rfl
    | inl a =>
      have hl := h2 a hf
      simp only [Sum.elim_inl]
      unfold ref_Emitted_j1
      rw [costOfO_eq _ (by omega)]
      simp only [Option.bind_some]
      rw [fault_eq _ ⟨by show m.put.length ≤ _; omega, by show bools.length ≤ _; omega, by show m.get.length ≤ _; omega, by show a.2.length ≤ _; omega⟩]
      simp only [Option.bind_some, endE]
      split <;> rfl
  · rw [if_pos h0, if_pos h0]; rfl
end Pam

/- Make is as the document says: the law. -/
namespace Pam
open Go

theorem great_tot (m : TLoops) (hl : m.steps.length ≤ 1048576) : ∃ b, ref_GreatLoops m = some b := by
  unfold ref_GreatLoops
  split
  · exact ⟨_, rfl⟩
  split
  · exact ⟨_, rfl⟩
  split
  · exact ⟨_, rfl⟩
  obtain ⟨h1, _⟩ := loop_foldE (A := Int) (T := TLoop) (O := Int) (Z := Bool) (S := Int × Int) (fun a i => (a, i)) (body := fun s => ref_GreatLoops_l1 m s.1 s.2) m.steps
    (fun _ a x => if ((x.e).length : Int) > 1000 ∨ ((x.f).length : Int) > 1000 then .inr true else .inl (IntKind.wrap .i64 (a + (IntKind.wrap .i64 ((x.e.length : Int) + (x.f.length : Int)))))) (fun _ _ => True) (fun a => a) 0 trivial
    (by
      intro i a hi _
      refine ⟨?_, fun _ _ => trivial⟩
      show ref_GreatLoops_l1 m a (i : Int) = _
      unfold ref_GreatLoops_l1
      rw [if_pos (ltI hi), if_pos (inI hi)]
      simp only [Int.toNat_natCast]
      by_cases k1 : (((m.steps.getD i default).e).length : Int) > 1000
      · rw [if_pos k1, if_pos (.inl k1)]
      · rw [if_neg k1]
        by_cases k2 : (((m.steps.getD i default).f).length : Int) > 1000
        · rw [if_pos k2, if_pos (.inr k2)]
        · rw [if_neg k2, if_neg (by rintro (h | h) <;> contradiction), wrs i (by omega)])
    (by
      intro a _
      show ref_GreatLoops_l1 m a (m.steps.length : Int) = _
      unfold ref_GreatLoops_l1
      rw [if_neg (not_ltI _)])
  show ∃ c, (loop (fun s : Int × Int => ref_GreatLoops_l1 m s.1 s.2) (0, 0)).bind _ = some c
  rw [h1]
  simp only [Option.bind_some]
  cases foldE (fun _ (a : Int) (x : TLoop) => if ((x.e).length : Int) > 1000 ∨ ((x.f).length : Int) > 1000 then Sum.inr true else .inl (IntKind.wrap .i64 (a + (IntKind.wrap .i64 ((x.e.length : Int) + (x.f.length : Int)))))) 0 m.steps 0 with
  | inl a => exact ⟨_, rfl⟩
  | inr z => exact ⟨_, rfl⟩

theorem roomBig {n b : Nat} (h : n ≤ 1100000) (hb : b ≤ 100) : room n b := by
  unfold room
  have hm : maxLen = 9223372036854775807 := rfl
  have : n * b ≤ 1100000 * 100 := Nat.mul_le_mul h hb
  omega

theorem copy_eq (m : TLoops) (hp : m.put.length ≤ 1048576) (hg : m.get.length ≤ 1048576) (hs : m.steps.length ≤ 1048576) (hx : ∀ x ∈ m.steps, x.e.length ≤ 1048576 ∧ x.f.length ≤ 1048576) : ref_CopyLoops m = some m := by
  unfold ref_CopyLoops
  rw [if_pos ⟨roomBig (by omega) (by omega), roomBig (by omega) (by omega)⟩]
  obtain ⟨h1, _⟩ := loop_fold (A := List TLoop) (T := TLoop) (O := List TLoop) (S := List TLoop × Int) (fun a i => (a, i)) (body := fun s => ref_CopyLoops_l1 m s.1 s.2) m.steps
    (fun a x => a ++ [x]) (fun i a => a.length = i) (fun a => a) [] rfl
    (by
      intro i a hi hI
      obtain ⟨q1, q2⟩ := hx _ (getD_mem hi)
      refine ⟨?_, by simp [hI]⟩
      show ref_CopyLoops_l1 m a (i : Int) = _
      unfold ref_CopyLoops_l1
      rw [if_pos (ltI hi), if_pos (inI hi)]
      simp only [Int.toNat_natCast]
      rw [if_pos ⟨roomBig (by omega) (by omega), roomBig (by omega) (by omega)⟩, if_pos (roomBig (by omega) (by omega)), wrs i (by omega)]
      rfl)
    (by
      intro a _
      show ref_CopyLoops_l1 m a (m.steps.length : Int) = _
      unfold ref_CopyLoops_l1
      rw [if_neg (not_ltI _)])
  show (loop (fun s : List TLoop × Int => ref_CopyLoops_l1 m s.1 s.2) ([], 0)).bind (fun z20 => ref_CopyLoops_j1 m z20) = _
  rw [h1]
  have : ∀ (l a : List TLoop), l.foldl (fun a x => a ++ [x]) a = a ++ l := by
    intro l
    induction l with
    | nil => intro a; simp
    | cons x l ih => intro a; rw [List.foldl_cons, ih]; simp
  rw [this]
  rfl

theorem samePush_refl (l : List TPush) (hl : l.length ≤ 9000000) : ref_samePush l l = some true := by
  unfold ref_samePush
  rw [if_neg (by simp), loop_upto l.length (fun _ => none) ()]
  · rw [upto_none (fun _ _ => rfl)]; rfl
  · intro i hi
    unfold ref_samePush_l1
    rw [if_pos (ltI hi), if_pos ⟨inI hi, inI hi⟩, if_pos (by simp), wrs i (by omega)]
  · unfold ref_samePush_l1; rw [if_neg (not_ltI _)]

theorem sameLoops_refl (m : TLoops) (h1 : m.put.length ≤ 9000000) (h2 : m.get.length ≤ 9000000) (h3 : m.steps.length ≤ 9000000) (hs : ∀ x ∈ m.steps, x.e.length ≤ 9000000 ∧ x.f.length ≤ 9000000) : ref_SameLoops m m = some true := by
  unfold ref_SameLoops
  rw [if_neg (by simp), sameInts_refl _ h1]
  simp only [Option.bind_some, if_true]
  rw [sameInts_refl _ h2]
  simp only [Option.bind_some, if_true]
  rw [if_neg (by simp), loop_upto m.steps.length (fun _ => none) ()]
  · rw [upto_none (fun _ _ => rfl)]; rfl
  · intro i hi
    obtain ⟨q1, q2⟩ := hs _ (getD_mem hi)
    unfold ref_SameLoops_l1
    rw [if_pos (ltI hi), if_pos ⟨inI hi, inI hi⟩, Int.toNat_natCast, if_neg (by simp), if_neg (by simp), if_neg (by simp), if_neg (by simp), samePush_refl _ q1]
    simp only [Option.bind_some, if_true]
    rw [samePush_refl _ q2]
    simp only [Option.bind_some, if_true]
    rw [wrs i (by omega)]
  · unfold ref_SameLoops_l1; rw [if_neg (not_ltI _)]

/-- Make without truths: the same as with none of them -/
theorem make1_eq (m : TLoops) (h : emit_Make_2 m [] = some (makeF m [])) : emit_Make m = some (makeF m []) := by
  rw [← h]
  unfold emit_Make emit_Make_2
  have hl : ∀ a b c, emit_Make_l1 m a b c = emit_Make_2_l1 m a b c := by
    intro a b c
    unfold emit_Make_l1 emit_Make_2_l1
    rfl
  have hj : ∀ a b, emit_Make_j1 m a b = emit_Make_2_j1 m [] a b := by
    intro a b
    unfold emit_Make_j1 emit_Make_2_j1
    have : room ([] : List Int).length 8 := roomBig (by simp) (by omega)
    simp only [this, and_true]
  simp only [hl, hj]

def begunE : TLoops := TLoops.mk 6 [1] [5] [TLoop.mk 1 0 0 5 [] [TPush.mk 2 0 1 0, TPush.mk 1 0 0 2, TPush.mk 6 1 0 0]]
def begunLc : List TIns := [TIns.mk 2 0 2 0 0 1, TIns.mk 1 0 3 0 0 2, TIns.mk 7 1 2 2 3 0, TIns.mk 4 0 2 0 0 5]
def begunIm : TImage := TImage.mk 6 4 4 [1] [] [5] begunLc
theorem begunIm_chk : imgF begunIm = TFault.mk 0 0 := by
  unfold imgF
  rw [if_neg (by decide), if_neg (by decide)]
  have f1 : F1 begunIm = .inl () := by rfl
  rw [f1]
  have f2 : F2 begunIm = .inl () := by
    refine upto_none fun i hi => ?_
    have hi : i < 4 := hi
    have : insOk begunIm (begunLc.getD i default) = true := by
      refine insOk_eq _ _ _ (by decide) (by decide) ?_
      have r2 : ∀ l : List Int, l.length ≤ 9000000 → ref_regsOK begunIm l = some (l.all (regOk 4)) := fun l hl => regsOK_eq _ l hl
      obtain ⟨a', b', e2⟩ := opOf_eq (begunLc.getD i default).k
      unfold ref_insOK
      rw [e2]
      simp only [Option.bind_some]
      unfold ref_insOK_j1 ref_insOK_j2
      rw [r2 _ (by simp [lit]), r2 _ (by simp [lit]), r2 _ (by simp [lit])]
      match i, hi with
      | 0, _ => rfl
      | 1, _ => rfl
      | 2, _ => rfl
      | 3, _ => rfl
    show (if insOk begunIm (begunLc.getD i default) = true then none else some (TFault.mk 4 (i : Int))) = none
    rw [this]; rfl
  rw [f2]
  decide
theorem begunE_ok : (makeF begunE []).2.code = 0 ∧ (makeF begunE []).1.cost = 4 ∧ (makeF begunE []).1.regs = 4 ∧ (makeF begunE []).1.code.length = 4 := by
  have h0 : loopsF begunE = TFault.mk 0 0 := by decide
  have h1 : foldE stepE 0 begunE.steps (3, []) = .inl (4, begunLc) := by decide
  have h2 : (imgF begunIm).code = 0 := by rw [begunIm_chk]
  unfold makeF
  rw [h0, h1]
  rw [if_neg (by decide)]
  simp only [endE]
  rw [show begunE.cells = 6 from rfl, show begunE.put = [1] from rfl, show begunE.get = [5] from rfl, show TImage.mk 6 4 (costL 0 1 0 begunLc) [1] [] [5] begunLc = begunIm from rfl, if_neg (by rw [h2]; decide)]
  exact ⟨rfl, by decide, rfl, rfl⟩

theorem emitBegun_true : law_emitBegun = some true := by
  unfold law_emitBegun
  have := make1_eq begunE (make2_eq begunE [] (by decide) (by simp))
  show (emit_Make begunE).bind _ = _
  rw [this]
  obtain ⟨h1, h2, h3, h4⟩ := begunE_ok
  simp only [Option.bind_some]
  rw [if_pos h1, if_pos h2, if_pos h3, h4]
  rfl

theorem makeF_len (m : TLoops) (bools : List Int) (hp : m.put.length ≤ 1048576) (hg : m.get.length ≤ 1048576) (hb : bools.length ≤ 1048576) :
    (makeF m bools).1.put.length ≤ 9000000 ∧ (makeF m bools).1.bools.length ≤ 9000000 ∧ (makeF m bools).1.get.length ≤ 9000000 ∧ (makeF m bools).1.code.length ≤ 9000000 := by
  have z : (img0.put.length ≤ 9000000 ∧ img0.bools.length ≤ 9000000 ∧ img0.get.length ≤ 9000000 ∧ img0.code.length ≤ 9000000) := by decide
  have key : ∀ (l : List TLoop) (i : Nat) (a : Int × List TIns), a.2.length ≤ 200000 → (match foldE stepE i l a with | .inl b => b.2.length ≤ 200000 | .inr z => z.1 = img0) := by
    intro l
    induction l with
    | nil => intro i a ha; exact ha
    | cons x l ih =>
      intro i a ha
      by_cases hc : ((a.2 ++ stepT x).length : Int) > 200000 ∨ regsL a.1 (stepT x) > 40
      · rw [foldE, show stepE i a x = .inr (img0, TFault.mk 7 i) from if_pos hc]
      · rw [foldE, show stepE i a x = .inl (regsL a.1 (stepT x), a.2 ++ stepT x) from if_neg hc]
        exact ih (i + 1) _ (by show (a.2 ++ stepT x).length ≤ 200000; omega)
  unfold makeF
  split
  · exact z
  · have := key m.steps 0 (3, []) (by simp)
    cases hf : foldE stepE 0 m.steps (3, []) with
    | inl a =>
      rw [hf] at this
      simp only [endE]
      split
      · exact z
      · exact ⟨by show m.put.length ≤ _; omega, by show bools.length ≤ _; omega, by show m.get.length ≤ _; omega, by show a.2.length ≤ _; simp only at this; omega⟩
    | inr q =>
      rw [hf] at this
      simp only at this ⊢
      rw [this]; exact z

theorem law_EmitMakes_true (m : TLoops) (bools : List Int) (_ : m.ok) (_ : okL (okI .i64) bools) (hs : m.sz + szL szI bools ≤ 1048576) : law_EmitMakes m bools = some true := by
  have z1 := szL_len (f := szI) (fun x => by unfold szI; omega) bools
  have z2 := szL_len (f := szI) (fun x => by unfold szI; omega) m.put
  have z3 := szL_len (f := szI) (fun x => by unfold szI; omega) m.get
  have z4 := szL_len TLoop.sz_pos m.steps
  unfold TLoops.sz at hs
  have hx : ∀ x ∈ m.steps, x.e.length ≤ 1048576 ∧ x.f.length ≤ 1048576 := by
    intro x hx
    have h1 := szL_mem (f := TLoop.sz) hx
    have h2 := szL_len TPush.sz_pos x.e
    have h3 := szL_len TPush.sz_pos x.f
    have h0 := TLoop.sz.eq_1 x
    omega
  have hx2 : ∀ x ∈ m.steps, x.e.length ≤ 9000000 ∧ x.f.length ≤ 9000000 := fun x h => by have := hx x h; omega
  unfold law_EmitMakes
  rw [emitBegun_true]
  obtain ⟨b, hb⟩ := great_tot m (by omega)
  rw [hb]
  simp only [Option.bind_some, if_true]
  split
  · rfl
  split
  · rfl
  rw [copy_eq m (by omega) (by omega) (by omega) hx]
  simp only [Option.bind_some]
  rw [if_pos (roomBig (by omega) (by omega)), make2_eq m bools hx2 (by omega), emitted_eq m bools hx2 (by omega)]
  simp only [Option.bind_some, and_self, if_true]
  rw [sameImage_refl _ (makeF_len m bools (by omega) (by omega) (by omega))]
  simp only [Option.bind_some, if_true]
  rw [sameLoops_refl m (by omega) (by omega) (by omega) hx2]
  simp only [Option.bind_some, if_true]
  rw [sameInts_refl _ (by omega)]
  rfl
end Pam
