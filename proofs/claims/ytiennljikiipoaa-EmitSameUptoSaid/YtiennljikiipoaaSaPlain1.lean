/- Trees of looping code: both tell the same trees good. -/
import Derived.Test.YtiennljikiipoaaSaFun1
import Derived.Test.YtiennljikiipoaaSWide1
set_option linter.all false
namespace Pam
open Go
def cO (k : Int) : Int := if 1 ≤ k ∧ k ≤ 12 then 2 else if k = 13 ∨ k = 14 then 1 else 0
theorem sS (k : Int) : ∃ a b, hL k = some (a, b, cO k) := by
 unfold hL cO
 repeat' split
 all_goals first
  | exact ⟨_, _, rfl⟩
  | (exfalso; omega)
theorem nI (k : Int) : ∃ a b, hM k = some (a, b, cO k) := by
 unfold hM
 by_cases h1 : k < 1
 ·rw [iP h1]; exact ⟨0, 0, by unfold cO; rw [iN (by omega), iN (by omega)]⟩
 ·rw [iN h1]
  by_cases h2 : k > 14
  ·rw [iP h2]; exact ⟨0, 0, by unfold cO; rw [iN (by omega), iN (by omega)]⟩
  ·rw [iN h2]
   have hg : (0 ≤ k ∧ k < (([63, 105, 105, 105, 105, 105, 105, 105, 105, 105, 98, 98, 98, 105, 98] : List UInt8).length : Int)) ∧ (0 ≤ k ∧ k < (([63, 105, 105, 105, 105, 105, 105, 105, 98, 98, 98, 98, 98, 105, 98] : List UInt8).length : Int)) := by
    simp only [List.length_cons, List.length_nil]; omega
   by_cases h3 : k ≥ 13
   ·rw [iP h3]; unfold ed; rw [iP hg]; exact ⟨_, _, by unfold cO; rw [iN (by omega), iP (by omega)]⟩
   ·rw [iN h3]; unfold ed; rw [iP hg]; exact ⟨_, _, by unfold cO; rw [iP (by omega)]⟩
def bi (cells a n : Int) : Bool := decide (0 ≤ a ∧ 1 ≤ n ∧ a + n ≤ cells)
theorem jB (m : aE) (a n : Int) (h1 : 1 ≤ m.cells) (h2 : m.cells ≤ 6000) : dB m a n = some (bi m.cells a n) := by
 unfold dB bi
 by_cases a1 : a ≥ 0
 ·rw [iP a1]
  by_cases a2 : n ≥ 1
  ·rw [iP a2]
   by_cases a3 : n ≤ m.cells
   ·rw [iP a3, wr (by omega) (by omega)]; congr 1; rw [decide_eq_decide]; omega
   ·rw [iN a3]; congr 1; symm; rw [decide_eq_false_iff_not]; omega
  ·rw [iN a2]; congr 1; symm; rw [decide_eq_false_iff_not]; omega
 ·rw [iN a1]; congr 1; symm; rw [decide_eq_false_iff_not]; omega
theorem lY (m : aE) (a n : Int) (h1 : 1 ≤ m.cells) (h2 : m.cells ≤ 6000) : eN m a n = some (bi m.cells a n) := by
 unfold eN bi
 by_cases a1 : a ≥ 0
 ·rw [iP a1]
  by_cases a2 : a < m.cells
  ·rw [iP a2]
   by_cases a3 : n ≥ 1
   ·rw [iP a3, wr (by omega) (by omega)]; congr 1; rw [decide_eq_decide]; omega
   ·rw [iN a3]; congr 1; symm; rw [decide_eq_false_iff_not]; omega
  ·rw [iN a2]; congr 1; symm; rw [decide_eq_false_iff_not]; omega
 ·rw [iN a1]; congr 1; symm; rw [decide_eq_false_iff_not]; omega
def fv (cells w : Int) (s : au) (d : Int) : Option Int :=
 if s.op = 1 then some (d + 1) else if s.op = 2 then (if bi cells s.v 1 = true then some (d + 1) else none)
 else if s.op = 3 then (if bi cells s.v w = true then some (d + 1) else none)
 else if s.op = 4 then (if s.n ≥ (-1000000000000000000) ∧ s.n ≤ 1000000000000000000 then some (d + 1) else none)
 else if s.op = 5 then (if cO s.k = 1 ∧ ¬ d < 1 then some d else none)
 else if s.op = 6 then (if cO s.k = 2 ∧ ¬ d < 2 then some (d - 1) else none)
 else if s.op = 7 then (if d < 3 then none else some (d - 2))
 else if s.op = 8 then (if bi cells s.v s.n = true ∧ ¬ d < 2 then some (d - 1) else none)
 else none
def fW (cells w : Int) : List au → Int → Option Int
 | [], d => some d
 | s :: r, d => match fv cells w s d with | none => none | some e => fW cells w r e
theorem pM {cells w : Int} {s : au} {d e : Int} (h : fv cells w s d = some e) (hd : 0 ≤ d) : 0 ≤ e ∧ e ≤ d + 1 := by
 unfold fv at h
 repeat' split at h
 all_goals first
  | (cases h; done)
  | (simp only [sJ] at h; omega)
theorem mz {l : List au} {cells w : Int} {body : Int × Int → Option ((Int × Int) ⊕ (Int ⊕ Bool))} (hl : l.length ≤ 9000000)
  (hs : ∀ (i : Nat) (d : Int), i < l.length → 0 ≤ d → d ≤ i → body (d, (i : Int)) = match fv cells w (l.getD i default) d with | none => some (.inr (.inr false)) | some e => some (.inl (e, ((i + 1 : Nat) : Int))))
  (he : ∀ d, body (d, (l.length : Int)) = some (.inr (.inl d))) : ∀ (k i : Nat) (d : Int), i + k = l.length → 0 ≤ d → d ≤ i →
  bg body (d, (i : Int)) = some (match fW cells w (l.drop i) d with | none => .inr false | some e => .inl e)
 | 0, i, d, hi, h1, h2 => by
  have : i = l.length := by omega
  subst this
  rw [List.drop_length]
  exact aQ (he d)
 | k + 1, i, d, hi, h1, h2 => by
  have hlt : i < l.length := by omega
  have hb := hs i d hlt h1 h2
  have hd : l.drop i = l.getD i default :: l.drop (i + 1) := by
   rw [List.drop_eq_getElem_cons hlt]
   simp [List.getD, hlt]
  rw [hd]
  simp only [fW]
  cases hf : fv cells w (l.getD i default) d with
  | none =>
   rw [hf] at hb
   exact aQ hb
  | some e =>
   rw [hf] at hb
   obtain ⟨g1, g2⟩ := pM hf h1
   rw [aW hb]
   exact mz hl hs he k (i + 1) e (by omega) g1 (by omega)
def eZ (cells w : Int) (l : List au) : Bool := match fW cells w l 0 with | none => false | some e => decide (e = 1 ∧ (l.length : Int) ≤ 24)
theorem vP (m : aE) (l : List au) (w : Int) (h1 : 1 ≤ m.cells) (h2 : m.cells ≤ 6000) (hl : l.length ≤ 9000000) (i : Nat) (d : Int) (hi : i < l.length) (d1 : 0 ≤ d) (d2 : d ≤ i) :
  d7 m l w d i = match fv m.cells w (l.getD i default) d with | none => some (.inr (.inr false)) | some e => some (.inl (e, ((i + 1 : Nat) : Int))) := by
 unfold d7
 rw [iP (ltI hi), iP (inI hi), tN, wrs i (by omega)]
 generalize l.getD i default = s
 unfold kI gc fv
 obtain ⟨a, b, hop⟩ := sS s.k
 have ht : cO s.k = 0 ∨ cO s.k = 1 ∨ cO s.k = 2 := by
  unfold cO
  split
  ·exact .inr (.inr rfl)
  ·split
   ·exact .inr (.inl rfl)
   ·exact .inl rfl
 have w0 : IntKind.wrap .i64 (1 - 0) = 1 := wr (by omega) (by omega)
 have w1 : IntKind.wrap .i64 (1 - 1) = 0 := wr (by omega) (by omega)
 have w2 : IntKind.wrap .i64 (1 - 2) = -1 := wr (by omega) (by omega)
 have w3 : IntKind.wrap .i64 (1 - 3) = -2 := wr (by omega) (by omega)
 by_cases o1 : s.op = 1
 ·simp only [iP o1, bSq, if_true]
  rw [iN (by omega), w0, wr (by omega) (by omega)]
 by_cases o2 : s.op = 2
 ·simp only [iN o1, iP o2, jB m _ _ h1 h2, bSq]
  cases bi m.cells s.v 1
  ·rfl
  ·simp only [if_true]; rw [iN (by omega), w0, wr (by omega) (by omega)]
 by_cases o3 : s.op = 3
 ·simp only [iN o1, iN o2, iP o3, jB m _ _ h1 h2, bSq]
  cases bi m.cells s.v w
  ·rfl
  ·simp only [if_true]; rw [iN (by omega), w0, wr (by omega) (by omega)]
 by_cases o4 : s.op = 4
 ·simp only [iN o1, iN o2, iN o3, iP o4]
  by_cases c1 : s.n ≥ (-1000000000000000000)
  ·rw [iP c1]
   simp only [bSq]
   by_cases c2 : s.n ≤ 1000000000000000000
   ·rw [iP (dT c2), iP (And.intro c1 c2), iN (by omega), w0, wr (by omega) (by omega)]
   ·rw [iN (by simpa using c2), iN (fun h => c2 h.2)]
  ·rw [iN c1, iN (fun h => c1 h.1)]; rfl
 by_cases o5 : s.op = 5
 ·have e : (s.op == 5) = true := by rw [o5]; rfl
  simp only [iN o1, iN o2, iN o3, iN o4, iP o5, e, if_true, hop, bSq]
  rw [o5, wr (n := (5 : Int) - 5) (by omega) (by omega), wr (n := (5 : Int) - 5 + 1) (by omega) (by omega)]
  rcases ht with t | t | t <;> rw [t]
  ·rfl
  ·by_cases c : d < 1
   ·rw [iP (show ((1 : Int) == 5 - 5 + 1) = true from rfl), iP c, iN (fun h : (1 : Int) = 1 ∧ ¬ d < 1 => h.2 c)]
   ·rw [iP (show ((1 : Int) == 5 - 5 + 1) = true from rfl), iN c, iP (show (1 : Int) = 1 ∧ ¬ d < 1 from ⟨rfl, c⟩), w1, Int.add_zero, wr (by omega) (by omega)]
  ·rfl
 by_cases o6 : s.op = 6
 ·have e : (s.op == 6) = true := by rw [o6]; rfl
  simp only [iN o1, iN o2, iN o3, iN o4, iN o5, iP o6, e, if_true, hop, bSq]
  rw [o6, wr (n := (6 : Int) - 5) (by omega) (by omega), wr (n := (6 : Int) - 5 + 1) (by omega) (by omega)]
  rcases ht with t | t | t <;> rw [t]
  ·rfl
  ·rfl
  ·by_cases c : d < 2
   ·rw [iP (show ((2 : Int) == 6 - 5 + 1) = true from rfl), iP c, iN (fun h : (2 : Int) = 2 ∧ ¬ d < 2 => h.2 c)]
   ·rw [iP (show ((2 : Int) == 6 - 5 + 1) = true from rfl), iN c, iP (show (2 : Int) = 2 ∧ ¬ d < 2 from ⟨rfl, c⟩), w2, show d + -1 = d - 1 by omega, wr (by omega) (by omega)]
 have e : (s.op == 6) = false := by simp [o6]
 simp only [iN o1, iN o2, iN o3, iN o4, iN o5, iN o6, e]
 rw [iN (by simp)]
 by_cases o7 : s.op = 7
 ·simp only [iP o7, bSq, if_true]
  by_cases c : d < 3
  ·rw [iP c, iP c]
  ·rw [iN c, iN c, w3, show d + -2 = d - 2 by omega, wr (by omega) (by omega)]
 by_cases o8 : s.op = 8
 ·simp only [iN o7, iP o8, jB m _ _ h1 h2, bSq]
  cases bi m.cells s.v s.n
  ·simp
  ·by_cases c : d < 2
   ·simp only [if_true]; rw [iP c, iN (fun h => h.2 c)]
   ·simp only [if_true]; rw [iN c, iP ⟨trivial, c⟩, w2, show d + -1 = d - 1 by omega, wr (by omega) (by omega)]
 ·simp only [iN o7, iN o8, bSq]
  rfl
theorem vQ (m : aE) (l : List au) (w : Int) (h1 : 1 ≤ m.cells) (h2 : m.cells ≤ 6000) (hl : l.length ≤ 9000000) (i : Nat) (d : Int) (hi : i < l.length) (d1 : 0 ≤ d) (d2 : d ≤ i) :
  cw m l w d i = match fv m.cells w (l.getD i default) d with | none => some (.inr (.inr false)) | some e => some (.inl (e, ((i + 1 : Nat) : Int))) := by
 unfold cw
 rw [iP (ltI hi), iP (inI hi), tN, wrs i (by omega)]
 generalize l.getD i default = s
 obtain ⟨a, b, hop⟩ := nI s.k
 rw [hop, wr (n := d + 1) (by omega) (by omega), wr (n := d - 1) (by omega) (by omega), wr (n := d - 2) (by omega) (by omega)]
 simp only [bSq, lY m _ _ h1 h2]
 unfold fv
 by_cases o1 : s.op = 1
 ·simp only [iP o1]
 by_cases o2 : s.op = 2
 ·simp only [iN o1, iP o2]
  cases bi m.cells s.v 1 <;> rfl
 by_cases o3 : s.op = 3
 ·simp only [iN o1, iN o2, iP o3]
  cases bi m.cells s.v w <;> rfl
 by_cases o4 : s.op = 4
 ·simp only [iN o1, iN o2, iN o3, iP o4]
  by_cases c1 : s.n < (-1000000000000000000)
  ·rw [iP c1, iN (by omega)]
  ·rw [iN c1]
   by_cases c2 : s.n > 1000000000000000000
   ·rw [iP c2, iN (by omega)]
   ·rw [iN c2, iP (by omega)]
 by_cases o5 : s.op = 5
 ·simp only [iN o1, iN o2, iN o3, iN o4, iP o5]
  by_cases c1 : cO s.k = 1
  ·by_cases c : d < 1
   ·rw [iN (fun h => h c1), iP c, iN (fun h => h.2 c)]
   ·rw [iN (fun h => h c1), iN c, iP ⟨c1, c⟩]
  ·rw [iP c1, iN (fun h => c1 h.1)]
 by_cases o6 : s.op = 6
 ·simp only [iN o1, iN o2, iN o3, iN o4, iN o5, iP o6]
  by_cases c1 : cO s.k = 2
  ·by_cases c : d < 2
   ·rw [iN (fun h => h c1), iP c, iN (fun h => h.2 c)]
   ·rw [iN (fun h => h c1), iN c, iP ⟨c1, c⟩]
  ·rw [iP c1, iN (fun h => c1 h.1)]
 by_cases o7 : s.op = 7
 ·simp only [iN o1, iN o2, iN o3, iN o4, iN o5, iN o6, iP o7]
  by_cases c : d < 3
  ·rw [iP c, iP c]
  ·rw [iN c, iN c]
 by_cases o8 : s.op = 8
 ·simp only [iN o1, iN o2, iN o3, iN o4, iN o5, iN o6, iN o7, iP o8]
  cases bi m.cells s.v s.n
  ·simp
  ·by_cases c : d < 2
   ·rw [iP rfl, iP c, iN (fun h => h.2 c)]
   ·rw [iP rfl, iN c, iP ⟨rfl, c⟩]
 ·simp only [iN o1, iN o2, iN o3, iN o4, iN o5, iN o6, iN o7, iN o8]
theorem ri (m : aE) (l : List au) (w : Int) (h1 : 1 ≤ m.cells) (h2 : m.cells ≤ 6000) (hl : l.length ≤ 9000000) : ib m l w = some (eZ m.cells w l) := by
 have h := mz (body := fun (x6, x7) => d7 m l w x6 x7) (cells := m.cells) (w := w) hl (fun i d hi d1 d2 => vP m l w h1 h2 hl i d hi d1 d2) (fun d => by show d7 _ _ _ _ _ = _; unfold d7; rw [iN (bp _)]) l.length 0 0 (by omega) (by omega) (by omega)
 simp only [List.drop_zero, Int.natCast_zero] at h
 unfold ib eZ
 rw [h]
 cases fW m.cells w l 0 with
 | none => rfl
 | some e =>
  simp only [bSq, Sum.elim_inl]
  unfold gf
  by_cases c : e = 1
  ·rw [iP c]; simp [c]
  ·rw [iN c]; simp [c]
theorem pN (m : aE) (l : List au) (w : Int) (h1 : 1 ≤ m.cells) (h2 : m.cells ≤ 6000) (hl : l.length ≤ 9000000) : eu m l w = some (eZ m.cells w l) := by
 have h := mz (body := fun (x6, x7) => cw m l w x6 x7) (cells := m.cells) (w := w) hl (fun i d hi d1 d2 => vQ m l w h1 h2 hl i d hi d1 d2) (fun d => by show cw _ _ _ _ _ = _; unfold cw; rw [iN (bp _)]) l.length 0 0 (by omega) (by omega) (by omega)
 simp only [List.drop_zero, Int.natCast_zero] at h
 unfold eu eZ
 rw [h]
 cases fW m.cells w l 0 with
 | none => rfl
 | some e =>
  simp only [bSq, Sum.elim_inl]
  unfold dJ
  by_cases c : e = 1
  ·rw [iP c]; simp [c]
  ·rw [iN c]; simp [c]
def bG (cells : Int) (x : ap) : Bool :=
 if x.op = 1 then bi cells x.to 1 && eZ cells 1 x.e
 else if (x.op = 2 ∨ x.op = 3 ∨ x.op = 4) ∧ 1 ≤ x.n ∧ x.n ≤ 300 then
  eZ cells x.n x.e && bi cells x.to (if x.op = 3 then 1 else x.n) && (decide (x.op = 2) || (decide (cO x.k = 2) && eZ cells 1 x.f))
 else false
theorem sT (m : aE) (x : ap) (h1 : 1 ≤ m.cells) (h2 : m.cells ≤ 6000) (he : x.e.length ≤ 9000000) (hf : x.f.length ≤ 9000000) : jy m x = some (bG m.cells x) := by
 unfold jy fc gg bG
 obtain ⟨a, b, hop⟩ := sS x.k
 rw [hop]
 simp only [bSq, jB m _ _ h1 h2, ri m _ _ h1 h2 he, ri m _ _ h1 h2 hf]
 by_cases o1 : x.op = 1
 ·rw [iP o1, iP o1]
  cases bi m.cells x.to 1 <;> rfl
 rw [iN o1, iN o1]
 have fin : ∀ (w : Int), (x.op = 2 ∨ x.op = 3 ∨ x.op = 4) → w = (if x.op = 3 then 1 else x.n) →
   (if x.n ≥ 1 then if x.n ≤ 300 then if bi m.cells x.to w = true then if eZ m.cells x.n x.e = true then if x.op = 2 then some true else if cO x.k = 2 then some (eZ m.cells 1 x.f) else some false else some false else some false else some false else some false) =
   some (if (x.op = 2 ∨ x.op = 3 ∨ x.op = 4) ∧ 1 ≤ x.n ∧ x.n ≤ 300 then eZ m.cells x.n x.e && bi m.cells x.to (if x.op = 3 then 1 else x.n) && (decide (x.op = 2) || (decide (cO x.k = 2) && eZ m.cells 1 x.f)) else false) := by
  intro w ho hw
  rw [← hw]
  by_cases n1 : x.n ≥ 1
  ·by_cases n2 : x.n ≤ 300
   ·rw [iP n1, iP n2, iP (show (x.op = 2 ∨ x.op = 3 ∨ x.op = 4) ∧ 1 ≤ x.n ∧ x.n ≤ 300 from ⟨ho, n1, n2⟩)]
    cases bi m.cells x.to w
    ·simp
    ·cases eZ m.cells x.n x.e
     ·simp
     ·by_cases o2 : x.op = 2
      ·simp [o2]
      ·by_cases t : cO x.k = 2
       ·simp [o2, t]
       ·simp [o2, t]
   ·rw [iP n1, iN n2, iN (fun h => n2 h.2.2)]
  ·rw [iN n1, iN (fun h => n1 h.2.1)]
 by_cases o2 : x.op = 2
 ·have e : (x.op == 2) = true := by rw [o2]; rfl
  rw [iP o2, iP e, iN (by omega : ¬ x.op = 3)]
  exact fin x.n (.inl o2) (by rw [iN (by omega)])
 rw [iN o2]
 by_cases o4 : x.op = 4
 ·have e : (x.op == 4) = true := by rw [o4]; rfl
  rw [iP o4, iP e, iN (by omega : ¬ x.op = 3)]
  exact fin x.n (.inr (.inr o4)) (by rw [iN (by omega)])
 rw [iN o4]
 by_cases o3 : x.op = 3
 ·have e : (x.op == 3) = true := by rw [o3]; rfl
  rw [iP e, iP o3]
  exact fin 1 (.inr (.inl o3)) (by rw [iP o3])
 ·rw [iN (by simp [o3]), iN (by omega)]
theorem rT (m : aE) (x : ap) (h1 : 1 ≤ m.cells) (h2 : m.cells ≤ 6000) (he : x.e.length ≤ 9000000) (hf : x.f.length ≤ 9000000) : iY m x = some (bG m.cells x) := by
 unfold iY fI bG
 obtain ⟨a, b, hop⟩ := nI x.k
 rw [hop]
 simp only [bSq, lY m _ _ h1 h2, pN m _ _ h1 h2 he, pN m _ _ h1 h2 hf]
 by_cases o1 : x.op = 1
 ·rw [iP o1, iP o1]
  cases bi m.cells x.to 1 <;> rfl
 rw [iN o1, iN o1]
 by_cases c1 : x.op < 1
 ·rw [iP c1, iN (show ¬ ((x.op = 2 ∨ x.op = 3 ∨ x.op = 4) ∧ 1 ≤ x.n ∧ x.n ≤ 300) by omega)]
 rw [iN c1]
 by_cases c2 : x.op > 4
 ·rw [iP c2, iN (show ¬ ((x.op = 2 ∨ x.op = 3 ∨ x.op = 4) ∧ 1 ≤ x.n ∧ x.n ≤ 300) by omega)]
 rw [iN c2]
 by_cases c3 : x.n < 1
 ·rw [iP c3, iN (show ¬ ((x.op = 2 ∨ x.op = 3 ∨ x.op = 4) ∧ 1 ≤ x.n ∧ x.n ≤ 300) by omega)]
 rw [iN c3]
 by_cases c4 : x.n > 300
 ·rw [iP c4, iN (show ¬ ((x.op = 2 ∨ x.op = 3 ∨ x.op = 4) ∧ 1 ≤ x.n ∧ x.n ≤ 300) by omega)]
 rw [iN c4, iP (show (x.op = 2 ∨ x.op = 3 ∨ x.op = 4) ∧ 1 ≤ x.n ∧ x.n ≤ 300 by omega)]
 cases eZ m.cells x.n x.e
 ·simp
 ·by_cases o3 : x.op = 3
  ·rw [iP rfl, iP o3, iP o3]
   cases bi m.cells x.to 1
   ·simp
   ·by_cases t : cO x.k = 2
    ·simp [o3, t]
    ·simp [o3, t]
  ·rw [iP rfl, iN o3, iN o3]
   cases bi m.cells x.to x.n
   ·simp
   ·by_cases o2 : x.op = 2
    ·simp [o2]
    ·by_cases t : cO x.k = 2
     ·simp [o2, t]
     ·simp [o2, t]
theorem sU {n b : Nat} (h : n ≤ 200000) (hb : b ≤ 1000) : ju n b := by
 have h1 : n * b ≤ 200000 * 1000 := Nat.mul_le_mul h hb
 exact ⟨by omega, by simp only [maxLen]; omega⟩
theorem nJ {α Z : Type} [Inhabited α] (l : List α) (p : α → Bool) (z : Z) : kS l.length (fun i => if p (l.getD i default) = true then none else some z) () = if l.all p = true then .inl () else .inr z := by
 rcases eA l.length (fun i => if p (l.getD i default) = true then none else some z) () with ⟨e, h⟩ | ⟨i, z', hi, hf, e⟩
 ·rw [e, iP]
  rw [lX, decide_eq_true_eq]
  intro i hi
  have := h i hi
  split at this
  ·assumption
  ·cases this
 ·rw [e, iN]
  ·split at hf
   ·cases hf
   ·simp only [sJ] at hf; rw [hf]
  ·rw [lX, decide_eq_true_eq]
   intro h
   rw [iP (h i hi)] at hf
   cases hf
def kw (m : aE) : Unit ⊕ aq := kS m.steps.length (fun i => if bG m.cells (m.steps.getD i default) = true then none else some (aq.mk 4 i)) ()
def gm (m : aE) : aq :=
 if m.cells < 1 ∨ m.cells > 6000 then aq.mk 13 (-1)
 else if (m.put.length : Int) > 6000 ∨ (m.get.length : Int) > 120000 ∨ (m.steps.length : Int) > 1200 then aq.mk 7 (-1)
 else if (m.put ++ m.get).all (fun a => bi m.cells a 1) = true then (match kw m with | .inl _ => aq.mk 0 0 | .inr z => z)
 else aq.mk 16 (-1)
theorem tR (n : Nat) (h : n ≤ 200000) : dw (n : Int) = some [] := by
 have w0 : IntKind.wrap .i64 (0 - 0) = 0 := wr (by omega) (by omega)
 unfold dw
 rw [iN (by omega), w0, Int.sub_zero, wr (by omega) (by omega)]
 by_cases z : (n : Int) > 0
 ·rw [iP z, iP ⟨by omega, sU (by omega) (by omega)⟩, iP ⟨by omega, by omega⟩, List.take_zero]
 ·rw [iN z]
theorem rU (a b : List Int) (ha : a.length ≤ 6000) (hb : b.length ≤ 120000) : cQ (lit [a, b]) = some (a ++ b) := by
 unfold cQ
 rw [show lit ([a, b] : List (List Int)) = [a, b] from rfl]
 have hlen : (([a, b] : List (List Int)).length : Int) = 2 := rfl
 have e1 : IntKind.wrap .i64 (0 + (a.length : Int)) = (a.length : Int) := by rw [Int.zero_add]; exact wr (by omega) (by omega)
 have e2 : IntKind.wrap .i64 ((a.length : Int) + (b.length : Int)) = ((a.length + b.length : Nat) : Int) := by rw [wr (by omega) (by omega)]; omega
 have s1 : aY [a, b] 0 0 = some (.inl ((a.length : Int), 1)) := by
  unfold aY
  rw [iP (by rw [hlen]; omega), iP (by rw [hlen]; omega)]
  show (if IntKind.wrap .i64 (0 + (a.length : Int)) < 0 then none else (some (.inl (IntKind.wrap .i64 (0 + (a.length : Int)), IntKind.wrap .i64 (0 + 1))) : Option ((Int × Int) ⊕ Int))) = _
  rw [e1, iN (by omega)]; rfl
 have s2 : aY [a, b] (a.length : Int) 1 = some (.inl (((a.length + b.length : Nat) : Int), 2)) := by
  unfold aY
  rw [iP (by rw [hlen]; omega), iP (by rw [hlen]; omega)]
  show (if IntKind.wrap .i64 ((a.length : Int) + (b.length : Int)) < 0 then none else (some (.inl (IntKind.wrap .i64 ((a.length : Int) + (b.length : Int)), IntKind.wrap .i64 (1 + 1))) : Option ((Int × Int) ⊕ Int))) = _
  rw [e2, iN (by omega)]; rfl
 have s3 : ∀ x, aY [a, b] x 2 = some (.inr x) := by
  intro x
  unfold aY
  rw [iN (by rw [hlen]; omega)]
 rw [aW (s' := ((a.length : Int), 1)) s1, aW (s' := (((a.length + b.length : Nat) : Int), 2)) s2, aQ (s3 _)]
 simp only [bSq]
 unfold bx
 rw [tR _ (by omega)]
 simp only [bSq]
 have t1 : aX [a, b] [] 0 = some (.inl (a, 1)) := by
  unfold aX
  rw [iP (by rw [hlen]; omega), iP (by rw [hlen]; omega)]
  show (if ju (0 + a.length) 8 then (some (.inl ([] ++ a, IntKind.wrap .i64 (0 + 1))) : Option ((List Int × Int) ⊕ List Int)) else none) = _
  rw [iP (sU (by omega) (by omega))]; rfl
 have t2 : aX [a, b] a 1 = some (.inl (a ++ b, 2)) := by
  unfold aX
  rw [iP (by rw [hlen]; omega), iP (by rw [hlen]; omega)]
  show (if ju (a.length + b.length) 8 then (some (.inl (a ++ b, IntKind.wrap .i64 (1 + 1))) : Option ((List Int × Int) ⊕ List Int)) else none) = _
  rw [iP (sU (by omega) (by omega))]; rfl
 have t3 : aX [a, b] (a ++ b) 2 = some (.inr (a ++ b)) := by
  unfold aX
  rw [iN (by rw [hlen]; omega)]
 rw [aW (s' := (a, 1)) t1, aW (s' := (a ++ b, 2)) t2, aQ t3]
 rfl
theorem pO (m : aE) (hs : ∀ x ∈ m.steps, x.e.length ≤ 9000000 ∧ x.f.length ≤ 9000000) (i : Nat) (hi : i < m.steps.length) : (m.steps.getD i default).e.length ≤ 9000000 ∧ (m.steps.getD i default).f.length ≤ 9000000 := hs _ (ft hi)
theorem pf (m : aE) (hs : ∀ x ∈ m.steps, x.e.length ≤ 9000000 ∧ x.f.length ≤ 9000000) : iW m = some (gm m) := by
 unfold iW gm
 by_cases c1 : m.cells < 1
 ·rw [iP c1, iP (.inl c1)]
 rw [iN c1]
 by_cases c2 : m.cells > 6000
 ·rw [iP c2, iP (.inr c2)]
 rw [iN c2, iN (by omega : ¬ (m.cells < 1 ∨ m.cells > 6000))]
 by_cases c3 : (m.put.length : Int) > 6000
 ·rw [iP c3, iP (.inl c3)]
 rw [iN c3]
 by_cases c4 : (m.get.length : Int) > 120000
 ·rw [iP c4, iP (.inr (.inl c4))]
 rw [iN c4]
 by_cases c5 : (m.steps.length : Int) > 1200
 ·rw [iP c5, iP (.inr (.inr c5))]
 rw [iN c5, iN (by omega : ¬ ((m.put.length : Int) > 6000 ∨ (m.get.length : Int) > 120000 ∨ (m.steps.length : Int) > 1200))]
 rw [rU _ _ (by omega) (by omega)]
 simp only [bSq]
 rw [cD (m.put ++ m.get).length (fun i => if bi m.cells ((m.put ++ m.get).getD i default) 1 = true then none else some (aq.mk 16 (-1))) ()]
 ·rw [nJ (m.put ++ m.get) (fun a => bi m.cells a 1)]
  cases hh : (m.put ++ m.get).all (fun a => bi m.cells a 1)
  ·rfl
  ·simp only [bSq, if_true, Sum.elim_inl]
   unfold fA
   rw [cD m.steps.length (fun i => if bG m.cells (m.steps.getD i default) = true then none else some (aq.mk 4 i)) ()]
   ·show Option.bind (some (kw m)) _ = _
    cases kw m <;> rfl
   ·intro i hi
    obtain ⟨l1, l2⟩ := pO m hs i hi
    unfold gy
    rw [iP (ltI hi), iP (inI hi), tN, sT m _ (by omega) (by omega) l1 l2, wrs i (by omega)]
    simp only [bSq]
    cases bG m.cells (m.steps.getD i default) <;> rfl
   ·unfold gy; rw [iN (bp _)]
 ·intro i hi
  unfold gA
  rw [iP (ltI hi), iP (inI hi), tN, jB m _ _ (by omega) (by omega), wrs i (by simp at hi; omega)]
  simp only [bSq]
  cases bi m.cells ((m.put ++ m.get).getD i default) 1 <;> rfl
 ·unfold gA; rw [iN (bp _)]
theorem oh (m : aE) (hs : ∀ x ∈ m.steps, x.e.length ≤ 9000000 ∧ x.f.length ≤ 9000000) : fT m = some (gm m) := by
 unfold fT gm dh
 simp only [bSq]
 by_cases c1 : m.cells < 1
 ·rw [iP c1, iP (.inl c1)]
 rw [iN c1]
 by_cases c2 : m.cells > 6000
 ·rw [iP c2, iP (.inr c2)]
 rw [iN c2, iN (by omega : ¬ (m.cells < 1 ∨ m.cells > 6000))]
 by_cases c3 : (m.put.length : Int) > 6000
 ·rw [iP c3, iP (.inl c3)]
 rw [iN c3]
 by_cases c4 : (m.get.length : Int) > 120000
 ·rw [iP c4, iP (.inr (.inl c4))]
 rw [iN c4]
 by_cases c5 : (m.steps.length : Int) > 1200
 ·rw [iP c5, iP (.inr (.inr c5))]
 rw [iN c5, iN (by omega : ¬ ((m.put.length : Int) > 6000 ∨ (m.get.length : Int) > 120000 ∨ (m.steps.length : Int) > 1200))]
 rw [cD m.put.length (fun i => if bi m.cells (m.put.getD i default) 1 = true then none else some (aq.mk 16 (-1))) ()]
 ·rw [nJ m.put (fun a => bi m.cells a 1), List.all_append]
  cases hh : m.put.all (fun a => bi m.cells a 1)
  ·rfl
  ·simp only [bSq, if_true, Sum.elim_inl, Bool.true_and]
   unfold dj
   rw [cD m.get.length (fun i => if bi m.cells (m.get.getD i default) 1 = true then none else some (aq.mk 16 (-1))) ()]
   ·rw [nJ m.get (fun a => bi m.cells a 1)]
    cases hh : m.get.all (fun a => bi m.cells a 1)
    ·rfl
    ·simp only [bSq, if_true, Sum.elim_inl]
     unfold di
     rw [cD m.steps.length (fun i => if bG m.cells (m.steps.getD i default) = true then none else some (aq.mk 4 i)) ()]
     ·show Option.bind (some (kw m)) _ = _
      cases kw m <;> rfl
     ·intro i hi
      obtain ⟨l1, l2⟩ := pO m hs i hi
      unfold ef dh
      rw [iP (ltI hi), iP (inI hi), tN, rT m _ (by omega) (by omega) l1 l2, wrs i (by omega)]
      simp only [bSq]
      cases bG m.cells (m.steps.getD i default) <;> rfl
     ·unfold ef; rw [iN (bp _)]
   ·intro i hi
    unfold eg dh
    rw [iP (ltI hi), iP (inI hi), tN, lY m _ _ (by omega) (by omega), wrs i (by omega)]
    simp only [bSq]
    cases bi m.cells (m.get.getD i default) 1 <;> rfl
   ·unfold eg; rw [iN (bp _)]
 ·intro i hi
  unfold eh dh
  rw [iP (ltI hi), iP (inI hi), tN, lY m _ _ (by omega) (by omega), wrs i (by omega)]
  simp only [bSq]
  cases bi m.cells (m.put.getD i default) 1 <;> rfl
 ·unfold eh; rw [iN (bp _)]
def fX (x : Int) (l : List ah) : Int := l.foldl (fun x i => if IntKind.wrap .i64 (i.r_ + 1) > x then IntKind.wrap .i64 (i.r_ + 1) else x) x
theorem er (x : Int) (a b : List ah) : fX x (a ++ b) = fX (fX x a) b := by unfold fX; rw [List.foldl_append]
theorem uW (n : Nat) (h : n ≤ 1000000) : ju n 48 := by
  unfold ju
  have : maxLen = 9223372036854775807 := rfl
  omega
theorem wr6 (i : Nat) (h : i < 1000000) : IntKind.wrap .i64 ((i : Int) + 1) = ((i + 1 : Nat) : Int) := wrs i (by omega)
theorem wsm {x : Int} (h : -1000000 ≤ x ∧ x ≤ 1000000) : IntKind.wrap .i64 x = x := wr (by omega) (by omega)
theorem il (p : List ah) (x : Int) (l : List ah) (h : l.length + p.length ≤ 900000) : aM p x l = some (fX x p, l ++ p) := by
  unfold aM
  obtain ⟨h1, _⟩ := oE (A := Int × List ah) (T := ah) (O := Int × List ah) (S := Int × List ah × Int) (fun a i => (a.1, a.2, i)) (body := fun s => bn p s.1 s.2.1 s.2.2) p
    (fun a t => (if IntKind.wrap .i64 (t.r_ + 1) > a.1 then IntKind.wrap .i64 (t.r_ + 1) else a.1, a.2 ++ [t])) (fun i a => a.2.length = l.length + i) (fun a => a) (x, l) (by simp)
    (by
      intro i a hi hI
      refine ⟨?_, by simp only [List.length_append, List.length_cons, List.length_nil]; omega⟩
      show bn p a.1 a.2 (i : Int) = _
      unfold bn
      rw [iP (ltI hi), iP (inI hi), iP (uW _ (by omega)), wr6 i (by omega)]
      rfl)
    (by
      intro a _
      show bn p a.1 a.2 (p.length : Int) = _
      unfold bn
      rw [iN (bp _)])
  show (bg (fun s : Int × List ah × Int => bn p s.1 s.2.1 s.2.2) (x, l, 0)).bind (fun z19 => some z19) = _
  rw [h1]
  have key : ∀ (p : List ah) (x : Int) (l : List ah), p.foldl (fun (a : Int × List ah) t => (if IntKind.wrap .i64 (t.r_ + 1) > a.1 then IntKind.wrap .i64 (t.r_ + 1) else a.1, a.2 ++ [t])) (x, l) = (fX x p, l ++ p) := by
    intro p
    induction p with
    | nil => intro x l; simp [fX]
    | cons t p ih =>
      intro x l
      rw [List.foldl_cons, ih]
      simp [fX]
  rw [key]
  rfl
def dx (n r : Int) (p : au) : List ah :=
  if p.op = 1 then [ah.mk 1 0 r 0 0 p.n]
  else if p.op = 2 then [ah.mk 2 0 r 0 0 p.v]
  else if p.op = 3 then (if n = 0 then [ah.mk 2 0 r 0 0 p.v] else [ah.mk 3 0 r 0 n p.v])
  else if p.op = 4 then (if n = 0 then [ah.mk 1 0 r 0 0 p.n] else [ah.mk 1 0 r 0 0 p.n, ah.mk 7 1 r r 0 0])
  else if p.op = 5 then [ah.mk 6 p.k (r - 1) (r - 1) 0 0]
  else if p.op = 6 then [ah.mk 7 p.k (r - 2) (r - 2) (r - 1) 0]
  else if p.op = 7 then [ah.mk 8 0 (r - 3) (r - 2) (r - 1) 0]
  else [ah.mk 1 0 r 0 0 0, ah.mk 7 8 (r + 1) (r - 2) r 0, ah.mk 6 14 (r + 1) (r + 1) 0 0, ah.mk 1 0 (r + 2) 0 0 p.n, ah.mk 7 8 (r + 2) (r - 2) (r + 2) 0, ah.mk 7 10 (r + 1) (r + 1) (r + 2) 0,
    ah.mk 9 0 (r + 2) (r + 1) 0 0, ah.mk 8 0 (r + 2) (r - 2) r 0, ah.mk 3 0 (r + 2) (r + 2) p.n p.v, ah.mk 8 0 (r + 1) (r + 2) (r - 1) 0, ah.mk 9 0 (r - 2) (r + 1) 0 0]
def dD (r : Int) (p : au) : Int := if p.op = 5 then r else if p.op = 6 then r - 1 else if p.op = 7 then r - 2 else if p.op = 8 then r - 1 else r + 1
def lZ (p : au) : Prop := 1 ≤ p.op ∧ p.op ≤ 8
theorem oF (n r : Int) (p : au) : (dx n r p).length ≤ 11 := by
  unfold dx
  repeat' split
  all_goals simp
theorem pP {p : au} (h : lZ p) : p.op = 1 ∨ p.op = 2 ∨ p.op = 3 ∨ p.op = 4 ∨ p.op = 5 ∨ p.op = 6 ∨ p.op = 7 ∨ p.op = 8 := by
  obtain ⟨h1, h2⟩ := h; omega
theorem vR (r : Int) (hr : -100000 ≤ r ∧ r ≤ 100000) : IntKind.wrap .i64 (r - 1) = r - 1 ∧ IntKind.wrap .i64 (r - 2) = r - 2 ∧ IntKind.wrap .i64 (r - 3) = r - 3 ∧ IntKind.wrap .i64 (r + 1) = r + 1 ∧ IntKind.wrap .i64 (r + 2) = r + 2 ∧
    IntKind.wrap .i64 (r - 1 + 1) = r ∧ IntKind.wrap .i64 (r - 2 + 1) = r - 1 ∧ IntKind.wrap .i64 (r - 2 + 2) = r ∧ IntKind.wrap .i64 (r - 2 + 3) = r + 1 ∧ IntKind.wrap .i64 (r - 2 + 4) = r + 2 ∧ IntKind.wrap .i64 (r - 3 + 1) = r - 2 ∧ IntKind.wrap .i64 (r - 3 + 2) = r - 1 := by
  refine ⟨wsm (by omega), wsm (by omega), wsm (by omega), wsm (by omega), wsm (by omega), ?_, ?_, ?_, ?_, ?_, ?_, ?_⟩
  all_goals (rw [wsm (by omega)]; omega)
theorem vS (e : List au) (n x r : Int) (l : List ah) (i : Nat) (hi : i < e.length) (hg : lZ (e.getD i default)) (hr : -100000 ≤ r ∧ r ≤ 100000) (hl : l.length ≤ 800000) (hi' : i < 100000) :
    bk e n x l r (i : Int) = some (.inl (fX x (dx n r (e.getD i default)), l ++ dx n r (e.getD i default), dD r (e.getD i default), ((i + 1 : Nat) : Int))) := by
  unfold bk
  rw [iP (ltI hi), iP (inI hi)]
  simp only [tN]
  generalize e.getD i default = p at hg ⊢
  obtain ⟨w1, w2, w3, w4, w5, w6, w7, w8, w9, w10, w11, w12⟩ := vR r hr
  have hp := fun (q : List ah) (hq : q.length ≤ 20) => il q x l (by omega)
  rw [wr6 i (by omega)]
  rcases pP hg with h | h | h | h | h | h | h | h
  · simp only [h, if_true, dx, dD, Int.reduceEq, if_false, lit]
    rw [hp _ (by simp), w4]; rfl
  · simp only [h, if_true, dx, dD, Int.reduceEq, if_false, lit]
    rw [hp _ (by simp), w4]; rfl
  · simp only [h, if_true, dx, dD, Int.reduceEq, if_false, gh, lit]
    by_cases hn : n = 0
    · simp only [hn, if_true]
      rw [hp _ (by simp), w4]; rfl
    · simp only [hn, if_false]
      rw [hp _ (by simp), w4]; rfl
  · simp only [h, if_true, dx, dD, Int.reduceEq, if_false, fd, lit]
    by_cases hn : n = 0
    · simp only [hn, if_true]
      rw [hp _ (by simp), w4]; rfl
    · simp only [hn, if_false]
      rw [hp _ (by simp), w4]; rfl
  · simp only [h, if_true, dx, dD, Int.reduceEq, if_false, lit, w1, w6]
    rw [hp _ (by simp)]; rfl
  · simp only [h, if_true, dx, dD, Int.reduceEq, if_false, lit, w2, w7]
    rw [hp _ (by simp)]; rfl
  · simp only [h, if_true, dx, dD, Int.reduceEq, if_false, lit, w3, w11, w12]
    rw [hp _ (by simp)]; rfl
  · simp only [h, if_true, dx, dD, Int.reduceEq, if_false, lit, w2, w7, fM, w8, w9, w10]
    rw [hp _ (by simp)]; rfl
def dE (n : Int) : Int → List au → List ah
  | _, [] => []
  | r, p :: e => dx n r p ++ dE n (dD r p) e
def tS : Int → List au → Int
  | r, [] => r
  | r, p :: e => tS (dD r p) e
theorem kK (n : Int) : ∀ (e : List au) (r : Int), (dE n r e).length ≤ 11 * e.length
  | [], r => by simp [dE]
  | p :: e, r => by
    have h1 := oF n r p
    have h2 := kK n e (dD r p)
    simp only [dE, List.length_append, List.length_cons]; omega
theorem pQ (r : Int) (p : au) : r - 2 ≤ dD r p ∧ dD r p ≤ r + 1 := by
  unfold dD; repeat' split
  all_goals omega
theorem ma (e : List au) (r n x : Int) (l : List ah) (hg : ∀ p ∈ e, lZ p) (he : e.length ≤ 1000) (hr : -1000 ≤ r ∧ r ≤ 1000) (hl : l.length ≤ 700000) :
    cM e r n x l = some (fX x (dE n r e), l ++ dE n r e) := by
  unfold cM
  obtain ⟨h1, _⟩ := oE (A := Int × List ah × Int) (T := au) (O := Int × List ah) (S := Int × List ah × Int × Int) (fun a i => (a.1, a.2.1, a.2.2, i)) (body := fun s => bk e n s.1 s.2.1 s.2.2.1 s.2.2.2) e
    (fun a p => (fX a.1 (dx n a.2.2 p), a.2.1 ++ dx n a.2.2 p, dD a.2.2 p)) (fun i a => a.2.1.length ≤ l.length + 11 * i ∧ -1000 - 2 * (i : Int) ≤ a.2.2 ∧ a.2.2 ≤ 1000 + (i : Int)) (fun a => (a.1, a.2.1)) (x, l, r) (by simp; omega)
    (by
      intro i a hi hI
      obtain ⟨k1, k2, k3⟩ := hI
      refine ⟨vS e n a.1 a.2.2 a.2.1 i hi (hg _ (ft hi)) (by omega) (by omega) (by omega), ?_⟩
      have h1 := oF n a.2.2 (e.getD i default)
      have h2 := pQ a.2.2 (e.getD i default)
      simp only [List.length_append]
      omega)
    (by
      intro a _
      show bk e n a.1 a.2.1 a.2.2 (e.length : Int) = _
      unfold bk
      rw [iN (bp _)])
  show (bg (fun s : Int × List ah × Int × Int => bk e n s.1 s.2.1 s.2.2.1 s.2.2.2) (x, l, r, 0)).bind (fun z => some z) = _
  rw [h1]
  have key : ∀ (e : List au) (x : Int) (l : List ah) (r : Int), e.foldl (fun (a : Int × List ah × Int) p => (fX a.1 (dx n a.2.2 p), a.2.1 ++ dx n a.2.2 p, dD a.2.2 p)) (x, l, r) = (fX x (dE n r e), l ++ dE n r e, tS r e) := by
    intro e
    induction e with
    | nil => intro x l r; simp [dE, tS, fX]
    | cons p e ih =>
      intro x l r
      rw [List.foldl_cons, ih]
      simp only [dE, tS, er, List.append_assoc]
  rw [key]
  rfl
def bC (x : ap) : List ah :=
  if x.op = 1 then dE 0 2 x.e ++ [ah.mk 4 0 2 0 0 x.to]
  else (if x.op = 2 then [] else dE 0 2 x.f ++ [ah.mk 9 0 1 2 0 0]) ++ ([ah.mk 10 0 0 0 0 x.n] ++ (dE x.n 2 x.e ++
    ((if x.op = 2 then [ah.mk 5 0 2 0 x.n x.to] else if x.op = 3 then [ah.mk 7 x.k 1 1 2 0] else [ah.mk 7 x.k 1 1 2 0, ah.mk 5 0 1 0 x.n x.to]) ++ ([ah.mk 11 0 0 0 0 0] ++ (if x.op = 3 then [ah.mk 4 0 1 0 0 x.to] else [])))))
structure pR (x : ap) : Prop where
  op : x.op = 1 ∨ x.op = 2 ∨ x.op = 3 ∨ x.op = 4
  e : ∀ p ∈ x.e, lZ p
  el : x.e.length ≤ 24
  n : x.op ≠ 1 → 1 ≤ x.n
  f : x.op = 3 ∨ x.op = 4 → (∀ p ∈ x.f, lZ p) ∧ x.f.length ≤ 24
theorem sV (x : ap) (q : Int) (l : List ah) (h : pR x) (hl : l.length ≤ 300000) : d8 x q l = some (fX q (bC x), l ++ bC x) := by
  have t1 := kK 0 x.e 2
  have t2 := kK x.n x.e 2
  have t3 := kK 0 x.f 2
  have el := h.el
  have tail : ∀ (q : Int) (l : List ah), x.op = 2 ∨ x.op = 3 ∨ x.op = 4 → l.length ≤ 301000 → bO x q l = some (fX q ([ah.mk 10 0 0 0 0 x.n] ++ (dE x.n 2 x.e ++
    ((if x.op = 2 then [ah.mk 5 0 2 0 x.n x.to] else if x.op = 3 then [ah.mk 7 x.k 1 1 2 0] else [ah.mk 7 x.k 1 1 2 0, ah.mk 5 0 1 0 x.n x.to]) ++ ([ah.mk 11 0 0 0 0 0] ++ (if x.op = 3 then [ah.mk 4 0 1 0 0 x.to] else []))))),
      l ++ ([ah.mk 10 0 0 0 0 x.n] ++ (dE x.n 2 x.e ++
    ((if x.op = 2 then [ah.mk 5 0 2 0 x.n x.to] else if x.op = 3 then [ah.mk 7 x.k 1 1 2 0] else [ah.mk 7 x.k 1 1 2 0, ah.mk 5 0 1 0 x.n x.to]) ++ ([ah.mk 11 0 0 0 0 0] ++ (if x.op = 3 then [ah.mk 4 0 1 0 0 x.to] else [])))))) := by
    intro q l ho hl
    unfold bO
    rw [show (lit ([(ah.mk 10 0 0 0 0 x.n)] : List ah)) = [ah.mk 10 0 0 0 0 x.n] from rfl, il _ _ _ (by simp; omega)]
    simp only [bSq]
    rw [ma _ _ _ _ _ h.e (by omega) (by omega) (by simp; omega)]
    simp only [bSq]
    rcases ho with o | o | o
    · rw [iN (by omega)]
      unfold bu
      rw [iP (by omega), show (lit ([(ah.mk 5 0 2 0 x.n x.to)] : List ah)) = [ah.mk 5 0 2 0 x.n x.to] from rfl, il _ _ _ (by simp; omega)]
      simp only [bSq]
      unfold bt
      rw [show (lit ([(ah.mk 11 0 0 0 0 0)] : List ah)) = [ah.mk 11 0 0 0 0 0] from rfl, il _ _ _ (by simp; omega)]
      simp only [bSq]
      rw [iN (by omega), iP o, iN (by omega)]
      simp only [er, List.append_assoc, List.append_nil]
    · rw [iP (by omega), show (lit ([(ah.mk 7 x.k 1 1 2 0)] : List ah)) = [ah.mk 7 x.k 1 1 2 0] from rfl, il _ _ _ (by simp; omega)]
      simp only [bSq]
      unfold bu
      rw [iN (by omega)]
      unfold bt
      rw [show (lit ([(ah.mk 11 0 0 0 0 0)] : List ah)) = [ah.mk 11 0 0 0 0 0] from rfl, il _ _ _ (by simp; omega)]
      simp only [bSq]
      rw [iP o, show (lit ([(ah.mk 4 0 1 0 0 x.to)] : List ah)) = [ah.mk 4 0 1 0 0 x.to] from rfl, il _ _ _ (by simp; omega), iN (by omega), iP o, iP o]
      simp only [er, List.append_assoc, bSq]
    · rw [iP (by omega), show (lit ([(ah.mk 7 x.k 1 1 2 0)] : List ah)) = [ah.mk 7 x.k 1 1 2 0] from rfl, il _ _ _ (by simp; omega)]
      simp only [bSq]
      unfold bu
      rw [iP (by omega), show (lit ([(ah.mk 5 0 1 0 x.n x.to)] : List ah)) = [ah.mk 5 0 1 0 x.n x.to] from rfl, il _ _ _ (by simp; omega)]
      simp only [bSq]
      unfold bt
      rw [show (lit ([(ah.mk 11 0 0 0 0 0)] : List ah)) = [ah.mk 11 0 0 0 0 0] from rfl, il _ _ _ (by simp; omega)]
      simp only [bSq]
      rw [iN (by omega), iN (by omega), iN (by omega), iN (by omega), show [ah.mk 7 x.k 1 1 2 0, ah.mk 5 0 1 0 x.n x.to] = [ah.mk 7 x.k 1 1 2 0] ++ [ah.mk 5 0 1 0 x.n x.to] from rfl]
      simp only [er, List.append_assoc, List.append_nil]
  unfold d8
  rcases h.op with o | o | o | o
  · rw [iP o, ma _ _ _ _ _ h.e (by omega) (by omega) (by omega)]
    simp only [bSq]
    rw [show (lit ([(ah.mk 4 0 2 0 0 x.to)] : List ah)) = [ah.mk 4 0 2 0 0 x.to] from rfl, il _ _ _ (by simp; omega)]
    simp only [bSq, bC, o, if_true, er, List.append_assoc]
  · rw [iN (by omega), iN (by omega), tail _ _ (by omega) (by omega)]
    unfold bC
    simp only [o, Int.reduceEq, if_true, if_false, List.nil_append]
  · obtain ⟨f1, f2⟩ := h.f (.inl o)
    rw [iN (by omega), iP (by omega), ma _ _ _ _ _ f1 (by omega) (by omega) (by omega)]
    simp only [bSq]
    rw [show (lit ([(ah.mk 9 0 1 2 0 0)] : List ah)) = [ah.mk 9 0 1 2 0 0] from rfl, il _ _ _ (by simp; omega)]
    simp only [bSq]
    rw [tail _ _ (by omega) (by simp; omega)]
    conv => rhs; unfold bC
    simp only [o, Int.reduceEq, if_true, if_false, er, List.append_assoc, List.append_nil]
  · obtain ⟨f1, f2⟩ := h.f (.inr o)
    rw [iN (by omega), iP (by omega), ma _ _ _ _ _ f1 (by omega) (by omega) (by omega)]
    simp only [bSq]
    rw [show (lit ([(ah.mk 9 0 1 2 0 0)] : List ah)) = [ah.mk 9 0 1 2 0 0] from rfl, il _ _ _ (by simp; omega)]
    simp only [bSq]
    rw [tail _ _ (by omega) (by simp; omega)]
    conv => rhs; unfold bC
    simp only [o, Int.reduceEq, if_true, if_false, er, List.append_assoc, List.append_nil]
def dG (regs r : Int) : Bool := decide (0 ≤ r ∧ r < regs)
theorem sW (l : List Int) (j : bN) (hl : l.length ≤ 9000000) :
  cn l j = some (match kS l.length (fun i => if dG j.m_.regs (l.getD i default) then none else some (i : Int)) () with | .inr i => i | .inl _ => -1) := by
 unfold cn
 rw [cD l.length (fun i => if dG j.m_.regs (l.getD i default) then none else some (i : Int)) ()]
 ·rcases eA l.length (fun i => if dG j.m_.regs (l.getD i default) then none else some (i : Int)) () with ⟨h, _⟩ | ⟨i, z, _, _, h⟩
  ·rw [h]; rfl
  ·rw [h]; rfl
 ·intro i hi
  unfold bI
  rw [iP (ltI hi), iP (inI hi), tN, wrs i (by omega)]
  unfold gi
  by_cases h1 : l.getD i default < 0
  ·rw [iP h1]; simp only [bSq, if_true]; rw [iN (by simp only [dG, decide_eq_true_eq]; omega)]
  ·rw [iN h1]; simp only [bSq]
   by_cases h2 : l.getD i default ≥ j.m_.regs
   ·rw [iP (dT h2), iN (by simp only [dG, decide_eq_true_eq]; omega)]
   ·rw [iN (by simp only [decide_eq_true_eq]; exact h2), iP (by simp only [dG, decide_eq_true_eq]; omega)]
 ·unfold bI
  rw [iN (bp _)]
theorem uX (j : bN) (l : List Int) (hl : l.length ≤ 9000000) : bo j l = some (l.all (dG j.m_.regs)) := by
 unfold bo cF
 rw [sW l j hl, lX]
 rcases eA l.length (fun i => if dG j.m_.regs (l.getD i default) then none else some (i : Int)) () with ⟨h, h'⟩ | ⟨i, z, hi, hf, h⟩
 ·rw [h]
  have : ∀ i, i < l.length → dG j.m_.regs (l.getD i default) = true := fun i hi => by have := h' i hi; simpa using this
  rw [dT this]; rfl
 ·rw [h]
  have hn : ¬ ∀ i, i < l.length → dG j.m_.regs (l.getD i default) = true := fun k => by rw [iP (k i hi)] at hf; cases hf
  rw [dF hn]
  have : z = i := by split at hf <;> simp_all
  subst this
  simp
theorem mA (m : aB) (l : List Int) (hl : l.length ≤ 9000000) : co m l = some (l.all (dG m.regs)) := by
 unfold co
 rw [cD l.length (fun i => if dG m.regs (l.getD i default) then none else some false) ()]
 ·rw [lX]
  rcases eA l.length (fun i => if dG m.regs (l.getD i default) then none else some false) () with ⟨h, h'⟩ | ⟨i, z, hi, hf, h⟩
  ·rw [h]
   have : ∀ i, i < l.length → dG m.regs (l.getD i default) = true := fun i hi => by have := h' i hi; simpa using this
   rw [dT this]; rfl
  ·rw [h]
   have hn : ¬ ∀ i, i < l.length → dG m.regs (l.getD i default) = true := fun k => by rw [iP (k i hi)] at hf; cases hf
   rw [dF hn]
   have : z = false := by split at hf <;> simp_all
   subst this; rfl
 ·intro i hi
  unfold gE
  rw [iP (ltI hi), iP (inI hi), tN, wrs i (by omega)]
  by_cases h1 : l.getD i default < 0
  ·rw [iP h1, iN (by simp only [dG, decide_eq_true_eq]; omega)]
  ·rw [iN h1]
   by_cases h2 : l.getD i default ≥ m.regs
   ·rw [iP h2, iN (by simp only [dG, decide_eq_true_eq]; omega)]
   ·rw [iN h2, iP (by simp only [dG, decide_eq_true_eq]; omega)]
 ·unfold gE
  rw [iN (bp _)]
def iH (cells a n : Int) : Bool := decide (1 ≤ n ∧ n ≤ cells ∧ 0 ≤ a ∧ a ≤ cells - n)
theorem sX (j : bN) (a n : Int) (h1 : 1 ≤ j.m_.cells) (h2 : j.m_.cells ≤ 6000) : cS j a n = some (iH j.m_.cells a n) := by
 unfold cS iH
 by_cases a1 : n ≥ 1
 ·rw [iP a1]
  by_cases a2 : n ≤ j.m_.cells
  ·rw [iP a2, wr (by omega) (by omega)]
   by_cases a3 : a ≥ 0
   ·rw [iP a3]; congr 1; rw [Bool.eq_iff_iff]; simp only [decide_eq_true_eq]; omega
   ·rw [iN a3]; congr 1; symm; rw [decide_eq_false_iff_not]; omega
  ·rw [iN a2]; congr 1; symm; rw [decide_eq_false_iff_not]; omega
 ·rw [iN a1]; congr 1; symm; rw [decide_eq_false_iff_not]; omega
def nL (k : Int) : Int := if 1 ≤ k ∧ k ≤ 12 then 2 else if k = 13 ∨ k = 14 then 1 else 0
theorem vT (k : Int) : ∃ a b, hL k = some (a, b, nL k) := by
 unfold hL nL
 repeat' split
 all_goals first
  | exact ⟨_, _, rfl⟩
  | (exfalso; omega)
theorem rj (k : Int) : ∃ a b, hM k = some (a, b, nL k) := by
 unfold hM
 by_cases h1 : k < 1
 ·rw [iP h1]; exact ⟨0, 0, by unfold nL; rw [iN (by omega), iN (by omega)]⟩
 ·rw [iN h1]
  by_cases h2 : k > 14
  ·rw [iP h2]; exact ⟨0, 0, by unfold nL; rw [iN (by omega), iN (by omega)]⟩
  ·rw [iN h2]
   have hg : (0 ≤ k ∧ k < (([63, 105, 105, 105, 105, 105, 105, 105, 105, 105, 98, 98, 98, 105, 98] : List UInt8).length : Int)) ∧ (0 ≤ k ∧ k < (([63, 105, 105, 105, 105, 105, 105, 105, 98, 98, 98, 98, 98, 105, 98] : List UInt8).length : Int)) := by
    simp only [List.length_cons, List.length_nil]; omega
   by_cases h3 : k ≥ 13
   ·rw [iP h3]; unfold ed; rw [iP hg]; exact ⟨_, _, by unfold nL; rw [iN (by omega), iP (by omega)]⟩
   ·rw [iN h3]; unfold ed; rw [iP hg]; exact ⟨_, _, by unfold nL; rw [iP (by omega)]⟩
theorem tT (m : aB) (x : ah) (h1 : 1 ≤ m.cells) (h2 : m.cells ≤ 6000) : ∃ b, dt (bN.mk m) x = some b ∧ gj m x = some b := by
 obtain ⟨a, b, e1⟩ := vT x.k
 obtain ⟨a', b', e2⟩ := rj x.k
 have r1 : ∀ l : List Int, l.length ≤ 9000000 → bo (bN.mk m) l = some (l.all (dG m.regs)) := fun l hl => uX _ l hl
 have r2 : ∀ l : List Int, l.length ≤ 9000000 → co m l = some (l.all (dG m.regs)) := fun l hl => mA _ l hl
 have c1 : ∀ a n, cS (bN.mk m) a n = some (iH m.cells a n) := fun a n => sX _ a n h1 h2
 unfold dt gj
 rw [e1, e2]
 simp only [bSq]
 unfold cU ep cT eo
 have q1 := r1 (lit [x.r_]) (by simp [lit])
 have q2 := r1 (lit [x.r_, x.a]) (by simp [lit])
 have q3 := r1 (lit [x.r_, x.a, x.b]) (by simp [lit])
 have p1 := r2 (lit [x.r_]) (by simp [lit])
 have p2 := r2 (lit [x.r_, x.a]) (by simp [lit])
 have p3 := r2 (lit [x.r_, x.a, x.b]) (by simp [lit])
 rw [q1, q2, q3, p1, p2, p3]
 simp only [bSq, c1]
 generalize (lit [x.r_]).all (dG m.regs) = g1
 generalize (lit [x.r_, x.a]).all (dG m.regs) = g2
 generalize (lit [x.r_, x.a, x.b]).all (dG m.regs) = g3
 have k1 : (if x.n ≥ 0 then some (decide (x.n < m.cells)) else some false) = some (iH m.cells x.n 1) := by
  unfold iH
  split
  ·congr 1; rw [Bool.eq_iff_iff]; simp only [decide_eq_true_eq]; omega
  ·congr 1; symm; rw [decide_eq_false_iff_not]; omega
 have k2 : (if x.n ≥ 0 then if x.n < m.cells then if x.b ≥ 1 then some (decide (x.b ≤ IntKind.wrap .i64 (m.cells - x.n))) else some false else some false else some false) = some (iH m.cells x.n x.b) := by
  unfold iH
  split
  ·split
   ·split
    ·rw [wr (by omega) (by omega)]; congr 1; rw [Bool.eq_iff_iff]; simp only [decide_eq_true_eq]; omega
    ·congr 1; symm; rw [decide_eq_false_iff_not]; omega
   ·congr 1; symm; rw [decide_eq_false_iff_not]; omega
  ·congr 1; symm; rw [decide_eq_false_iff_not]; omega
 rw [k1, k2]
 generalize iH m.cells x.n 1 = g4
 generalize iH m.cells x.n x.b = g5
 have key : ∀ X : Option Bool, X.isSome = true → ∃ b, X = some b ∧ X = some b := fun X h => by
  obtain ⟨b, hb⟩ := Option.isSome_iff_exists.1 h
  exact ⟨b, hb, hb⟩
 refine key _ ?_
 simp only [apply_ite Option.isSome, Option.isSome_some, ite_self]
def cN (n times one : Int) : List ah → Int
 | [] => if one > 0 then 0 else n
 | x :: l =>
  if x.op = 10 then (if times > 1 ∨ one > 0 ∨ x.n < 1 ∨ x.n > 300 then 0 else cN (n + times) x.n 1 l)
  else if x.op = 11 then (if one = 0 then 0 else cN (n + times) 1 0 l)
  else cN (n + times) times one l
theorem oG (l : List ah) (hl : l.length ≤ 9000000) : ∀ (k i : Nat) (n times one : Int), i + k = l.length → 0 ≤ n → n ≤ 300 * i → 1 ≤ times → times ≤ 300 →
  (bg (fun (x11, x12, x13, x14) => dR l x11 x12 x13 x14) (n, times, one, (i : Int))).bind (Sum.elim (fun (z15, z16) => dQ z15 z16) (fun z17 => some z17)) = some (cN n times one (l.drop i))
 | 0, i, n, times, one, hi, _, _, _, _ => by
  have hi : i = l.length := by omega
  subst hi
  rw [aQ (o := .inl (n, one)) (by simp only [dR]; rw [iN (bp _)]), List.drop_length]
  simp only [bSq, Sum.elim_inl, dQ, cN]
  split <;> rfl
 | k + 1, i, n, times, one, hi, h1, h2, h3, h4 => by
  have hlt : i < l.length := by omega
  rw [kF l i hlt]
  have hw : IntKind.wrap .i64 (n + times) = n + times := wr (by omega) (by omega)
  have hb : dR l n times one i = (if (l.getD i default).op = 10 then (if times > 1 ∨ one > 0 ∨ (l.getD i default).n < 1 ∨ (l.getD i default).n > 300 then some (.inr (.inr 0)) else some (.inl (n + times, (l.getD i default).n, 1, ((i + 1 : Nat) : Int))))
    else if (l.getD i default).op = 11 then (if one = 0 then some (.inr (.inr 0)) else some (.inl (n + times, 1, 0, ((i + 1 : Nat) : Int)))) else some (.inl (n + times, times, one, ((i + 1 : Nat) : Int)))) := by
   unfold dR
   rw [iP (ltI hlt), iP (inI hlt), tN, hw, wrs i (by omega)]
   by_cases a1 : (l.getD i default).op = 10
   ·rw [iP a1, iP a1]
    by_cases b1 : times > 1
    ·rw [iP b1, iP (.inl b1)]
    ·rw [iN b1]
     by_cases b2 : one > 0
     ·rw [iP b2, iP (.inr (.inl b2))]
     ·rw [iN b2]
      by_cases b3 : (l.getD i default).n < 1
      ·rw [iP b3, iP (.inr (.inr (.inl b3)))]
      ·rw [iN b3]
       by_cases b4 : (l.getD i default).n > 300
       ·rw [iP b4, iP (.inr (.inr (.inr b4)))]
       ·rw [iN b4, iN (by omega)]
   ·rw [iN a1, iN a1]
  generalize l.getD i default = x at hb ⊢
  have ih := fun n' t' o' h1 h2 h3 h4 => oG l hl k (i + 1) n' t' o' (by omega) h1 h2 h3 h4
  simp only [cN]
  by_cases a1 : x.op = 10
  ·rw [iP a1] at hb ⊢
   by_cases b1 : times > 1 ∨ one > 0 ∨ x.n < 1 ∨ x.n > 300
   ·rw [iP b1] at hb ⊢; rw [aQ (by simpa using hb)]; rfl
   ·rw [iN b1] at hb ⊢; rw [aW (by simpa using hb)]; exact ih _ _ _ (by omega) (by omega) (by omega) (by omega)
  ·rw [iN a1] at hb ⊢
   by_cases a2 : x.op = 11
   ·rw [iP a2] at hb ⊢
    by_cases b1 : one = 0
    ·rw [iP b1] at hb ⊢; rw [aQ (by simpa using hb)]; rfl
    ·rw [iN b1] at hb ⊢; rw [aW (by simpa using hb)]; exact ih _ _ _ (by omega) (by omega) (by omega) (by omega)
   ·rw [iN a2] at hb ⊢; rw [aW (by simpa using hb)]; exact ih _ _ _ (by omega) (by omega) (by omega) (by omega)
theorem tU (l : List ah) (hl : l.length ≤ 9000000) : iu l = some (cN 0 1 0 l) := by
 have := oG l hl l.length 0 0 1 0 (by omega) (by omega) (by omega) (by omega) (by omega)
 unfold iu
 simpa using this
theorem pS (l : List ah) (hl : l.length ≤ 9000000) : ∀ (k j : Nat), j + k = l.length →
  (bg (fun x13 => cI l x13) (j : Int) = some (.inl ((l.length : Nat) : Int)) ∧ ∀ n N, cN n N 1 (l.drop j) = 0) ∨
  (bg (fun x13 => cI l x13) (j : Int) = some (.inr 0) ∧ ∀ n N, cN n N 1 (l.drop j) = 0) ∨
  ∃ e : Nat, j ≤ e ∧ e < l.length ∧ bg (fun x13 => cI l x13) (j : Int) = some (.inl (e : Int)) ∧ ∀ n N, cN n N 1 (l.drop j) = cN (n + N * (e - j + 1)) 1 0 (l.drop (e + 1))
 | 0, j, hj => by
  have hj : j = l.length := by omega
  subst hj
  left
  refine ⟨aQ (by simp only [cI]; rw [iN (bp _)]), fun n N => ?_⟩
  rw [List.drop_length]; simp [cN]
 | k + 1, j, hj => by
  have hlt : j < l.length := by omega
  have hb : cI l j = (if ¬ (l.getD j default).op = 11 then (if (l.getD j default).op = 10 then some (.inr (.inr 0)) else some (.inl ((j + 1 : Nat) : Int))) else some (.inr (.inl (j : Int)))) := by
   unfold cI
   rw [iP (ltI hlt), iP (inI hlt), tN, wrs j (by omega)]
  rw [kF l j hlt]
  generalize l.getD j default = x at hb ⊢
  simp only [cN]
  by_cases a1 : x.op = 11
  ·rw [iN (by simp [a1])] at hb
   refine .inr (.inr ⟨j, Nat.le_refl _, hlt, aQ hb, fun n N => ?_⟩)
   rw [iN (by omega), iP a1, iN (by omega)]
   congr 1
   rw [show ((j : Int) - j + 1) = 1 by omega, Int.mul_one]
  ·rw [iP a1] at hb
   by_cases a2 : x.op = 10
   ·rw [iP a2] at hb
    refine .inr (.inl ⟨aQ hb, fun n N => ?_⟩)
    rw [iP a2, iP (by omega)]
   ·rw [iN a2] at hb
    rw [aW hb]
    rcases pS l hl k (j + 1) (by omega) with ⟨h1, h2⟩ | ⟨h1, h2⟩ | ⟨e, h0, h1, h2, h3⟩
    ·exact .inl ⟨h1, fun n N => by rw [iN a2, iN a1]; exact h2 _ _⟩
    ·exact .inr (.inl ⟨h1, fun n N => by rw [iN a2, iN a1]; exact h2 _ _⟩)
    ·refine .inr (.inr ⟨e, by omega, h1, h2, fun n N => ?_⟩)
     rw [iN a2, iN a1, h3]
     congr 1
     rw [show ((e : Int) - (j + 1 : Nat) + 1) = e - j by omega, Int.mul_add, Int.mul_one, Int.add_assoc]
     omega
theorem sY (l : List ah) (hl : l.length ≤ 9000000) : ∀ (k i : Nat) (n : Int), i + k = l.length → 0 ≤ n → n ≤ 301 * i →
  (bg (fun (x6, x7) => ez l x6 x7) (n, (i : Int))).bind (Sum.elim (fun z16 => ew z16) (fun z17 => some z17)) = some (cN n 1 0 (l.drop i)) := by
 intro k
 induction k using Nat.strongRecOn with
 | _ k ih =>
  intro i n hi h1 h2
  cases k with
  | zero =>
   have hi : i = l.length := by omega
   subst hi
   rw [aQ (o := .inl n) (by simp only [ez]; rw [iN (bp _)]), List.drop_length]
   simp [ew, cN]
  | succ k =>
   have hlt : i < l.length := by omega
   have hw : IntKind.wrap .i64 (n + 1) = n + 1 := wr (by omega) (by omega)
   have hb : ez l n i = (if (l.getD i default).op = 11 then some (.inr (.inr 0)) else if ¬ (l.getD i default).op = 10 then some (.inl (n + 1, ((i + 1 : Nat) : Int))) else
     (bg (fun x13 => cI l x13) ((i + 1 : Nat) : Int)).bind (Sum.elim (fun z14 => dc l n i z14) (fun z15 => some (.inr (.inr z15))))) := by
    unfold ez ex
    rw [iP (ltI hlt), iP (inI hlt), tN, hw, wrs i (by omega)]
   have hd := kF l i hlt
   have hj3 : ∀ z, dc l n i z = (if z = (l.length : Int) then some (.inr (.inr 0)) else if (l.getD i default).n < 1 then some (.inr (.inr 0)) else if (l.getD i default).n > 300 then some (.inr (.inr 0)) else
     some (.inl (IntKind.wrap .i64 (n + 1 + IntKind.wrap .i64 ((l.getD i default).n * IntKind.wrap .i64 (z - i))), IntKind.wrap .i64 (z + 1)))) := by
    intro z; unfold dc ex; rw [tN, hw]
   rw [hd]
   generalize l.getD i default = x at hb hj3 ⊢
   simp only [cN]
   by_cases a1 : x.op = 11
   ·rw [iP a1] at hb
    rw [aQ hb, iN (by omega), iP a1]; rfl
   ·rw [iN a1] at hb
    by_cases a2 : x.op = 10
    ·rw [iN (by simp [a2])] at hb
     rw [iP a2]
     rcases pS l hl k (i + 1) (by omega) with ⟨e1, e2⟩ | ⟨e1, e2⟩ | ⟨e, e0, e1, e2, e3⟩
     ·rw [e1] at hb
      simp only [bSq, Sum.elim_inl, hj3, if_true] at hb
      rw [aQ hb]
      have : (if (1 : Int) > 1 ∨ (0 : Int) > 0 ∨ x.n < 1 ∨ x.n > 300 then (0 : Int) else cN (n + 1) x.n 1 (l.drop (i + 1))) = 0 := by split <;> first | rfl | exact e2 _ _
      rw [this]; rfl
     ·rw [e1] at hb
      simp only [bSq, Sum.elim_inr] at hb
      rw [aQ hb]
      have : (if (1 : Int) > 1 ∨ (0 : Int) > 0 ∨ x.n < 1 ∨ x.n > 300 then (0 : Int) else cN (n + 1) x.n 1 (l.drop (i + 1))) = 0 := by split <;> first | rfl | exact e2 _ _
      rw [this]; rfl
     ·rw [e2] at hb
      simp only [bSq, Sum.elim_inl, hj3] at hb
      rw [iN (by omega)] at hb
      by_cases b1 : x.n < 1
      ·rw [iP b1] at hb; rw [aQ hb, iP (by omega)]; rfl
      ·rw [iN b1] at hb
       by_cases b2 : x.n > 300
       ·rw [iP b2] at hb; rw [aQ hb, iP (by omega)]; rfl
       ·rw [iN b2] at hb
        have m1 : 0 ≤ x.n * ((e : Int) - i) := Int.mul_nonneg (by omega) (by omega)
        have m2 : x.n * ((e : Int) - i) ≤ 300 * ((e : Int) - i) := Int.mul_le_mul_of_nonneg_right (by omega) (by omega)
        rw [wr (n := (e : Int) - i) (by omega) (by omega), wr (n := x.n * ((e : Int) - i)) (by omega) (by omega), wr (n := n + 1 + x.n * ((e : Int) - i)) (by omega) (by omega), wrs e (by omega)] at hb
        rw [aW hb, iN (by omega), e3]
        have := ih (l.length - (e + 1)) (by omega) (e + 1) (n + 1 + x.n * ((e : Int) - i)) (by omega) (by omega) (by omega)
        rw [this]
        congr 2
        rw [show ((e : Int) - (i + 1 : Nat) + 1) = e - i by omega]
    ·rw [iP a2] at hb
     rw [aW hb, iN a2, iN a1]
     exact ih k (by omega) (i + 1) (n + 1) (by omega) (by omega) (by omega)
theorem rV (l : List ah) (hl : l.length ≤ 9000000) : iZ l = some (cN 0 1 0 l) := by
 have := sY l hl l.length 0 0 (by omega) (by omega) (by omega)
 unfold iZ
 simpa using this
noncomputable def lf (m : aB) (x : ah) : Bool := (dt (bN.mk m) x).getD false
theorem qH (m : aB) (x : ah) (h1 : 1 ≤ m.cells) (h2 : m.cells ≤ 6000) : dt (bN.mk m) x = some (lf m x) ∧ gj m x = some (lf m x) := by
 obtain ⟨b, e1, e2⟩ := tT m x h1 h2
 unfold lf
 rw [e1, e2]
 exact ⟨rfl, rfl⟩
def pT (m : aB) (l : List Int) (i : Nat) : Option aq := if l.getD i default < 0 ∨ l.getD i default ≥ m.cells then some (aq.mk 16 (-1)) else none
def sZ (m : aB) (l : List Int) : Option aq := match kS l.length (pT m l) () with | .inr z => some z | .inl _ => none
def eW (m : aB) (i : Nat) : List Int := (lit ([m.put, m.bools, m.get] : List (List Int))).getD i default
def F1 (m : aB) : Unit ⊕ aq := kS 3 (fun i => sZ m (eW m i)) ()
noncomputable def F2 (m : aB) : Unit ⊕ aq := kS m.code.length (fun i => if lf m (m.code.getD i default) then none else some (aq.mk 4 i)) ()
def F3 (m : aB) : aq := if cN 0 1 0 m.code ≠ m.cost ∨ (cN 0 1 0 m.code = 0 ∧ (m.code.length : Int) > 0) then aq.mk 18 (-1) else aq.mk 0 0
noncomputable def mP (m : aB) : aq :=
 if m.cells < 1 ∨ m.cells > 6000 ∨ m.regs < 1 ∨ m.regs > 40 then aq.mk 13 (-1)
 else if (m.put.length : Int) > 6000 ∨ (m.bools.length : Int) > 6000 ∨ (m.get.length : Int) > 120000 ∨ (m.code.length : Int) > 200000 then aq.mk 7 (-1)
 else match F1 m with
  | .inr z => z
  | .inl _ => match F2 m with
   | .inr z => z
   | .inl _ => F3 m
theorem oH (m : aB) (h : m.put.length ≤ 9000000 ∧ m.bools.length ≤ 9000000 ∧ m.get.length ≤ 9000000) (i : Nat) : (eW m i).length ≤ 9000000 := by
 unfold eW lit
 match i with
 | 0 => exact h.1
 | 1 => exact h.2.1
 | 2 => exact h.2.2
 | i + 3 => exact Nat.zero_le _
theorem tV (m : aB) (x : Nat) (hx : x < 3) (hl : (eW m x).length ≤ 9000000) : bg (fun x12 => fG m x x12) 0 = some (kS (eW m x).length (pT m (eW m x)) ()) := by
 refine cD _ _ _ (fun i hi => ?_) ?_
 ·unfold fG
  rw [tN, tN]
  show (if (i : Int) < ((eW m x).length : Int) then _ else _) = _
  rw [iP (ltI hi)]
  show (if 0 ≤ (i : Int) ∧ (i : Int) < ((eW m x).length : Int) then _ else _) = _
  rw [iP (inI hi), wrs i (by omega)]
  show (if (eW m x).getD i default < 0 then _ else if (eW m x).getD i default ≥ m.cells then _ else _) = _
  unfold pT
  by_cases a : (eW m x).getD i default < 0
  ·rw [iP a, iP (.inl a)]
  ·rw [iN a]
   by_cases b : (eW m x).getD i default ≥ m.cells
   ·rw [iP b, iP (.inr b)]
   ·rw [iN b, iN (by omega)]
 ·unfold fG
  rw [tN]
  exact iN (bp (eW m x).length)
theorem uY (m : aB) (x : Nat) (hx : x < 3) (hl : (eW m x).length ≤ 9000000) : bg (fun x23 => dq m x x23) 0 = some (kS (eW m x).length (pT m (eW m x)) ()) := by
 have h3 : 0 ≤ (x : Int) ∧ (x : Int) < 3 := by omega
 refine cD _ _ _ (fun i hi => ?_) ?_
 ·unfold dq
  rw [iP h3, tN, tN]
  show (if (i : Int) < ((eW m x).length : Int) then (if 0 ≤ (i : Int) ∧ (i : Int) < ((eW m x).length : Int) then (if (eW m x).getD i default < 0 then _ else (if (eW m x).getD i default ≥ m.cells then _ else _)) else _) else _) = _
  rw [iP (ltI hi), iP (inI hi), wrs i (by omega)]
  unfold pT dh
  by_cases a : (eW m x).getD i default < 0
  ·rw [iP a, iP (.inl a)]; rfl
  ·rw [iN a]
   by_cases b : (eW m x).getD i default ≥ m.cells
   ·rw [iP b, iP (.inr b)]; rfl
   ·rw [iN b, iN (by omega)]
 ·unfold dq
  rw [iP h3, tN]
  exact iN (bp (eW m x).length)
theorem tW (m : aB) (h : m.put.length ≤ 9000000 ∧ m.bools.length ≤ 9000000 ∧ m.get.length ≤ 9000000) : bg (fun x9 => fH m x9) 0 = some (F1 m) := by
 refine cD 3 _ _ (fun i hi => ?_) ?_
 ·unfold fH
  have h3 : (i : Int) < 3 := by omega
  rw [iP h3, iP ⟨by omega, h3⟩, tV m i hi (oH m h i)]
  unfold sZ
  rcases eA (eW m i).length (pT m (eW m i)) () with ⟨e, _⟩ | ⟨j, z, _, _, e⟩
  ·rw [e]; simp only [bSq, Sum.elim_inl, fF]; rw [wrs i (by omega)]
  ·rw [e]; rfl
 ·unfold fH; rfl
theorem uZ (m : aB) (h : m.put.length ≤ 9000000 ∧ m.bools.length ≤ 9000000 ∧ m.get.length ≤ 9000000) : bg (fun x20 => dr m x20) 0 = some (F1 m) := by
 refine cD 3 _ _ (fun i hi => ?_) ?_
 ·unfold dr
  have h3 : (i : Int) < 3 := by omega
  rw [iP h3, uY m i hi (oH m h i)]
  unfold sZ
  rcases eA (eW m i).length (pT m (eW m i)) () with ⟨e, _⟩ | ⟨j, z, _, _, e⟩
  ·rw [e]; simp only [bSq, Sum.elim_inl, dp]; rw [wrs i (by omega)]
  ·rw [e]; rfl
 ·unfold dr; rfl
theorem tX (m : aB) (h1 : 1 ≤ m.cells) (h2 : m.cells ≤ 6000) (hl : m.code.length ≤ 9000000) : bg (fun x4 => fD m x4) 0 = some (F2 m) := by
 refine cD _ _ _ (fun i hi => ?_) ?_
 ·unfold fD
  rw [iP (ltI hi), iP (inI hi), tN, (qH m _ h1 h2).1, wrs i (by omega)]
  simp only [bSq]
  cases lf m (m.code.getD i default) <;> rfl
 ·unfold fD; rw [iN (bp _)]
theorem u3 (m : aB) (h1 : 1 ≤ m.cells) (h2 : m.cells ≤ 6000) (hl : m.code.length ≤ 9000000) : bg (fun x14 => dl m x14) 0 = some (F2 m) := by
 refine cD _ _ _ (fun i hi => ?_) ?_
 ·unfold dl dh
  rw [iP (ltI hi), iP (inI hi), tN, (qH m _ h1 h2).2, wrs i (by omega)]
  simp only [bSq]
  cases lf m (m.code.getD i default) <;> rfl
 ·unfold dl; rw [iN (bp _)]
theorem s6 (m : aB) (hl : m.put.length ≤ 9000000 ∧ m.bools.length ≤ 9000000 ∧ m.get.length ≤ 9000000 ∧ m.code.length ≤ 9000000) : iX m = some (mP m) := by
 unfold iX mP
 by_cases c1 : m.cells < 1
 ·rw [iP c1, iP (by omega)]
 rw [iN c1]
 by_cases c2 : m.cells > 6000
 ·rw [iP c2, iP (by omega)]
 rw [iN c2]
 by_cases c3 : m.regs < 1
 ·rw [iP c3, iP (by omega)]
 rw [iN c3]
 by_cases c4 : m.regs > 40
 ·rw [iP c4, iP (by omega)]
 rw [iN c4, iN (show ¬ (m.cells < 1 ∨ m.cells > 6000 ∨ m.regs < 1 ∨ m.regs > 40) by omega)]
 by_cases c5 : (m.put.length : Int) > 6000
 ·rw [iP c5, iP (by omega)]
 rw [iN c5]
 by_cases c6 : (m.bools.length : Int) > 6000
 ·rw [iP c6, iP (by omega)]
 rw [iN c6]
 by_cases c7 : (m.get.length : Int) > 120000
 ·rw [iP c7, iP (by omega)]
 rw [iN c7]
 by_cases c8 : (m.code.length : Int) > 200000
 ·rw [iP c8, iP (by omega)]
 rw [iN c8, iN (show ¬ ((m.put.length : Int) > 6000 ∨ (m.bools.length : Int) > 6000 ∨ (m.get.length : Int) > 120000 ∨ (m.code.length : Int) > 200000) by omega)]
 rw [tW m ⟨hl.1, hl.2.1, hl.2.2.1⟩]
 cases F1 m with
 | inr z => rfl
 | inl u =>
  simp only [bSq, Sum.elim_inl]
  unfold fE
  rw [tX m (by omega) (by omega) hl.2.2.2]
  cases F2 m with
  | inr z => rfl
  | inl u =>
   simp only [bSq, Sum.elim_inl]
   unfold fC F3
   rw [tU _ hl.2.2.2]
   simp only [bSq]
   generalize cN 0 1 0 m.code = c
   generalize (m.code.length : Int) = n
   by_cases d1 : c = 0
   ·rw [iP d1]
    by_cases d2 : n > 0
    ·rw [iP d2, iP (.inr ⟨d1, d2⟩)]
    ·rw [iN d2]
     by_cases d3 : c = m.cost
     ·rw [iN (by simpa using d3), iN (by simp only [ne_eq, not_or, Decidable.not_not]; exact ⟨d3, fun h => d2 h.2⟩)]
     ·rw [iP d3, iP (.inl d3)]
   ·rw [iN d1]
    by_cases d3 : c = m.cost
    ·rw [iN (by simpa using d3), iN (by simp only [ne_eq, not_or, Decidable.not_not]; exact ⟨d3, fun h => d1 h.1⟩)]
    ·rw [iP d3, iP (.inl d3)]
theorem s7 (m : aB) (hl : m.put.length ≤ 9000000 ∧ m.bools.length ≤ 9000000 ∧ m.get.length ≤ 9000000 ∧ m.code.length ≤ 9000000) : fU m = some (mP m) := by
 unfold fU mP dh
 simp only [bSq]
 by_cases c1 : m.cells < 1
 ·rw [iP c1, iP (by omega)]
 rw [iN c1]
 by_cases c2 : m.cells > 6000
 ·rw [iP c2, iP (by omega)]
 rw [iN c2]
 by_cases c3 : m.regs < 1
 ·rw [iP c3, iP (by omega)]
 rw [iN c3]
 by_cases c4 : m.regs > 40
 ·rw [iP c4, iP (by omega)]
 rw [iN c4, iN (show ¬ (m.cells < 1 ∨ m.cells > 6000 ∨ m.regs < 1 ∨ m.regs > 40) by omega)]
 by_cases c5 : (m.put.length : Int) > 6000
 ·rw [iP c5, iP (by omega)]
 rw [iN c5]
 by_cases c6 : (m.bools.length : Int) > 6000
 ·rw [iP c6, iP (by omega)]
 rw [iN c6]
 by_cases c7 : (m.get.length : Int) > 120000
 ·rw [iP c7, iP (by omega)]
 rw [iN c7]
 by_cases c8 : (m.code.length : Int) > 200000
 ·rw [iP c8, iP (by omega)]
 rw [iN c8, iN (show ¬ ((m.put.length : Int) > 6000 ∨ (m.bools.length : Int) > 6000 ∨ (m.get.length : Int) > 120000 ∨ (m.code.length : Int) > 200000) by omega)]
 rw [uZ m ⟨hl.1, hl.2.1, hl.2.2.1⟩]
 cases F1 m with
 | inr z => rfl
 | inl u =>
  simp only [bSq, Sum.elim_inl]
  unfold dm
  rw [u3 m (by omega) (by omega) hl.2.2.2]
  cases F2 m with
  | inr z => rfl
  | inl u =>
   simp only [bSq, Sum.elim_inl]
   unfold dk F3 dh
   rw [rV _ hl.2.2.2]
   simp only [bSq]
   generalize cN 0 1 0 m.code = c
   generalize (m.code.length : Int) = n
   by_cases d3 : m.cost = c
   ·subst d3
    rw [iN (by simp)]
    by_cases d1 : m.cost = 0
    ·rw [iP d1]
     by_cases d2 : n > 0
     ·rw [iP d2, iP (.inr ⟨d1, d2⟩)]
     ·rw [iN d2, iN (by simp only [ne_eq, not_or, Decidable.not_not]; exact ⟨trivial, fun h => d2 h.2⟩)]
    ·rw [iN d1, iN (by simp only [ne_eq, not_or, Decidable.not_not]; exact ⟨trivial, fun h => d1 h.1⟩)]
   ·rw [iP d3, iP (.inl (fun h => d3 h.symm))]
theorem pU (m : aB) (x : ah) (b : Bool) (h1 : 1 ≤ m.cells) (h2 : m.cells ≤ 6000) (h : gj m x = some b) : lf m x = b := by
 have := (qH m x h1 h2).2
 rw [h] at this
 exact (sI this).symm
theorem nM (l : List ah) (hl : l.length ≤ 9000000) : ∀ (k i : Nat) (n times one : Int), i + k = l.length → 0 ≤ n → n ≤ 300 * i → 1 ≤ times → times ≤ 300 →
  (bg (fun (x11, x12, x13, x14) => fg l x11 x12 x13 x14) (n, times, one, (i : Int))).bind (Sum.elim (fun (z15, z16) => ff z15 z16) (fun z17 => some z17)) = some (cN n times one (l.drop i))
 | 0, i, n, times, one, hi, _, _, _, _ => by
  have hi : i = l.length := by omega
  subst hi
  rw [aQ (o := .inl (n, one)) (by simp only [fg]; rw [iN (bp _)]), List.drop_length]
  simp only [bSq, Sum.elim_inl, ff, cN]
  split <;> rfl
 | k + 1, i, n, times, one, hi, h1, h2, h3, h4 => by
  have hlt : i < l.length := by omega
  rw [kF l i hlt]
  have hw : IntKind.wrap .i64 (n + times) = n + times := wr (by omega) (by omega)
  have hb : fg l n times one i = (if (l.getD i default).op = 10 then (if times > 1 ∨ one > 0 ∨ (l.getD i default).n < 1 ∨ (l.getD i default).n > 300 then some (.inr (.inr 0)) else some (.inl (n + times, (l.getD i default).n, 1, ((i + 1 : Nat) : Int))))
    else if (l.getD i default).op = 11 then (if one = 0 then some (.inr (.inr 0)) else some (.inl (n + times, 1, 0, ((i + 1 : Nat) : Int)))) else some (.inl (n + times, times, one, ((i + 1 : Nat) : Int)))) := by
   unfold fg
   rw [iP (ltI hlt), iP (inI hlt), tN, hw, wrs i (by omega)]
   by_cases a1 : (l.getD i default).op = 10
   ·rw [iP a1, iP a1]
    by_cases b1 : times > 1
    ·rw [iP b1, iP (.inl b1)]
    ·rw [iN b1]
     by_cases b2 : one > 0
     ·rw [iP b2, iP (.inr (.inl b2))]
     ·rw [iN b2]
      by_cases b3 : (l.getD i default).n < 1
      ·rw [iP b3, iP (.inr (.inr (.inl b3)))]
      ·rw [iN b3]
       by_cases b4 : (l.getD i default).n > 300
       ·rw [iP b4, iP (.inr (.inr (.inr b4)))]
       ·rw [iN b4, iN (by omega)]
   ·rw [iN a1, iN a1]
  generalize l.getD i default = x at hb ⊢
  have ih := fun n' t' o' h1 h2 h3 h4 => nM l hl k (i + 1) n' t' o' (by omega) h1 h2 h3 h4
  simp only [cN]
  by_cases a1 : x.op = 10
  ·rw [iP a1] at hb ⊢
   by_cases b1 : times > 1 ∨ one > 0 ∨ x.n < 1 ∨ x.n > 300
   ·rw [iP b1] at hb ⊢; rw [aQ (by simpa using hb)]; rfl
   ·rw [iN b1] at hb ⊢; rw [aW (by simpa using hb)]; exact ih _ _ _ (by omega) (by omega) (by omega) (by omega)
  ·rw [iN a1] at hb ⊢
   by_cases a2 : x.op = 11
   ·rw [iP a2] at hb ⊢
    by_cases b1 : one = 0
    ·rw [iP b1] at hb ⊢; rw [aQ (by simpa using hb)]; rfl
    ·rw [iN b1] at hb ⊢; rw [aW (by simpa using hb)]; exact ih _ _ _ (by omega) (by omega) (by omega) (by omega)
   ·rw [iN a2] at hb ⊢; rw [aW (by simpa using hb)]; exact ih _ _ _ (by omega) (by omega) (by omega) (by omega)
theorem s8 (l : List ah) (hl : l.length ≤ 9000000) : jz l = some (cN 0 1 0 l) := by
 have := nM l hl l.length 0 0 1 0 (by omega) (by omega) (by omega) (by omega) (by omega)
 unfold jz
 simpa using this
theorem qI {cells w : Int} {s : au} {d e : Int} (h : fv cells w s d = some e) : lZ s := by
 unfold fv at h
 unfold lZ
 by_cases h1 : s.op = 1
 ·omega
 by_cases h2 : s.op = 2
 ·omega
 by_cases h3 : s.op = 3
 ·omega
 by_cases h4 : s.op = 4
 ·omega
 by_cases h5 : s.op = 5
 ·omega
 by_cases h6 : s.op = 6
 ·omega
 by_cases h7 : s.op = 7
 ·omega
 by_cases h8 : s.op = 8
 ·omega
 ·simp [h1, h2, h3, h4, h5, h6, h7, h8] at h
theorem nN {cells w : Int} : ∀ (l : List au) (d e : Int), fW cells w l d = some e → ∀ p ∈ l, lZ p
 | [], _, _, _, p, hp => by simp at hp
 | s :: l, d, e, h, p, hp => by
  unfold fW at h
  cases hs : fv cells w s d with
  | none => rw [hs] at h; cases h
  | some d' =>
   rw [hs] at h
   rcases List.mem_cons.1 hp with rfl | hp
   ·exact qI hs
   ·exact nN l d' e h p hp
theorem lE {cells w : Int} {l : List au} (h : eZ cells w l = true) : (∀ p ∈ l, lZ p) ∧ l.length ≤ 24 := by
 unfold eZ at h
 cases ht : fW cells w l 0 with
 | none => rw [ht] at h; cases h
 | some e =>
  rw [ht] at h
  simp only [decide_eq_true_eq] at h
  exact ⟨nN l 0 e ht, by omega⟩
theorem mL {cells : Int} {x : ap} (h : bG cells x = true) : pR x := by
 unfold bG at h
 by_cases h1 : x.op = 1
 ·rw [iP h1] at h
  simp only [Bool.and_eq_true] at h
  obtain ⟨k1, k2⟩ := lE h.2
  exact ⟨.inl h1, k1, k2, fun e => absurd h1 e, fun e => by omega⟩
 ·rw [iN h1] at h
  by_cases h2 : (x.op = 2 ∨ x.op = 3 ∨ x.op = 4) ∧ 1 ≤ x.n ∧ x.n ≤ 300
  ·rw [iP h2] at h
   simp only [Bool.and_eq_true, Bool.or_eq_true, decide_eq_true_eq] at h
   obtain ⟨k1, k2⟩ := lE h.1.1
   refine ⟨.inr h2.1, k1, k2, fun _ => h2.2.1, fun e => ?_⟩
   rcases h.2 with h3 | h3
   ·omega
   ·exact lE h3.2
  ·rw [iN h2] at h; cases h
def tY : aB := aB.mk 0 0 0 [] [] [] []
def jC (i : Nat) (a : Int × List ah) (x : ap) : (Int × List ah) ⊕ (aB × aq) :=
 if ((a.2 ++ bC x).length : Int) > 200000 ∨ fX a.1 (bC x) > 40 then .inr (tY, aq.mk 7 i) else .inl (fX a.1 (bC x), a.2 ++ bC x)
noncomputable def tZ (m : aE) (bools : List Int) (a : Int × List ah) : aB × aq :=
 let im := aB.mk m.cells a.1 (cN 0 1 0 a.2) m.put bools m.get a.2
 if ¬ (mP im).code = 0 then (tY, mP im) else (im, aq.mk 0 0)
noncomputable def gO (m : aE) (bools : List Int) : aB × aq :=
 if ¬ (gm m).code = 0 then (tY, gm m) else match iw jC 0 m.steps (3, []) with | .inl a => tZ m bools a | .inr z => z
theorem nO {m : aE} (h : (gm m).code = 0) : (∀ i, i < m.steps.length → pR (m.steps.getD i default)) ∧ m.put.length ≤ 6000 ∧ m.get.length ≤ 120000 ∧ m.steps.length ≤ 1200 := by
 unfold gm at h
 split at h
 ·simp at h
 ·split at h
  ·simp at h
  ·rename_i h2
   split at h
   ·refine ⟨fun i hi => ?_, by omega, by omega, by omega⟩
    unfold kw at h
    rcases eA m.steps.length (fun i => if bG m.cells (m.steps.getD i default) = true then none else some (aq.mk 4 i)) () with ⟨e, hall⟩ | ⟨j, z, hj, hf, e⟩
    ·have := hall i hi
     by_cases hs : bG m.cells (m.steps.getD i default) = true
     ·exact mL hs
     ·rw [iN hs] at this; cases this
    ·rw [e] at h
     simp only at hf h
     by_cases hs : bG m.cells (m.steps.getD j default) = true
     ·rw [iP hs] at hf; cases hf
     ·rw [iN hs] at hf
      simp only [sJ] at hf
      rw [← hf] at h
      simp at h
   ·simp at h
theorem s9 (n : Nat) (h : n ≤ 2000000) : ju n 8 := by
 unfold ju
 have : maxLen = 9223372036854775807 := rfl
 omega
theorem rk (m : aE) (hs : ∀ x ∈ m.steps, x.e.length ≤ 9000000 ∧ x.f.length ≤ 9000000) : ie m = some (gO m []) := by
 unfold ie gO
 rw [pf m hs]
 simp only [bSq]
 by_cases h0 : (gm m).code = 0
 ·obtain ⟨hg, hp, hq, hr⟩ := nO h0
  rw [iN (by simpa using h0), iN (by simpa using h0)]
  obtain ⟨h1, h2⟩ := nK (A := Int × List ah) (T := ap) (O := Int × List ah) (Z := aB × aq) (S := Int × List ah × Int) (fun a i => (a.1, a.2, i)) (body := fun s => dA m s.1 s.2.1 s.2.2) m.steps jC
   (fun _ a => a.2.length ≤ 200000) (fun a => a) (3, []) (by simp)
   (by
    intro i a hi hI
    refine ⟨?_, ?_⟩
    ·show dA m a.1 a.2 (i : Int) = _
     unfold dA
     rw [iP (ltI hi), iP (inI hi)]
     simp only [tN]
     rw [sV _ _ _ (hg i hi) (by omega)]
     simp only [bSq]
     unfold jC
     by_cases k1 : ((a.2 ++ bC (m.steps.getD i default)).length : Int) > 200000
     ·rw [iP k1, iP (.inl k1)]; rfl
     ·rw [iN k1]
      by_cases k2 : fX a.1 (bC (m.steps.getD i default)) > 40
      ·rw [iP k2, iP (.inr k2)]; rfl
      ·rw [iN k2, iN (by rintro (h | h) <;> contradiction), wr6 i (by omega)]
    ·intro a' ha'
     unfold jC at ha'
     split at ha'
     ·cases ha'
     ·rename_i hn
      simp only [Sum.inl.injEq] at ha'
      subst ha'
      simp only
      omega)
   (by
    intro a _
    show dA m a.1 a.2 (m.steps.length : Int) = _
    unfold dA
    rw [iN (bp _)])
  show (bg (fun s : Int × List ah × Int => dA m s.1 s.2.1 s.2.2) (3, [], 0)).bind (Sum.elim (fun z => fh m z.1 z.2) (fun z => some z)) = _
  rw [h1]
  simp only [bSq]
  cases hf : iw jC 0 m.steps (3, []) with
  | inr z => rfl
  | inl a =>
   have hl := h2 a hf
   simp only [Sum.elim_inl]
   unfold fh
   rw [s8 _ (by omega)]
   simp only [bSq]
   rw [iP ⟨s9 _ (by omega), s9 _ (by omega)⟩, s6 _ ⟨by show m.put.length ≤ _; omega, by simp, by show m.get.length ≤ _; omega, by show a.2.length ≤ _; omega⟩]
   simp only [bSq, tZ]
   split <;> rfl
 ·rw [iP h0, iP h0]; rfl
theorem j0 (n : Int) : okI .i64 (IntKind.wrap .i64 n) := by
 show -9223372036854775808 ≤ IntKind.wrap .i64 n ∧ IntKind.wrap .i64 n ≤ 9223372036854775807
 rw [IntKind.wrap_i64]; omega
theorem mb (x t : Int) : IntKind.wrap .i64 (x + 18446744073709551616 * t) = IntKind.wrap .i64 x := by
 simp only [IntKind.wrap_i64]
 have : (x + 18446744073709551616 * t + 9223372036854775808) = (x + 9223372036854775808) + 18446744073709551616 * t := by omega
 rw [this, Int.add_mul_emod_self_left]
theorem rl (x : Int) : ∃ t, IntKind.wrap .i64 x = x + 18446744073709551616 * t := by
 refine ⟨-((x + 9223372036854775808) / 18446744073709551616), ?_⟩
 rw [IntKind.wrap_i64]; omega
theorem t4 {n : Int} (h : okI .i64 n) : IntKind.wrap .i64 n = n := wr h.1 h.2
theorem rW (a b : Int) (ha : okI .i64 a) (hb : b ≠ 0) : okI .i64 (a.tmod b) ∧ IntKind.wrap .i64 (a - IntKind.wrap .i64 (IntKind.wrap .i64 (a.tdiv b) * b)) = a.tmod b := by
 have ha' : -9223372036854775808 ≤ a ∧ a ≤ 9223372036854775807 := ha
 have h1 := Int.mul_tdiv_add_tmod a b
 have hr : okI .i64 (a.tmod b) := by
  show -9223372036854775808 ≤ a.tmod b ∧ a.tmod b ≤ 9223372036854775807
  rcases Int.le_total 0 a with h | h
  ·have h2 := Int.tmod_nonneg b h
   have h3 : a.tmod b ≤ a := by
    rw [Int.tmod_eq_emod_of_nonneg h]
    have h4 := Int.mul_ediv_add_emod a b
    have h5 : 0 ≤ b * (a / b) := by
     rcases Int.le_total 0 b with hb0 | hb0
     ·exact Int.mul_nonneg hb0 (Int.ediv_nonneg h hb0)
     ·exact Int.mul_nonneg_of_nonpos_of_nonpos hb0 (Int.ediv_nonpos_of_nonneg_of_nonpos h hb0)
    omega
   omega
  ·have h2 : 0 ≤ (-a).tmod b := Int.tmod_nonneg b (by omega)
   have h3 : (-a).tmod b ≤ -a := by
    rw [Int.tmod_eq_emod_of_nonneg (by omega)]
    have h4 := Int.mul_ediv_add_emod (-a) b
    have h5 : 0 ≤ b * (-a / b) := by
     rcases Int.le_total 0 b with hb0 | hb0
     ·exact Int.mul_nonneg hb0 (Int.ediv_nonneg (by omega) hb0)
     ·exact Int.mul_nonneg_of_nonpos_of_nonpos hb0 (Int.ediv_nonpos_of_nonneg_of_nonpos (by omega) hb0)
    omega
   rw [Int.neg_tmod] at h2 h3
   omega
 refine ⟨hr, ?_⟩
 obtain ⟨t, ht⟩ := rl (a.tdiv b)
 rw [ht]
 have e1 : (a.tdiv b + 18446744073709551616 * t) * b = a.tdiv b * b + 18446744073709551616 * (t * b) := by rw [Int.add_mul, Int.mul_assoc]
 rw [e1, mb]
 obtain ⟨t2, ht2⟩ := rl (a.tdiv b * b)
 rw [ht2]
 have e2 : a - (a.tdiv b * b + 18446744073709551616 * t2) = a.tmod b + 18446744073709551616 * (-t2) := by rw [Int.mul_comm (a.tdiv b) b]; omega
 rw [e2, mb, t4 hr]
noncomputable def app (k a b : Int) : Int := (aI k a b).getD 0
theorem ix (k a b : Int) (ha : okI .i64 a) (hb : okI .i64 b) : aI k a b = some (app k a b) ∧ aI k a b = some (app k a b) ∧ okI .i64 (app k a b) := by
 have h01 : ∀ c : Bool, (if c = true then some (1 : Int) else some 0) = some (if c = true then 1 else 0) := fun c => by cases c <;> rfl
 have ok01 : ∀ c : Bool, okI .i64 (if c = true then (1 : Int) else 0) := fun c => by cases c <;> exact ⟨by decide, by decide⟩
 have key : ∀ v, aI k a b = some v → okI .i64 v → aI k a b = some (app k a b) ∧ aI k a b = some (app k a b) ∧ okI .i64 (app k a b) := fun v h1 h3 => by
  have : app k a b = v := by unfold app; rw [h1]; rfl
  rw [this]; exact ⟨h1, h1, h3⟩
 by_cases c1 : k = 1
 ·exact key _ (by unfold aI; rw [iP c1]) (j0 _)
 by_cases c2 : k = 2
 ·exact key _ (by unfold aI; rw [iN c1, iP c2]) (j0 _)
 by_cases c3 : k = 3
 ·exact key _ (by unfold aI; rw [iN c1, iN c2, iP c3]) (j0 _)
 by_cases c4 : k = 4
 ·subst c4
  by_cases z : b = 0
  ·exact key 0 (by simp [aI, z]) ⟨by decide, by decide⟩
  ·by_cases z1 : b = -1
   ·subst z1
    exact key (IntKind.wrap .i64 (0 - a)) (by simp [aI]) (j0 _)
   ·exact key (IntKind.wrap .i64 (a.tdiv b)) (by simp [aI, z, z1]) (j0 _)
 by_cases c5 : k = 5
 ·subst c5
  by_cases z : b = 0
  ·exact key 0 (by simp [aI, z]) ⟨by decide, by decide⟩
  ·by_cases z1 : b = -1
   ·subst z1
    exact key 0 (by simp [aI]) ⟨by decide, by decide⟩
   ·obtain ⟨m1, m2⟩ := rW a b ha z
    exact key (a.tmod b) (by simp only [aI]; rw [iN (by decide), iN (by decide), iN (by decide), iN (by decide), iN (by decide), iP trivial, iN z, iN z1, iP z, m2]) m1
 by_cases c6 : k = 6
 ·subst c6
  exact key (if b < a then b else a) (by simp only [aI]; simp; split <;> rfl) (by split <;> assumption)
 by_cases c7 : k = 7
 ·subst c7
  exact key (if b > a then b else a) (by simp only [aI]; simp; split <;> rfl) (by split <;> assumption)
 by_cases c8 : k = 8
 ·subst c8
  by_cases z : a < b
  ·exact key 1 (by simp [aI, aH, z]) ⟨by decide, by decide⟩
  ·exact key 0 (by simp [aI, aH, z]) ⟨by decide, by decide⟩
 by_cases c9 : k = 9
 ·subst c9
  by_cases z : a = b
  ·exact key 1 (by simp [aI, aH, z]) ⟨by decide, by decide⟩
  ·exact key 0 (by simp [aI, aH, z]) ⟨by decide, by decide⟩
 by_cases c10 : k = 10
 ·subst c10
  by_cases z : a = 0
  ·exact key 0 (by simp [aI, aH, z]) ⟨by decide, by decide⟩
  ·by_cases z2 : b = 0
   ·exact key 0 (by simp [aI, aH, z, z2]) ⟨by decide, by decide⟩
   ·exact key 1 (by simp [aI, aH, z, z2]) ⟨by decide, by decide⟩
 by_cases c11 : k = 11
 ·subst c11
  by_cases z : a = 0
  ·by_cases z2 : b = 0
   ·exact key 0 (by simp [aI, aH, z, z2]) ⟨by decide, by decide⟩
   ·exact key 1 (by simp [aI, aH, z, z2]) ⟨by decide, by decide⟩
  ·exact key 1 (by simp [aI, aH, z]) ⟨by decide, by decide⟩
 by_cases c12 : k = 12
 ·subst c12
  by_cases z : a = 0 <;> by_cases z2 : b = 0
  ·exact key 0 (by simp [aI, aH, z, z2]) ⟨by decide, by decide⟩
  ·exact key 1 (by simp [aI, aH, z, z2]) ⟨by decide, by decide⟩
  ·exact key 1 (by simp [aI, aH, z, z2]) ⟨by decide, by decide⟩
  ·have e1 : (a != 0) = true := by simp [z]
   have e2 : (b != 0) = true := by simp [z2]
   have e3 : (a == 0) = false := by simp [z]
   have e4 : (b == 0) = false := by simp [z2]
   exact key 0 (by simp [aI, aH, e3, e4]) ⟨by decide, by decide⟩
 by_cases c13 : k = 13
 ·subst c13
  exact key (IntKind.wrap .i64 (0 - a)) (by simp [aI]) (j0 _)
 by_cases c14 : k = 14
 ·subst c14
  by_cases z : a = 0
  ·exact key 1 (by simp [aI, aH, z]) ⟨by decide, by decide⟩
  ·exact key 0 (by simp [aI, aH, z]) ⟨by decide, by decide⟩
 exact key 0 (by simp [aI, aH, c1, c2, c3, c4, c5, c6, c7, c8, c9, c10, c11, c12, c13, c14]) ⟨by decide, by decide⟩
theorem gI : okI .i64 0 := ⟨by decide, by decide⟩
theorem dd {l : List Int} (h : ∀ y ∈ l, okI .i64 y) (i : Nat) : okI .i64 (l.getD i default) := by
 by_cases hi : i < l.length
 ·exact h _ (ft hi)
 ·have : l.getD i default = 0 := by simp [List.getD, List.getElem?_eq_none (Nat.le_of_not_lt hi)]
  rw [this]; exact gI
theorem pg {l : List Int} {i : Nat} {v : Int} (h : ∀ y ∈ l, okI .i64 y) (hv : okI .i64 v) : ∀ y ∈ l.set i v, okI .i64 y := fun y hy => by
 rcases List.mem_or_eq_of_mem_set hy with h' | rfl
 ·exact h y h'
 ·exact hv
theorem oI {n b : Nat} (h : n ≤ 200000) (hb : b ≤ 1000) : ju n b := by
 have h1 : n * b ≤ 200000 * 1000 := Nat.mul_le_mul h hb
 exact ⟨by omega, by simp only [maxLen]; omega⟩
noncomputable def hU (c : List Int) (k : Int) (s : au) (st : List Int) : List Int :=
 if s.op = 1 then s.n :: st
 else if s.op = 2 then c.getD s.v.toNat default :: st
 else if s.op = 3 then c.getD (s.v + k).toNat default :: st
 else if s.op = 4 then IntKind.wrap .i64 (k + s.n) :: st
 else if s.op = 5 then app s.k (st.getD 0 default) 0 :: st.drop 1
 else if s.op = 6 then app s.k (st.getD 1 default) (st.getD 0 default) :: st.drop 2
 else if s.op = 7 then (if st.getD 2 default ≠ 0 then st.getD 1 default else st.getD 0 default) :: st.drop 3
 else (if 0 ≤ st.getD 1 default ∧ st.getD 1 default < s.n then c.getD (s.v + st.getD 1 default).toNat default else st.getD 0 default) :: st.drop 2
noncomputable def ph (c : List Int) (k : Int) : List au → List Int → List Int
 | [], st => st
 | s :: r, st => ph c k r (hU c k s st)
theorem cE {cells a n : Int} : bi cells a n = true ↔ 0 ≤ a ∧ 1 ≤ n ∧ a + n ≤ cells := by unfold bi; rw [decide_eq_true_eq]
structure dH (cells : Int) (c : List Int) : Prop where
 len : (c.length : Int) = cells
 ok : ∀ y ∈ c, okI .i64 y
theorem ta {cells w k : Int} {c : List Int} {s : au} {st : List Int} {e : Int} (g : dH cells c) (hs : au.ok s) (h : fv cells w s st.length = some e) (hst : ∀ y ∈ st, okI .i64 y) :
  ((hU c k s st).length : Int) = e ∧ ∀ y ∈ hU c k s st, okI .i64 y := by
 unfold fv at h
 unfold hU
 have hd : ∀ n, ∀ y ∈ st.drop n, okI .i64 y := fun n y hy => hst y (List.mem_of_mem_drop hy)
 have cons : ∀ {v : Int} {r : List Int}, okI .i64 v → (∀ y ∈ r, okI .i64 y) → ∀ y ∈ v :: r, okI .i64 y := fun hv hr y hy => by
  rcases List.mem_cons.1 hy with rfl | hy
  ·exact hv
  ·exact hr y hy
 by_cases o1 : s.op = 1
 ·rw [iP o1] at h ⊢; simp only [sJ] at h
  exact ⟨by simp; omega, cons hs.2.2.2 hst⟩
 rw [iN o1] at h ⊢
 by_cases o2 : s.op = 2
 ·rw [iP o2] at h ⊢; split at h
  ·simp only [sJ] at h; exact ⟨by simp; omega, cons (dd g.ok _) hst⟩
  ·cases h
 rw [iN o2] at h ⊢
 by_cases o3 : s.op = 3
 ·rw [iP o3] at h ⊢; split at h
  ·simp only [sJ] at h; exact ⟨by simp; omega, cons (dd g.ok _) hst⟩
  ·cases h
 rw [iN o3] at h ⊢
 by_cases o4 : s.op = 4
 ·rw [iP o4] at h ⊢; split at h
  ·simp only [sJ] at h; exact ⟨by simp; omega, cons (j0 _) hst⟩
  ·cases h
 rw [iN o4] at h ⊢
 by_cases o5 : s.op = 5
 ·rw [iP o5] at h ⊢; split at h
  ·rename_i hh
   simp only [sJ] at h
   exact ⟨by simp; omega, cons (ix _ _ _ (dd hst 0) gI).2.2 (hd 1)⟩
  ·cases h
 rw [iN o5] at h ⊢
 by_cases o6 : s.op = 6
 ·rw [iP o6] at h ⊢; split at h
  ·rename_i hh
   simp only [sJ] at h
   exact ⟨by simp; omega, cons (ix _ _ _ (dd hst 1) (dd hst 0)).2.2 (hd 2)⟩
  ·cases h
 rw [iN o6] at h ⊢
 by_cases o7 : s.op = 7
 ·rw [iP o7] at h ⊢; split at h
  ·cases h
  ·simp only [sJ] at h
   refine ⟨by simp; omega, cons ?_ (hd 3)⟩
   split
   ·exact dd hst 1
   ·exact dd hst 0
 rw [iN o7] at h ⊢
 by_cases o8 : s.op = 8
 ·rw [iP o8] at h; split at h
  ·rename_i hh
   simp only [sJ] at h
   refine ⟨by simp; omega, cons ?_ (hd 2)⟩
   split
   ·exact dd g.ok _
   ·exact dd hst 0
  ·cases h
 ·rw [iN o8] at h; cases h
noncomputable def stk (c : List Int) (k : Int) (l : List au) (i : Nat) : List Int := ph c k (l.take i) []
theorem mM (c : List Int) (k : Int) : ∀ (l m : List au) (st : List Int), ph c k (l ++ m) st = ph c k m (ph c k l st)
 | [], m, st => rfl
 | s :: l, m, st => by simp only [List.cons_append, ph]; exact mM c k l m _
theorem pV (c : List Int) (k : Int) (l : List au) (i : Nat) (hi : i < l.length) : stk c k l (i + 1) = hU c k (l.getD i default) (stk c k l i) := by
 unfold stk
 have : l.take (i + 1) = l.take i ++ [l.getD i default] := by
  rw [List.take_succ, List.getElem?_eq_getElem hi]
  simp [List.getD, hi]
 rw [this, mM]
 rfl
theorem pW (c : List Int) (k : Int) (l : List au) : stk c k l 0 = [] := rfl
theorem mX {cells w k : Int} {c : List Int} {l : List au} {e : Int} (g : dH cells c) (hlo : ∀ s ∈ l, au.ok s) (h : fW cells w l 0 = some e) : ∀ i, i ≤ l.length → (∀ y ∈ stk c k l i, okI .i64 y) ∧ (stk c k l i).length ≤ i ∧ fW cells w (l.drop i) (stk c k l i).length = some e := by
 intro i
 induction i with
 | zero => intro _; rw [pW]; exact ⟨fun y hy => by simp at hy, Nat.le_refl _, by simpa using h⟩
 | succ i ih =>
  intro hi
  obtain ⟨h1, h2, h3⟩ := ih (by omega)
  have hlt : i < l.length := by omega
  have hd : l.drop i = l.getD i default :: l.drop (i + 1) := by
   rw [List.drop_eq_getElem_cons hlt]
   simp [List.getD, hlt]
  rw [hd] at h3
  simp only [fW] at h3
  cases hf : fv cells w (l.getD i default) (stk c k l i).length with
  | none => rw [hf] at h3; cases h3
  | some e' =>
   rw [hf] at h3
   obtain ⟨q1, q2⟩ := ta (k := k) g (hlo _ (ft hlt)) hf h1
   have q3 := pM hf (by omega)
   rw [pV c k l i hlt]
   refine ⟨q2, by omega, ?_⟩
   rw [q1]; exact h3
theorem tb {cells w k : Int} {c : List Int} {l : List au} {e : Int} (g : dH cells c) (hlo : ∀ s ∈ l, au.ok s) (h : fW cells w l 0 = some e) {i : Nat} (hi : i < l.length) : ∃ e', fv cells w (l.getD i default) (stk c k l i).length = some e' := by
 obtain ⟨_, _, h3⟩ := mX (k := k) g hlo h i (by omega)
 have hd : l.drop i = l.getD i default :: l.drop (i + 1) := by
  rw [List.drop_eq_getElem_cons hi]
  simp [List.getD, hi]
 rw [hd] at h3
 simp only [fW] at h3
 cases hf : fv cells w (l.getD i default) (stk c k l i).length with
 | none => rw [hf] at h3; cases h3
 | some e' => exact ⟨e', rfl⟩
noncomputable def i1 (c : List Int) (k : Int) (l : List au) : Int := (stk c k l l.length).getD 0 default
theorem gP {cells w : Int} {l : List au} (h : eZ cells w l = true) : fW cells w l 0 = some 1 ∧ l.length ≤ 24 := by
 unfold eZ at h
 split at h
 ·cases h
 ·rename_i e he
  simp only [decide_eq_true_eq] at h
  obtain ⟨rfl, h⟩ := h
  exact ⟨he, by omega⟩
theorem tc {cells w k : Int} {c : List Int} {l : List au} {e : Int} (g : dH cells c) (hlo : ∀ s ∈ l, au.ok s) (h : fW cells w l 0 = some e) {i : Nat} {a : Int} {r : List Int} (hi : i ≤ l.length) (hs : stk c k l i = a :: r) :
  ∃ j, i = j + 1 ∧ j < l.length ∧ hU c k (l.getD j default) (stk c k l j) = a :: r ∧ ∃ e', fv cells w (l.getD j default) (stk c k l j).length = some e' := by
 cases i with
 | zero => rw [pW] at hs; cases hs
 | succ j => exact ⟨j, rfl, by omega, by rw [← pV c k l j (by omega)]; exact hs, tb g hlo h (by omega)⟩
theorem t5 {cells w k : Int} {c : List Int} {l : List au} {e : Int} (p4 : Int) (p5 p6 : List Int) (p7 : List ap) (g : dH cells c) (hc : cells ≤ 6000) (hl : l.length ≤ 9000) (hk : 0 ≤ k ∧ k < w) (hw : w ≤ 300) (hlo : ∀ s ∈ l, au.ok s) (h : fW cells w l 0 = some e) :
  ∀ (i : Nat), i ≤ l.length → ∀ (a : Int) (r : List Int), stk c k l i = a :: r → ∃ p, p < i ∧ stk c k l p = r ∧ ∀ fuel, i ≤ fuel → bl fuel l ((i : Int) - 1) k p4 p5 p6 p7 c = some (a, (p : Int) - 1) := by
 have gl := g.len
 intro i
 induction i using Nat.strongRecOn with
 | _ i ih =>
 intro hi a r hs
 obtain ⟨j, rfl, hj, hp, e', he⟩ := tc g hlo h hi hs
 have hidx : ((j + 1 : Nat) : Int) - 1 = (j : Int) := by omega
 have hwj : IntKind.wrap .i64 ((j : Int) - 1) = (j : Int) - 1 := wr (by omega) (by omega)
 have hst := mX (k := k) g hlo h j (by omega)
 have hso := hst.1
 rw [hidx]
 have body : ∀ fuel, j + 1 ≤ fuel → ∃ f, fuel = f + 1 ∧ j ≤ f := fun fuel hf => ⟨fuel - 1, by omega, by omega⟩
 have ihj := ih j (by omega) (by omega)
 revert hp he ihj
 generalize hst' : stk c k l j = st at hso
 intro hp he ihj
 unfold fv at he
 unfold hU at hp
 have go : ∀ (p : Nat), p < j + 1 → stk c k l p = r → (∀ f, j ≤ f → aU (bl f) l j k p4 p5 p6 p7 c = some (a, (p : Int) - 1)) → ∃ p, p < j + 1 ∧ stk c k l p = r ∧ ∀ fuel, j + 1 ≤ fuel → bl fuel l (j : Int) k p4 p5 p6 p7 c = some (a, (p : Int) - 1) := by
  intro p h1 h2 h3
  refine ⟨p, h1, h2, fun fuel hf => ?_⟩
  obtain ⟨f, rfl, hf'⟩ := body fuel hf
  exact h3 f hf'
 have hb : ∀ (rcf : List au → Int → Int → Int → List Int → List Int → List ap → List Int → Option (Int × Int)) (X : Option (Int × Int)), aU rcf l j k p4 p5 p6 p7 c = X ↔ aU rcf l j k p4 p5 p6 p7 c = X := fun _ _ => Iff.rfl
 by_cases o1 : (l.getD j default).op = 1
 ·rw [iP o1] at hp
  obtain ⟨rfl, rfl⟩ := List.cons.inj hp
  refine go j (by omega) hst' fun f hf => ?_
  unfold aU
  rw [iP (inI hj), tN, iP o1, hwj]
 rw [iN o1] at hp he
 by_cases o2 : (l.getD j default).op = 2
 ·rw [iP o2] at hp he
  split at he
  ·rename_i hin
   rw [cE] at hin
   obtain ⟨rfl, rfl⟩ := List.cons.inj hp
   refine go j (by omega) hst' fun f hf => ?_
   unfold aU
   rw [iP (inI hj), tN, iN o1, iP o2, iP (by omega), hwj]
  ·cases he
 rw [iN o2] at hp he
 by_cases o3 : (l.getD j default).op = 3
 ·rw [iP o3] at hp he
  split at he
  ·rename_i hin
   rw [cE] at hin
   obtain ⟨rfl, rfl⟩ := List.cons.inj hp
   refine go j (by omega) hst' fun f hf => ?_
   unfold aU
   rw [iP (inI hj), tN, iN o1, iN o2, iP o3, wr (n := (l.getD j default).v + k) (by omega) (by omega), iP (by omega), hwj]
  ·cases he
 rw [iN o3] at hp he
 by_cases o4 : (l.getD j default).op = 4
 ·rw [iP o4] at hp
  obtain ⟨rfl, rfl⟩ := List.cons.inj hp
  refine go j (by omega) hst' fun f hf => ?_
  unfold aU
  rw [iP (inI hj), tN, iN o1, iN o2, iN o3, iP o4, hwj]
 rw [iN o4] at hp he
 by_cases o5 : (l.getD j default).op = 5
 ·rw [iP o5] at hp he
  split at he
  ·rename_i hh
   obtain ⟨b, q, rfl⟩ : ∃ b q, st = b :: q := by
    cases st with
    | nil => simp at hh
    | cons b q => exact ⟨b, q, rfl⟩
   obtain ⟨rfl, rfl⟩ := List.cons.inj hp
   obtain ⟨p1, g1, g2, g3⟩ := ihj b q rfl
   refine go p1 (by omega) g2 fun f hf => ?_
   unfold aU
   rw [iP (inI hj), tN, iN o1, iN o2, iN o3, iN o4, iP o5, hwj, g3 f hf]
   simp only [bSq]
   rw [(ix _ b 0 (hso b (by simp)) gI).2.1]
   simp
  ·cases he
 rw [iN o5] at hp he
 have two : ∀ b d q, st = b :: d :: q → ∃ p1 p2, p1 < j ∧ p2 < p1 ∧ stk c k l p2 = q ∧ (∀ f, j ≤ f → bl f l ((j : Int) - 1) k p4 p5 p6 p7 c = some (b, (p1 : Int) - 1)) ∧ (∀ f, p1 ≤ f → bl f l ((p1 : Int) - 1) k p4 p5 p6 p7 c = some (d, (p2 : Int) - 1)) := by
  intro b d q hq
  obtain ⟨p1, g1, g2, g3⟩ := ihj b (d :: q) hq
  obtain ⟨p2, k1, k2, k3⟩ := ih p1 (by omega) (by omega) d q g2
  exact ⟨p1, p2, g1, k1, k2, g3, k3⟩
 by_cases o6 : (l.getD j default).op = 6
 ·rw [iP o6] at hp he
  split at he
  ·rename_i hh
   obtain ⟨b, d, q, rfl⟩ : ∃ b d q, st = b :: d :: q := by
    match st, hh with
    | [], hh => simp at hh
    | [a], hh => simp at hh
    | b :: d :: q, _ => exact ⟨b, d, q, rfl⟩
   obtain ⟨rfl, rfl⟩ := List.cons.inj hp
   obtain ⟨p1, p2, g1, g2, g3, g4, g5⟩ := two b d q rfl
   refine go p2 (by omega) g3 fun f hf => ?_
   unfold aU
   rw [iP (inI hj), tN, iN o1, iN o2, iN o3, iN o4, iN o5, hwj, g4 f hf]
   simp only [bSq]
   rw [g5 f (by omega)]
   simp only [bSq]
   rw [iP o6, (ix _ d b (hso d (by simp)) (hso b (by simp))).2.1]
   simp
  ·cases he
 rw [iN o6] at hp he
 by_cases o7 : (l.getD j default).op = 7
 ·rw [iP o7] at hp he
  split at he
  ·cases he
  ·rename_i hh
   obtain ⟨b, d, x, q, rfl⟩ : ∃ b d x q, st = b :: d :: x :: q := by
    match st, hh with
    | [], hh => simp at hh
    | [a], hh => simp at hh
    | [a, b], hh => simp at hh
    | b :: d :: x :: q, _ => exact ⟨b, d, x, q, rfl⟩
   obtain ⟨rfl, rfl⟩ := List.cons.inj hp
   obtain ⟨p1, p2, g1, g2, g3, g4, g5⟩ := two b d (x :: q) rfl
   obtain ⟨p3, k1, k2, k3⟩ := ih p2 (by omega) (by omega) x q g3
   refine go p3 (by omega) k2 fun f hf => ?_
   unfold aU
   rw [iP (inI hj), tN, iN o1, iN o2, iN o3, iN o4, iN o5, hwj, g4 f hf]
   simp only [bSq]
   rw [g5 f (by omega)]
   simp only [bSq]
   rw [iN o6, iN (by omega), k3 f (by omega)]
   simp only [bSq]
   by_cases z : x = 0
   ·simp [z]
   ·simp [z]
 rw [iN o7] at hp he
 by_cases o8 : (l.getD j default).op = 8
 ·rw [iP o8] at he
  split at he
  ·rename_i hh
   obtain ⟨hin, hh⟩ := hh
   rw [cE] at hin
   obtain ⟨b, d, q, rfl⟩ : ∃ b d q, st = b :: d :: q := by
    match st, hh with
    | [], hh => simp at hh
    | [a], hh => simp at hh
    | b :: d :: q, _ => exact ⟨b, d, q, rfl⟩
   obtain ⟨rfl, rfl⟩ := List.cons.inj hp
   obtain ⟨p1, p2, g1, g2, g3, g4, g5⟩ := two b d q rfl
   refine go p2 (by omega) g3 fun f hf => ?_
   unfold aU
   rw [iP (inI hj), tN, iN o1, iN o2, iN o3, iN o4, iN o5, hwj, g4 f hf]
   simp only [bSq]
   rw [g5 f (by omega)]
   simp only [bSq]
   rw [iN o6, iP o8, wr (n := (l.getD j default).v + (l.getD j default).n) (by omega) (by omega), iP (by omega)]
   unfold jV
   have hw1 : ((((l.getD j default).v + (l.getD j default).n).toNat - (l.getD j default).v.toNat : Nat) : Int) = (l.getD j default).n := by omega
   rw [hw1]
   simp only [List.getD_cons_zero, List.getD_cons_succ]
   by_cases z1 : d ≥ 0
   ·by_cases z2 : d < (l.getD j default).n
    ·rw [iP z1, iP z2, iP ⟨⟨z1, z2⟩, by omega⟩, iP ⟨z1, z2⟩]
     simp only [bSq]
     rw [show (l.getD j default).v.toNat + d.toNat = ((l.getD j default).v + d).toNat by omega]
    ·rw [iP z1, iN z2, iN (fun h => z2 h.2)]; rfl
   ·rw [iN z1, iN (fun h => z1 h.1)]; rfl
  ·cases he
 ·rw [iN o8] at he; cases he
theorem nP {cells w k : Int} {c : List Int} {l : List au} (fuel : Nat) (hf : 24 ≤ fuel) (p3 : Int) (p4 p5 : List Int) (p6 : List ap) (g : dH cells c) (hc : cells ≤ 6000) (hk : 0 ≤ k ∧ k < w) (hw : w ≤ 300) (hlo : ∀ s ∈ l, au.ok s) (h : eZ cells w l = true) :
  b8 fuel l k p3 p4 p5 p6 c = some (i1 c k l) := by
 obtain ⟨h1, h2⟩ := gP h
 obtain ⟨q1, q2, q3⟩ := mX (k := k) g hlo h1 l.length (Nat.le_refl _)
 rw [List.drop_length] at q3
 simp only [fW, sJ] at q3
 obtain ⟨v, hv⟩ : ∃ v, stk c k l l.length = [v] := by
  match hs : stk c k l l.length with
  | [] => rw [hs] at q3; simp at q3
  | [v] => exact ⟨v, rfl⟩
  | a :: b :: r => rw [hs] at q3; simp at q3; omega
 obtain ⟨p, _, _, hp⟩ := t5 p3 p4 p5 p6 g hc (by omega) hk hw hlo h1 l.length (Nat.le_refl _) v [] hv
 unfold b8 ig
 rw [wr (by omega) (by omega), hp fuel (by omega)]
 unfold i1
 rw [hv]
 rfl
noncomputable def kx (x : ap) (j : Nat) (s : List Int × Int) : List Int × Int :=
 if x.op = 2 then (s.1.set (x.to + j).toNat (i1 s.1 j x.e), s.2)
 else (if x.op = 3 then s.1 else s.1.set (x.to + j).toNat (app x.k s.2 (i1 s.1 j x.e)), app x.k s.2 (i1 s.1 j x.e))
noncomputable def jD (x : ap) : Nat → Nat → List Int × Int → List Int × Int
 | 0, _, s => s
 | n + 1, j, s => jD x n (j + 1) (kx x j s)
noncomputable def i2 (x : ap) (c : List Int) : List Int :=
 if x.op = 1 then c.set x.to.toNat (i1 c 0 x.e)
 else if x.op = 3 then (jD x x.n.toNat 0 (c, if x.op = 2 then 0 else i1 c 0 x.f)).1.set x.to.toNat (jD x x.n.toNat 0 (c, if x.op = 2 then 0 else i1 c 0 x.f)).2
 else (jD x x.n.toNat 0 (c, if x.op = 2 then 0 else i1 c 0 x.f)).1
theorem dH.set {cells : Int} {c : List Int} (g : dH cells c) (i : Nat) {v : Int} (hv : okI .i64 v) : dH cells (c.set i v) := ⟨by rw [List.length_set]; exact g.len, pg g.ok hv⟩
structure Rnd (cells : Int) (x : ap) : Prop where
 op : x.op = 2 ∨ x.op = 3 ∨ x.op = 4
 n : 1 ≤ x.n ∧ x.n ≤ 300
 e : eZ cells x.n x.e = true
 to : 0 ≤ x.to ∧ x.to + (if x.op = 3 then 1 else x.n) ≤ cells
 f : x.op = 2 ∨ eZ cells 1 x.f = true
theorem iI {cells : Int} {x : ap} (h : bG cells x = true) : (x.op = 1 ∧ 0 ≤ x.to ∧ x.to + 1 ≤ cells ∧ eZ cells 1 x.e = true) ∨ (x.op ≠ 1 ∧ Rnd cells x) := by
 unfold bG at h
 by_cases o1 : x.op = 1
 ·rw [iP o1, Bool.and_eq_true, cE] at h
  exact .inl ⟨o1, by omega, by omega, h.2⟩
 ·rw [iN o1] at h
  split at h
  ·rename_i hh
   simp only [Bool.and_eq_true, cE, Bool.or_eq_true, decide_eq_true_eq] at h
   obtain ⟨⟨h1, h2⟩, h3⟩ := h
   refine .inr ⟨o1, hh.1, hh.2, h1, ⟨h2.1, by omega⟩, ?_⟩
   rcases h3 with h3 | h3
   ·exact .inl h3
   ·exact .inr h3.2
  ·cases h
section
variable {cells : Int} {x : ap} {c : List Int}
theorem mY {cells w k : Int} {c : List Int} {l : List au} (g : dH cells c) (hlo : ∀ s ∈ l, au.ok s) (h : eZ cells w l = true) : okI .i64 (i1 c k l) :=
 dd (mX (k := k) g hlo (gP h).1 l.length (Nat.le_refl _)).1 0
theorem pi (hc : cells ≤ 6000) (hxo : ap.ok x) (R : Rnd cells x) {s : List Int × Int} (g : dH cells s.1) (ha : okI .i64 s.2) {j : Nat} (hj : j < x.n.toNat) (q : Int) (q4 q5 : List Int) (q6 : List ap) (fuel : Nat) (hf : 24 ≤ fuel) :
  True ∧ b8 fuel x.e j q q4 q5 q6 s.1 = some (i1 s.1 j x.e) ∧ okI .i64 (i1 s.1 j x.e) ∧ dH cells (kx x j s).1 ∧ okI .i64 (kx x j s).2 := by
 have hn := R.n
 have h2 := mY (k := (j : Int)) g hxo.2.2.2.2.2 R.e
 have h3 := nP (k := (j : Int)) fuel hf q q4 q5 q6 g hc ⟨by omega, by omega⟩ hn.2 hxo.2.2.2.2.2 R.e
 have h4 := (ix x.k s.2 _ ha h2).2.2
 refine ⟨trivial, h3, h2, ?_, ?_⟩
 ·unfold kx
  split
  ·exact g.set _ h2
  ·show dH cells (if x.op = 3 then s.1 else _)
   split
   ·exact g
   ·exact g.set _ h4
 ·unfold kx
  split
  ·exact ha
  ·exact h4
theorem pj (hc : cells ≤ 6000) (hxo : ap.ok x) (R : Rnd cells x) : ∀ (n j : Nat) (s : List Int × Int), j + n = x.n.toNat → dH cells s.1 → okI .i64 s.2 → dH cells (jD x n j s).1 ∧ okI .i64 (jD x n j s).2
 | 0, _, _, _, g, ha => ⟨g, ha⟩
 | n + 1, j, s, hj, g, ha => by
  obtain ⟨_, _, _, h4, h5⟩ := pi hc hxo R g ha (j := j) (by omega) 0 [] [] [] 24 (Nat.le_refl _)
  exact pj hc hxo R n (j + 1) (kx x j s) (by omega) h4 h5
theorem td (hc : cells ≤ 6000) (hxo : ap.ok x) (g : dH cells c) (hxk : bG cells x = true) : dH cells (i2 x c) := by
 unfold i2
 rcases iI hxk with ⟨o1, t1, t2, t3⟩ | ⟨o1, R⟩
 ·rw [iP o1]; exact g.set _ (mY g hxo.2.2.2.2.2 t3)
 ·rw [iN o1]
  have ha : okI .i64 (if x.op = 2 then 0 else i1 c 0 x.f) := by
   by_cases o2 : x.op = 2
   ·rw [iP o2]; exact gI
   ·rw [iN o2]
    have hfx : eZ cells 1 x.f = true := by rcases R.f with h | h; exact (o2 h).elim; exact h
    exact mY g hxo.2.2.2.2.1 hfx
  obtain ⟨k2, k3⟩ := pj hc hxo R x.n.toNat 0 (c, if x.op = 2 then 0 else i1 c 0 x.f) (by omega) g ha
  split
  ·exact k2.set _ k3
  ·exact k2
end
section
variable {cells : Int} {x : ap} {c : List Int}
theorem oJ (hc : cells ≤ 6000) (hxo : ap.ok x) (R : Rnd cells x) (o2 : x.op = 2) (fuel : Nat) (hf : 24 ≤ fuel) (q : Int) (q4 q5 : List Int) (q6 : List ap) (i : Int) (hx : q6.getD i.toNat default = x) : ∀ (n j : Nat) (s : List Int × Int), j + n = x.n.toNat → dH cells s.1 → okI .i64 s.2 →
  bg (fun (l44, x45) => bQ fuel q q4 q5 q6 i l44 x45) (s.1, (j : Int)) = some (jD x n j s).1
 | 0, j, s, hj, g, ha => by
  have hn := R.n
  refine aQ ?_
  show bQ _ _ _ _ _ _ _ _ = _
  unfold bQ
  rw [hx, iN (by omega)]; rfl
 | n + 1, j, s, hj, g, ha => by
  have hn := R.n
  have hto := R.to
  have gl := g.len
  have o3 : ¬ x.op = 3 := by omega
  rw [iN o3] at hto
  obtain ⟨_, h1, h3, h4, h5⟩ := pi hc hxo R g ha (j := j) (by omega) q q4 q5 q6 fuel hf
  show bg _ _ = some (jD x n (j + 1) (kx x j s)).1
  rw [← oJ hc hxo R o2 fuel hf q q4 q5 q6 i hx n (j + 1) (kx x j s) (by omega) h4 h5]
  refine aW ?_
  show bQ _ _ _ _ _ _ _ _ = _
  unfold bQ
  rw [hx, iP (by omega), h1, wrs j (by omega)]
  simp only [bSq]
  rw [wr (n := x.to + j) (by omega) (by omega), iP (by omega)]
  unfold kx
  rw [iP o2]
theorem pX (hc : cells ≤ 6000) (hxo : ap.ok x) (R : Rnd cells x) (o2 : x.op ≠ 2) (fuel : Nat) (hf : 24 ≤ fuel) (q : Int) (q4 q5 : List Int) (q6 : List ap) (i : Int) (hx : q6.getD i.toNat default = x) : ∀ (n j : Nat) (s : List Int × Int), j + n = x.n.toNat → dH cells s.1 → okI .i64 s.2 →
  bg (fun (l61, x62, x63) => bU fuel q q4 q5 q6 i l61 x62 x63) (s.1, s.2, (j : Int)) = some (jD x n j s)
 | 0, j, s, hj, g, ha => by
  have hn := R.n
  refine aQ ?_
  show bU _ _ _ _ _ _ _ _ _ = _
  unfold bU
  rw [hx, iN (by omega)]; rfl
 | n + 1, j, s, hj, g, ha => by
  have hn := R.n
  have hto := R.to
  have hop := R.op
  have gl := g.len
  obtain ⟨_, h1, h3, h4, h5⟩ := pi hc hxo R g ha (j := j) (by omega) q q4 q5 q6 fuel hf
  show bg _ _ = some (jD x n (j + 1) (kx x j s))
  rw [← pX hc hxo R o2 fuel hf q q4 q5 q6 i hx n (j + 1) (kx x j s) (by omega) h4 h5]
  refine aW ?_
  show bU _ _ _ _ _ _ _ _ _ = _
  unfold bU
  rw [hx, iP (by omega), h1, wrs j (by omega)]
  simp only [bSq]
  rw [(ix x.k s.2 _ ha h3).2.1]
  simp only [bSq]
  unfold kx
  rw [iN o2]
  by_cases o3 : x.op = 3
  ·rw [iN (by omega : ¬ x.op = 4), iP o3]
  ·rw [iN o3] at hto
   rw [iP (by omega : x.op = 4), iN o3, wr (n := x.to + j) (by omega) (by omega), iP (by omega)]
theorem u4 (hc : cells ≤ 6000) (hxo : ap.ok x) (g : dH cells c) (hxk : bG cells x = true) (fuel : Nat) (hf : 24 ≤ fuel) (q : Int) (q4 q5 : List Int) (q6 : List ap) (i : Nat) (hi : i < q6.length) (hil : i < 9000000) (hx : q6.getD i default = x) :
  bV fuel q q4 q5 q6 c i = some (.inl (i2 x c, ((i + 1 : Nat) : Int))) := by
 have gl := g.len
 have hx' : q6.getD (i : Int).toNat default = x := by rw [tN]; exact hx
 unfold bV i2
 rw [iP (ltI hi), iP (inI hi), hx']
 have j4 : ∀ l, bm (i : Int) l = some (.inl (l, ((i + 1 : Nat) : Int))) := fun l => by unfold bm; rw [wrs i (by omega)]
 rcases iI hxk with ⟨o1, t1, t2, t3⟩ | ⟨o1, R⟩
 ·have h1 := nP (k := 0) (w := 1) fuel hf q q4 q5 q6 g hc ⟨by omega, by omega⟩ (by omega) hxo.2.2.2.2.2 t3
  rw [iP o1, iP o1, h1]
  simp only [bSq]
  rw [iP (by omega), j4]
 ·rw [iN o1, iN o1]
  have hto := R.to
  have hn := R.n
  by_cases o2 : x.op = 2
  ·have hr := oJ hc hxo R o2 fuel hf q q4 q5 q6 i hx' x.n.toNat 0 (c, 0) (by omega) g gI
   simp only [Int.natCast_zero] at hr
   rw [iP o2, hr]
   simp only [bSq]
   rw [j4, iN (by omega : ¬ x.op = 3), iP o2]
  ·have hfx : eZ cells 1 x.f = true := by rcases R.f with h | h; exact (o2 h).elim; exact h
   have h2 := mY (k := 0) (w := 1) g hxo.2.2.2.2.1 hfx
   have h1 := nP (k := 0) (w := 1) fuel hf q q4 q5 q6 g hc ⟨by omega, by omega⟩ (by omega) hxo.2.2.2.2.1 hfx
   have hr := pX hc hxo R o2 fuel hf q q4 q5 q6 i hx' x.n.toNat 0 (c, i1 c 0 x.f) (by omega) g h2
   obtain ⟨k2, k3⟩ := pj hc hxo R x.n.toNat 0 (c, i1 c 0 x.f) (by omega) g h2
   simp only [Int.natCast_zero] at hr
   rw [iN o2, h1]
   simp only [bSq]
   rw [hr, iN o2]
   have kl := k2.len
   generalize jD x x.n.toNat 0 (c, i1 c 0 x.f) = s at kl
   obtain ⟨s1, s2⟩ := s
   simp only [bSq]
   unfold cW
   rw [hx']
   by_cases o3 : x.op = 3
   ·rw [iP o3] at hto
    rw [iP o3, iP o3, iP (by simp only at kl; omega), j4]
   ·rw [iN o3, iN o3, j4]
end
noncomputable def gK : List ap → List Int → List Int
 | [], c => c
 | x :: r, c => gK r (i2 x c)
theorem pY {cells : Int} {l : List ap} (hc : cells ≤ 6000) (hl : l.length ≤ 9000) (hlo : ∀ x ∈ l, ap.ok x) (hok : ∀ x ∈ l, bG cells x = true) (fuel : Nat) (hf : 24 ≤ fuel) (q : Int) (q4 q5 : List Int) : ∀ (n i : Nat) (c : List Int), i + n = l.length → dH cells c →
  bg (fun (l32, x33) => bV fuel q q4 q5 l l32 x33) (c, (i : Int)) = some (gK (l.drop i) c) ∧ dH cells (gK (l.drop i) c)
 | 0, i, c, hi, g => by
  have : i = l.length := by omega
  subst this
  rw [List.drop_length]
  refine ⟨aQ ?_, g⟩
  show bV _ _ _ _ _ _ _ = _; unfold bV; rw [iN (bp _)]; rfl
 | n + 1, i, c, hi, g => by
  have hlt : i < l.length := by omega
  have hm := ft hlt
  have hd : l.drop i = l.getD i default :: l.drop (i + 1) := by
   rw [List.drop_eq_getElem_cons hlt]
   simp [List.getD, hlt]
  have h2 := td hc (hlo _ hm) g (hok _ hm)
  have h3 := u4 hc (hlo _ hm) g (hok _ hm) fuel hf q q4 q5 l i hlt (by omega) rfl
  obtain ⟨k2, k3⟩ := pY hc hl hlo hok fuel hf q q4 q5 n (i + 1) _ (by omega) h2
  rw [hd]
  refine ⟨?_, k3⟩
  show _ = some (gK (l.drop (i + 1)) (i2 (l.getD i default) c))
  rw [← k2]
  exact aW h3
theorem pZ (a b : Int) : app 8 a b = if a < b then 1 else 0 := by
 by_cases z : a < b <;> simp [app, aI, aH, z]
theorem t6 (a b : Int) : app 14 a b = if a = 0 then 1 else 0 := by
 by_cases z : a = 0 <;> simp [app, aI, aH, z]
theorem t7 (a b : Int) : app 10 a b = if a = 0 then 0 else if b = 0 then 0 else 1 := by
 by_cases z : a = 0 <;> by_cases z2 : b = 0 <;> simp [app, aI, aH, z, z2]
theorem t8 (a b : Int) : app 1 a b = IntKind.wrap .i64 (a + b) := by
 simp [app, aI]
abbrev CR := List Int × List Int
noncomputable def exe (x : ah) (s : CR) : Option CR :=
 if x.op = 1 then some (s.1, s.2.set x.r_.toNat x.n)
 else if x.op = 2 then some (s.1, s.2.set x.r_.toNat (s.1.getD x.n.toNat default))
 else if x.op = 3 then (if s.2.getD x.a.toNat default < 0 ∨ s.2.getD x.a.toNat default ≥ x.b then none else some (s.1, s.2.set x.r_.toNat (s.1.getD (x.n + s.2.getD x.a.toNat default).toNat default)))
 else if x.op = 4 then some (s.1.set x.n.toNat (s.2.getD x.r_.toNat default), s.2)
 else if x.op = 5 then (if s.2.getD x.a.toNat default < 0 ∨ s.2.getD x.a.toNat default ≥ x.b then none else some (s.1.set (x.n + s.2.getD x.a.toNat default).toNat (s.2.getD x.r_.toNat default), s.2))
 else if x.op = 6 then some (s.1, s.2.set x.r_.toNat (app x.k (s.2.getD x.a.toNat default) 0))
 else if x.op = 7 then some (s.1, s.2.set x.r_.toNat (app x.k (s.2.getD x.a.toNat default) (s.2.getD x.b.toNat default)))
 else if x.op = 8 then some (s.1, s.2.set x.r_.toNat (if s.2.getD x.r_.toNat default = 0 then s.2.getD x.b.toNat default else s.2.getD x.a.toNat default))
 else some (s.1, s.2.set x.r_.toNat (s.2.getD x.a.toNat default))
theorem uo (x : ah) (s : CR) (h : x.op = 1) : exe x s = some (s.1, s.2.set x.r_.toNat x.n) := by
 unfold exe; rw [iP h]
theorem vU (k r a b n : Int) (s : CR) : exe (ah.mk 1 k r a b n) s = some (s.1, s.2.set r.toNat n) := uo _ _ rfl
theorem up (x : ah) (s : CR) (h : x.op = 3) : exe x s = (if s.2.getD x.a.toNat default < 0 ∨ s.2.getD x.a.toNat default ≥ x.b then none else some (s.1, s.2.set x.r_.toNat (s.1.getD (x.n + s.2.getD x.a.toNat default).toNat default))) := by
 unfold exe; rw [iN (by omega), iN (by omega), iP h]
theorem vV (k r a b n : Int) (s : CR) : exe (ah.mk 3 k r a b n) s = (if s.2.getD a.toNat default < 0 ∨ s.2.getD a.toNat default ≥ b then none else some (s.1, s.2.set r.toNat (s.1.getD (n + s.2.getD a.toNat default).toNat default))) := up _ _ rfl
theorem uq (x : ah) (s : CR) (h : x.op = 6) : exe x s = some (s.1, s.2.set x.r_.toNat (app x.k (s.2.getD x.a.toNat default) 0)) := by
 unfold exe; rw [iN (by omega), iN (by omega), iN (by omega), iN (by omega), iN (by omega), iP h]
theorem vW (k r a b n : Int) (s : CR) : exe (ah.mk 6 k r a b n) s = some (s.1, s.2.set r.toNat (app k (s.2.getD a.toNat default) 0)) := uq _ _ rfl
theorem ur (x : ah) (s : CR) (h : x.op = 7) : exe x s = some (s.1, s.2.set x.r_.toNat (app x.k (s.2.getD x.a.toNat default) (s.2.getD x.b.toNat default))) := by
 unfold exe; rw [iN (by omega), iN (by omega), iN (by omega), iN (by omega), iN (by omega), iN (by omega), iP h]
theorem te (k r a b n : Int) (s : CR) : exe (ah.mk 7 k r a b n) s = some (s.1, s.2.set r.toNat (app k (s.2.getD a.toNat default) (s.2.getD b.toNat default))) := ur _ _ rfl
theorem ut (x : ah) (s : CR) (h : x.op = 8) : exe x s = some (s.1, s.2.set x.r_.toNat (if s.2.getD x.r_.toNat default = 0 then s.2.getD x.b.toNat default else s.2.getD x.a.toNat default)) := by
 unfold exe; rw [iN (by omega), iN (by omega), iN (by omega), iN (by omega), iN (by omega), iN (by omega), iN (by omega), iP h]
theorem vX (k r a b n : Int) (s : CR) : exe (ah.mk 8 k r a b n) s = some (s.1, s.2.set r.toNat (if s.2.getD r.toNat default = 0 then s.2.getD b.toNat default else s.2.getD a.toNat default)) := ut _ _ rfl
theorem uu (x : ah) (s : CR) (h : x.op = 9) : exe x s = some (s.1, s.2.set x.r_.toNat (s.2.getD x.a.toNat default)) := by
 unfold exe; rw [iN (by omega), iN (by omega), iN (by omega), iN (by omega), iN (by omega), iN (by omega), iN (by omega), iN (by omega)]
theorem vY (k r a b n : Int) (s : CR) : exe (ah.mk 9 k r a b n) s = some (s.1, s.2.set r.toNat (s.2.getD a.toNat default)) := uu _ _ rfl
theorem vZ (x : ah) (s : CR) (h : x.op = 2) : exe x s = some (s.1, s.2.set x.r_.toNat (s.1.getD x.n.toNat default)) := by
 unfold exe; rw [iN (by omega), iP h]
theorem uv (x : ah) (s : CR) (h : x.op = 4) : exe x s = some (s.1.set x.n.toNat (s.2.getD x.r_.toNat default), s.2) := by
 unfold exe; rw [iN (by omega), iN (by omega), iN (by omega), iP h]
theorem wa (k r a b n : Int) (s : CR) : exe (ah.mk 4 k r a b n) s = some (s.1.set n.toNat (s.2.getD r.toNat default), s.2) := uv _ _ rfl
theorem uw (x : ah) (s : CR) (h : x.op = 5) : exe x s = (if s.2.getD x.a.toNat default < 0 ∨ s.2.getD x.a.toNat default ≥ x.b then none else some (s.1.set (x.n + s.2.getD x.a.toNat default).toNat (s.2.getD x.r_.toNat default), s.2)) := by
 unfold exe; rw [iN (by omega), iN (by omega), iN (by omega), iN (by omega), iP h]
theorem wb (k r a b n : Int) (s : CR) : exe (ah.mk 5 k r a b n) s = (if s.2.getD a.toNat default < 0 ∨ s.2.getD a.toNat default ≥ b then none else some (s.1.set (n + s.2.getD a.toNat default).toNat (s.2.getD r.toNat default), s.2)) := uw _ _ rfl
noncomputable def fl : List ah → CR → Option CR
 | [], s => some s
 | x :: l, s => (exe x s).bind (fl l)
theorem mc (a b : List ah) (s : CR) : fl (a ++ b) s = (fl a s).bind (fl b) := by
 induction a generalizing s with
 | nil => rfl
 | cons x a ih =>
  rw [List.cons_append, fl, fl]
  cases exe x s with
  | none => rfl
  | some t => exact ih t
structure RgS (st rg : List Int) : Prop where
 len : 2 + st.length ≤ rg.length
 cell : ∀ j, j < st.length → rg.getD (2 + j) default = st.getD (st.length - 1 - j) default
theorem tf (l : List Int) (i j : Nat) (v : Int) (hi : i < l.length) : (l.set i v).getD j default = if j = i then v else l.getD j default := by
 by_cases h : j = i
 ·subst h; rw [iP rfl]; simp [List.getD, hi]
 ·rw [iN h]; simp [List.getD, List.getElem?_set, Ne.symm h]
theorem RgS.push {st rg : List Int} (h : RgS st rg) (v : Int) (hl : 2 + st.length < rg.length) : RgS (v :: st) (rg.set (2 + st.length) v) := by
 refine ⟨by simp; omega, fun j hj => ?_⟩
 rw [tf _ _ _ _ hl]
 simp only [List.length_cons] at hj ⊢
 by_cases e : j = st.length
 ·subst e; simp
 ·rw [iN (by omega), h.cell j (by omega), show st.length + 1 - 1 - j = (st.length - 1 - j) + 1 by omega, List.getD_cons_succ]
theorem RgS.top {st rg : List Int} (h : RgS st rg) (j : Nat) (hj : j < st.length) : rg.getD (2 + st.length - 1 - j) default = st.getD j default := by
 have := h.cell (st.length - 1 - j) (by omega)
 rw [show 2 + (st.length - 1 - j) = 2 + st.length - 1 - j by omega, show st.length - 1 - (st.length - 1 - j) = j by omega] at this
 exact this
theorem RgS.drop {st rg : List Int} (h : RgS st rg) (n : Nat) (hn : n ≤ st.length) : RgS (st.drop n) rg := by
 have := h.len
 refine ⟨by rw [List.length_drop]; omega, fun j hj => ?_⟩
 rw [List.length_drop] at hj ⊢
 rw [h.cell j (by omega)]
 have : (st.drop n).getD (st.length - n - 1 - j) default = st.getD (n + (st.length - n - 1 - j)) default := by simp [List.getD, List.getElem?_drop]
 rw [this, show n + (st.length - n - 1 - j) = st.length - 1 - j by omega]
structure Two (rg rg' : List Int) : Prop where
 len : rg'.length = rg.length
 a : rg'.getD 0 default = rg.getD 0 default
 b : rg'.getD 1 default = rg.getD 1 default
theorem Two.refl (rg : List Int) : Two rg rg := ⟨rfl, rfl, rfl⟩
theorem Two.trans {a b c : List Int} (h : Two a b) (h' : Two b c) : Two a c := ⟨h'.len.trans h.len, h'.a.trans h.a, h'.b.trans h.b⟩
theorem Two.set {rg : List Int} (i : Nat) (v : Int) (hi : 2 ≤ i) : Two rg (rg.set i v) :=
 ⟨List.length_set, by simp [List.getD, List.getElem?_set, show ¬ i = 0 by omega], by simp [List.getD, List.getElem?_set, show ¬ i = 1 by omega]⟩
theorem Two.set' {rg rg' : List Int} (h : Two rg rg') (i : Nat) (v : Int) (hi : 2 ≤ i) : Two rg (rg'.set i v) := h.trans (Two.set i v hi)
theorem cZ (l : List Int) (i j : Nat) (v : Int) (h : i ≠ j) : (l.set i v).getD j default = l.getD j default := by
 simp [List.getD, List.getElem?_set, h]
theorem ce (l : List Int) (i : Nat) (v : Int) (h : i < l.length) : (l.set i v).getD i default = v := by
 simp [List.getD, h]
set_option maxHeartbeats 1000000 in
theorem u5 {c rg st : List Int} {p : au} (hb : 2 + st.length + 2 < rg.length) (h2 : 2 ≤ st.length) (hin : 1 ≤ p.n) {a o : Int} (g0 : rg.getD (2 + st.length - 1 - 0) default = o) (g1 : rg.getD (2 + st.length - 1 - 1) default = a) :
  ∃ r10 : List Int, fl [ah.mk 1 0 (2 + (st.length : Int)) 0 0 0, ah.mk 7 8 (2 + (st.length : Int) + 1) (2 + (st.length : Int) - 2) (2 + (st.length : Int)) 0, ah.mk 6 14 (2 + (st.length : Int) + 1) (2 + (st.length : Int) + 1) 0 0, ah.mk 1 0 (2 + (st.length : Int) + 2) 0 0 p.n, ah.mk 7 8 (2 + (st.length : Int) + 2) (2 + (st.length : Int) - 2) (2 + (st.length : Int) + 2) 0, ah.mk 7 10 (2 + (st.length : Int) + 1) (2 + (st.length : Int) + 1) (2 + (st.length : Int) + 2) 0,
  ah.mk 9 0 (2 + (st.length : Int) + 2) (2 + (st.length : Int) + 1) 0 0, ah.mk 8 0 (2 + (st.length : Int) + 2) (2 + (st.length : Int) - 2) (2 + (st.length : Int)) 0, ah.mk 3 0 (2 + (st.length : Int) + 2) (2 + (st.length : Int) + 2) p.n p.v, ah.mk 8 0 (2 + (st.length : Int) + 1) (2 + (st.length : Int) + 2) (2 + (st.length : Int) - 1) 0, ah.mk 9 0 (2 + (st.length : Int) - 2) (2 + (st.length : Int) + 1) 0 0] (c, rg) =
   some (c, r10.set (2 + st.length - 2) (if 0 ≤ a ∧ a < p.n then c.getD (p.v + a).toNat default else o)) ∧ r10.length = rg.length ∧ ∀ j, j < 2 + st.length → r10.getD j default = rg.getD j default := by
 obtain ⟨q, hq⟩ : ∃ q, q = 2 + st.length := ⟨_, rfl⟩
 have t0 : (2 + (st.length : Int)).toNat = q := by omega
 have tp1 : (2 + (st.length : Int) + 1).toNat = q + 1 := by omega
 have tp2 : (2 + (st.length : Int) + 2).toNat = q + 2 := by omega
 have tm2 : (2 + (st.length : Int) - 2).toNat = q - 2 := by omega
 have tm1 : (2 + (st.length : Int) - 1).toNat = q - 1 := by omega
 rw [show 2 + st.length - 1 - 0 = q - 1 by omega] at g0
 rw [show 2 + st.length - 1 - 1 = q - 2 by omega] at g1
 have len : ∀ {l : List Int}, l.length = rg.length → ∀ {i}, i ≤ q + 2 → i < l.length := fun {l} hl' {i} hi => by omega
 simp only [fl, vU, vW, te, vX, vY, bSq, t0, tp1, tp2, tm1, tm2]
 rw [vV]
 simp only [tp2]
 generalize hr1 : rg.set q 0 = r1
 have l1 : r1.length = rg.length := by rw [← hr1]; simp
 have v1 : r1.getD q default = 0 := by rw [← hr1]; exact ce _ _ _ (by omega)
 have w1 : ∀ j, j < q → r1.getD j default = rg.getD j default := fun j hj => by rw [← hr1]; exact cZ _ _ _ _ (by omega)
 rw [v1, w1 (q - 2) (by omega), g1, pZ]
 generalize hr2 : r1.set (q + 1) (if a < 0 then 1 else 0) = r2
 have l2 : r2.length = rg.length := by rw [← hr2]; simp [l1]
 have v2 : r2.getD (q + 1) default = if a < 0 then 1 else 0 := by rw [← hr2]; exact ce _ _ _ (by omega)
 have w2 : ∀ j, j < q + 1 → r2.getD j default = r1.getD j default := fun j hj => by rw [← hr2]; exact cZ _ _ _ _ (by omega)
 rw [v2, t6]
 generalize hr3 : r2.set (q + 1) (if (if a < 0 then (1 : Int) else 0) = 0 then 1 else 0) = r3
 have l3 : r3.length = rg.length := by rw [← hr3]; simp [l2]
 have v3 : r3.getD (q + 1) default = if 0 ≤ a then 1 else 0 := by
  rw [← hr3, ce _ _ _ (by omega)]
  by_cases z : a < 0
  ·rw [iP z, iN (by omega), iN (by omega)]
  ·rw [iN z, iP rfl, iP (by omega)]
 have w3 : ∀ j, j < q + 1 → r3.getD j default = r2.getD j default := fun j hj => by rw [← hr3]; exact cZ _ _ _ _ (by omega)
 generalize hr4 : r3.set (q + 2) p.n = r4
 have l4 : r4.length = rg.length := by rw [← hr4]; simp [l3]
 have v4 : r4.getD (q + 2) default = p.n := by rw [← hr4]; exact ce _ _ _ (by omega)
 have w4 : ∀ j, j < q + 2 → r4.getD j default = r3.getD j default := fun j hj => by rw [← hr4]; exact cZ _ _ _ _ (by omega)
 have b4 : r4.getD (q - 2) default = a := by rw [w4 _ (by omega), w3 _ (by omega), w2 _ (by omega), w1 _ (by omega), g1]
 rw [v4, b4, pZ]
 generalize hr5 : r4.set (q + 2) (if a < p.n then 1 else 0) = r5
 have l5 : r5.length = rg.length := by rw [← hr5]; simp [l4]
 have v5 : r5.getD (q + 2) default = if a < p.n then 1 else 0 := by rw [← hr5]; exact ce _ _ _ (by omega)
 have w5 : ∀ j, j < q + 2 → r5.getD j default = r4.getD j default := fun j hj => by rw [← hr5]; exact cZ _ _ _ _ (by omega)
 rw [v5, w5 (q + 1) (by omega), w4 (q + 1) (by omega), v3, t7]
 obtain ⟨t, ht⟩ : ∃ t : Int, t = if 0 ≤ a ∧ a < p.n then 1 else 0 := ⟨_, rfl⟩
 have hte : (if (if 0 ≤ a then (1 : Int) else 0) = 0 then (0 : Int) else if (if a < p.n then (1 : Int) else 0) = 0 then 0 else 1) = t := by
  rw [ht]
  by_cases z : 0 ≤ a <;> by_cases z2 : a < p.n <;> simp [z, z2]
 rw [hte]
 generalize hr6 : r5.set (q + 1) t = r6
 have l6 : r6.length = rg.length := by rw [← hr6]; simp [l5]
 have v6 : r6.getD (q + 1) default = t := by rw [← hr6]; exact ce _ _ _ (by omega)
 have w6 : ∀ j, j ≠ q + 1 → r6.getD j default = r5.getD j default := fun j hj => by rw [← hr6]; exact cZ _ _ _ _ (by omega)
 rw [v6]
 generalize hr7 : r6.set (q + 2) t = r7
 have l7 : r7.length = rg.length := by rw [← hr7]; simp [l6]
 have v7 : r7.getD (q + 2) default = t := by rw [← hr7]; exact ce _ _ _ (by omega)
 have w7 : ∀ j, j < q + 2 → r7.getD j default = r6.getD j default := fun j hj => by rw [← hr7]; exact cZ _ _ _ _ (by omega)
 have b7 : ∀ j, j < q → r7.getD j default = rg.getD j default := fun j hj => by
  rw [w7 _ (by omega), w6 _ (by omega), w5 _ (by omega), w4 _ (by omega), w3 _ (by omega), w2 _ (by omega), w1 _ (by omega)]
 have q7 : r7.getD q default = 0 := by
  rw [w7 _ (by omega), w6 _ (by omega), w5 _ (by omega), w4 _ (by omega), w3 _ (by omega), w2 _ (by omega), v1]
 rw [v7, q7, b7 (q - 2) (by omega), g1]
 obtain ⟨u, hu⟩ : ∃ u : Int, u = if t = 0 then 0 else a := ⟨_, rfl⟩
 rw [← hu]
 generalize hr8 : r7.set (q + 2) u = r8
 have l8 : r8.length = rg.length := by rw [← hr8]; simp [l7]
 have v8 : r8.getD (q + 2) default = u := by rw [← hr8]; exact ce _ _ _ (by omega)
 have w8 : ∀ j, j < q + 2 → r8.getD j default = r7.getD j default := fun j hj => by rw [← hr8]; exact cZ _ _ _ _ (by omega)
 rw [v8]
 have hu0 : 0 ≤ u ∧ u < p.n := by
  rw [hu, ht]
  by_cases z : 0 ≤ a ∧ a < p.n
  ·rw [iP z, iN (by omega)]; exact z
  ·rw [iN z, iP rfl]; omega
 rw [iN (by omega)]
 simp only [bSq]
 generalize hr9 : r8.set (q + 2) (c.getD (p.v + u).toNat default) = r9
 have l9 : r9.length = rg.length := by rw [← hr9]; simp [l8]
 have v9 : r9.getD (q + 2) default = c.getD (p.v + u).toNat default := by rw [← hr9]; exact ce _ _ _ (by omega)
 have w9 : ∀ j, j < q + 2 → r9.getD j default = r8.getD j default := fun j hj => by rw [← hr9]; exact cZ _ _ _ _ (by omega)
 have b9 : ∀ j, j < q → r9.getD j default = rg.getD j default := fun j hj => by rw [w9 _ (by omega), w8 _ (by omega), b7 _ hj]
 have p9 : r9.getD (q + 1) default = t := by rw [w9 _ (by omega), w8 _ (by omega), w7 _ (by omega), v6]
 rw [p9, b9 (q - 1) (by omega), g0, v9]
 generalize hr10 : r9.set (q + 1) (if t = 0 then o else c.getD (p.v + u).toNat default) = r10
 have l10 : r10.length = rg.length := by rw [← hr10]; simp [l9]
 have v10 : r10.getD (q + 1) default = if t = 0 then o else c.getD (p.v + u).toNat default := by rw [← hr10]; exact ce _ _ _ (by omega)
 have b10 : ∀ j, j < q → r10.getD j default = rg.getD j default := fun j hj => by rw [← hr10, cZ _ _ _ _ (by omega), b9 _ hj]
 rw [v10]
 have hval : (if t = 0 then o else c.getD (p.v + u).toNat default) = if 0 ≤ a ∧ a < p.n then c.getD (p.v + a).toNat default else o := by
  rw [hu, ht]
  by_cases z : 0 ≤ a ∧ a < p.n
  ·rw [iP z, iN (by omega), iP z, iN (by omega)]
  ·rw [iN z, iP rfl, iN z]
 rw [hval]
 exact ⟨r10, by rw [hq], l10, fun j hj => b10 j (by omega)⟩
set_option maxHeartbeats 1000000 in
theorem t9 {cells w n k : Int} {c rg st : List Int} {p : au} {e : Int} (hp : okI .i64 p.n) (h : fv cells w p st.length = some e)
  (hn : (n = 0 ∧ k = 0) ∨ (n = w ∧ 1 ≤ n ∧ 0 ≤ k ∧ k < n ∧ rg.getD 0 default = k)) (hR : RgS st rg) (hN : ∀ x ∈ dx n (2 + st.length) p, x.r_ < rg.length) :
  ∃ rg', fl (dx n (2 + st.length) p) (c, rg) = some (c, rg') ∧ RgS (hU c k p st) rg' ∧ Two rg rg' ∧ ((hU c k p st).length : Int) = e ∧ dD (2 + st.length) p = 2 + e := by
 have hl := hR.len
 unfold fv at h
 have tn : (2 + (st.length : Int)).toNat = 2 + st.length := by omega
 by_cases o1 : p.op = 1
 ·rw [iP o1] at h
  simp only [sJ] at h
  unfold dx at hN ⊢; unfold hU dD
  rw [iP o1] at hN ⊢
  rw [iP o1]
  have hb : 2 + st.length < rg.length := by have := hN _ (List.mem_singleton.2 rfl); simp only at this; omega
  refine ⟨rg.set (2 + st.length) p.n, ?_, hR.push _ hb, Two.set _ _ (by omega), by simp; omega, ?_⟩
  ·simp only [fl, exe, if_true, bSq, tn]
  ·rw [iN (by omega), iN (by omega), iN (by omega), iN (by omega)]; omega
 rw [iN o1] at h
 by_cases o2 : p.op = 2
 ·rw [iP o2] at h
  split at h
  case isFalse => cases h
  simp only [sJ] at h
  unfold dx at hN ⊢; unfold hU dD
  rw [iN o1, iP o2] at hN ⊢
  rw [iN o1, iP o2]
  have hb : 2 + st.length < rg.length := by have := hN _ (List.mem_singleton.2 rfl); simp only at this; omega
  refine ⟨rg.set (2 + st.length) _, ?_, hR.push _ hb, Two.set _ _ (by omega), by simp; omega, ?_⟩
  ·simp [fl, exe, tn]
  ·rw [iN (by omega), iN (by omega), iN (by omega), iN (by omega)]; omega
 rw [iN o2] at h
 by_cases o3 : p.op = 3
 ·rw [iP o3] at h
  split at h
  case isFalse => cases h
  simp only [sJ] at h
  unfold dx at hN ⊢; unfold hU dD
  rw [iN o1, iN o2, iP o3] at hN ⊢
  rw [iN o1, iN o2, iP o3]
  have hx : dD (2 + st.length) p = 2 + e := by
   unfold dD; rw [iN (by omega), iN (by omega), iN (by omega), iN (by omega)]; omega
  unfold dD at hx
  rcases hn with ⟨n0, k0⟩ | ⟨nw, n1, k0, k1, hk⟩
  ·rw [iP n0] at hN ⊢
   have hb : 2 + st.length < rg.length := by have := hN _ (List.mem_singleton.2 rfl); simp only at this; omega
   refine ⟨rg.set (2 + st.length) _, ?_, hR.push _ hb, Two.set _ _ (by omega), by simp; omega, hx⟩
   subst k0
   simp [fl, exe, tn]
  ·rw [iN (by omega)] at hN ⊢
   have hb : 2 + st.length < rg.length := by have := hN _ (List.mem_singleton.2 rfl); simp only at this; omega
   refine ⟨rg.set (2 + st.length) _, ?_, hR.push _ hb, Two.set _ _ (by omega), by simp; omega, hx⟩
   have hk0 : ¬ (rg.getD (0 : Int).toNat default < 0 ∨ rg.getD (0 : Int).toNat default ≥ n) := by
    show ¬ (rg.getD 0 default < 0 ∨ rg.getD 0 default ≥ n)
    rw [hk]; omega
   simp only [fl, vV]
   rw [iN hk0, tn, show (0 : Int).toNat = 0 from rfl, hk]
   rfl
 rw [iN o3] at h
 by_cases o4 : p.op = 4
 ·rw [iP o4] at h
  split at h
  case isFalse => cases h
  simp only [sJ] at h
  unfold dx at hN ⊢; unfold hU
  rw [iN o1, iN o2, iN o3, iP o4] at hN ⊢
  rw [iN o1, iN o2, iN o3, iP o4]
  have hx : dD (2 + st.length) p = 2 + e := by
   unfold dD; rw [iN (by omega), iN (by omega), iN (by omega), iN (by omega)]; omega
  rcases hn with ⟨n0, k0⟩ | ⟨nw, n1, k0, k1, hk⟩
  ·rw [iP n0] at hN ⊢
   have hb : 2 + st.length < rg.length := by have := hN _ (List.mem_singleton.2 rfl); simp only at this; omega
   refine ⟨rg.set (2 + st.length) _, ?_, hR.push _ hb, Two.set _ _ (by omega), by simp; omega, hx⟩
   have : IntKind.wrap .i64 (0 + p.n) = p.n := by rw [Int.zero_add]; exact wr hp.1 hp.2
   subst k0
   rw [this]
   simp [fl, exe, tn]
  ·rw [iN (by omega)] at hN ⊢
   have hb : 2 + st.length < rg.length := by have := hN _ (List.mem_cons_self); simp only at this; omega
   refine ⟨(rg.set (2 + st.length) p.n).set (2 + st.length) (IntKind.wrap .i64 (k + p.n)), ?_, ?_, (Two.set _ _ (by omega)).set' _ _ (by omega), by simp; omega, hx⟩
   ·simp only [fl, vU, te, bSq, tn]
    rw [ce _ _ _ hb, show (0 : Int).toNat = 0 from rfl, cZ _ _ _ _ (by omega), hk, t8, Int.add_comm]
   ·rw [List.set_set]; exact hR.push _ hb
 rw [iN o4] at h
 by_cases o5 : p.op = 5
 ·rw [iP o5] at h
  split at h
  case isFalse => cases h
  rename_i hd
  simp only [sJ] at h
  unfold dx at hN ⊢; unfold hU dD
  rw [iN o1, iN o2, iN o3, iN o4, iP o5] at hN ⊢
  rw [iN o1, iN o2, iN o3, iN o4, iP o5]
  have hdl : (st.drop 1).length = st.length - 1 := List.length_drop
  have t1 : (2 + (st.length : Int) - 1).toNat = 2 + (st.drop 1).length := by omega
  have g0 := hR.top 0 (by omega)
  rw [show 2 + st.length - 1 - 0 = 2 + (st.drop 1).length by omega] at g0
  refine ⟨rg.set (2 + (st.drop 1).length) _, ?_, (hR.drop 1 (by omega)).push _ (by omega), Two.set _ _ (by omega), by simp; omega, ?_⟩
  ·simp only [fl, vW]
   rw [t1, g0]
   rfl
  ·rw [iP o5]; omega
 rw [iN o5] at h
 by_cases o6 : p.op = 6
 ·rw [iP o6] at h
  split at h
  case isFalse => cases h
  rename_i hd
  simp only [sJ] at h
  unfold dx at hN ⊢; unfold hU dD
  rw [iN o1, iN o2, iN o3, iN o4, iN o5, iP o6] at hN ⊢
  rw [iN o1, iN o2, iN o3, iN o4, iN o5, iP o6]
  have hdl : (st.drop 2).length = st.length - 2 := List.length_drop
  have t2 : (2 + (st.length : Int) - 2).toNat = 2 + (st.drop 2).length := by omega
  have t1 : (2 + (st.length : Int) - 1).toNat = 2 + st.length - 1 - 0 := by omega
  have g0 := hR.top 0 (by omega)
  have g1 := hR.top 1 (by omega)
  rw [show 2 + st.length - 1 - 1 = 2 + (st.drop 2).length by omega] at g1
  refine ⟨rg.set (2 + (st.drop 2).length) _, ?_, (hR.drop 2 (by omega)).push _ (by omega), Two.set _ _ (by omega), by simp; omega, ?_⟩
  ·simp only [fl, te]
   rw [t2, g1, t1, g0]
   rfl
  ·rw [iN o5, iP o6]; omega
 rw [iN o6] at h
 by_cases o7 : p.op = 7
 ·rw [iP o7] at h
  split at h
  case isTrue => cases h
  rename_i hd
  simp only [sJ] at h
  unfold dx at hN ⊢; unfold hU dD
  rw [iN o1, iN o2, iN o3, iN o4, iN o5, iN o6, iP o7] at hN ⊢
  rw [iN o1, iN o2, iN o3, iN o4, iN o5, iN o6, iP o7]
  have hdl : (st.drop 3).length = st.length - 3 := List.length_drop
  have t3 : (2 + (st.length : Int) - 3).toNat = 2 + (st.drop 3).length := by omega
  have t2 : (2 + (st.length : Int) - 2).toNat = 2 + st.length - 1 - 1 := by omega
  have t1 : (2 + (st.length : Int) - 1).toNat = 2 + st.length - 1 - 0 := by omega
  have g0 := hR.top 0 (by omega)
  have g1 := hR.top 1 (by omega)
  have g2 := hR.top 2 (by omega)
  rw [show 2 + st.length - 1 - 2 = 2 + (st.drop 3).length by omega] at g2
  refine ⟨rg.set (2 + (st.drop 3).length) _, ?_, (hR.drop 3 (by omega)).push _ (by omega), Two.set _ _ (by omega), by simp; omega, ?_⟩
  ·simp only [fl, vX]
   rw [t3, g2, t1, g0, t2, g1]
   simp only [bSq]
   by_cases z : st.getD 2 default = 0
   ·rw [iP z, iN (by omega)]
   ·rw [iN z, iP z]
  ·rw [iN o5, iN o6, iP o7]; omega
 rw [iN o7] at h
 by_cases o8 : p.op = 8
 case neg => rw [iN o8] at h; cases h
 rw [iP o8] at h
 split at h
 case isFalse => cases h
 rename_i hd
 obtain ⟨hin, hd⟩ := hd
 rw [cE] at hin
 simp only [sJ] at h
 unfold dx at hN ⊢; unfold hU dD
 rw [iN o1, iN o2, iN o3, iN o4, iN o5, iN o6, iN o7] at hN ⊢
 rw [iN o1, iN o2, iN o3, iN o4, iN o5, iN o6, iN o7]
 have hdl : (st.drop 2).length = st.length - 2 := List.length_drop
 have hb : 2 + st.length + 2 < rg.length := by have := hN (ah.mk 1 0 (2 + (st.length : Int) + 2) 0 0 p.n) (by simp); simp only at this; omega
 have hx : (if p.op = 5 then (2 + (st.length : Int)) else if p.op = 6 then 2 + (st.length : Int) - 1 else if p.op = 7 then 2 + (st.length : Int) - 2 else if p.op = 8 then 2 + (st.length : Int) - 1 else 2 + (st.length : Int) + 1) = 2 + e := by
  rw [iN o5, iN o6, iN o7, iP o8]; omega
 obtain ⟨r10, x1, l10, b10⟩ := u5 (c := c) hb (by omega) hin.2.1 (hR.top 0 (by omega)) (hR.top 1 (by omega))
 rw [x1]
 refine ⟨_, rfl, ?_, ?_, by simp; omega, hx⟩
 ·have hR10 : RgS st r10 := ⟨by omega, fun j hj => by rw [b10 _ (by omega)]; exact hR.cell j hj⟩
  have := (hR10.drop 2 (by omega)).push (if 0 ≤ st.getD 1 default ∧ st.getD 1 default < p.n then c.getD (p.v + st.getD 1 default).toNat default else st.getD 0 default) (by omega)
  rw [show 2 + (st.drop 2).length = 2 + st.length - 2 by omega] at this
  exact this
 ·have : Two rg r10 := ⟨l10, b10 0 (by omega), b10 1 (by omega)⟩
  exact this.set' _ _ (by omega)
theorem qa {cells w n k : Int} {c : List Int} : ∀ (e : List au) (st rg : List Int) (d : Int), (∀ p ∈ e, okI .i64 p.n) → fW cells w e st.length = some d →
  ((n = 0 ∧ k = 0) ∨ (n = w ∧ 1 ≤ n ∧ 0 ≤ k ∧ k < n ∧ rg.getD 0 default = k)) → RgS st rg → (∀ x ∈ dE n (2 + st.length) e, x.r_ < rg.length) →
  ∃ rg', fl (dE n (2 + st.length) e) (c, rg) = some (c, rg') ∧ RgS (ph c k e st) rg' ∧ Two rg rg' ∧ ((ph c k e st).length : Int) = d
 | [], st, rg, d, _, h, _, hR, _ => by
  simp only [fW, sJ] at h
  exact ⟨rg, rfl, hR, Two.refl _, h⟩
 | p :: e, st, rg, d, hp, h, hn, hR, hN => by
  rw [fW] at h
  cases hs : fv cells w p st.length with
  | none => rw [hs] at h; cases h
  | some d1 =>
   rw [hs] at h
   simp only at h
   rw [dE] at hN ⊢
   obtain ⟨r1, x1, x2, x3, x4, x5⟩ := t9 (c := c) (hp p List.mem_cons_self) hs hn hR (fun x hx => hN x (List.mem_append_left _ hx))
   have hn' : (n = 0 ∧ k = 0) ∨ (n = w ∧ 1 ≤ n ∧ 0 ≤ k ∧ k < n ∧ r1.getD 0 default = k) := by rw [x3.a]; exact hn
   rw [x5, ← x4] at hN ⊢
   rw [← x4] at h
   obtain ⟨r2, y1, y2, y3, y4⟩ := qa e (hU c k p st) r1 d (fun q hq => hp q (List.mem_cons_of_mem _ hq)) h hn' x2 (fun x hx => by rw [x3.len]; exact hN x (List.mem_append_right _ hx))
   refine ⟨r2, ?_, y2, x3.trans y3, y4⟩
   rw [mc, x1]
   exact y1
theorem nQ {cells w n k : Int} {c rg : List Int} {e : List au} (hp : ∀ p ∈ e, okI .i64 p.n) (h : eZ cells w e = true)
  (hn : (n = 0 ∧ k = 0) ∨ (n = w ∧ 1 ≤ n ∧ 0 ≤ k ∧ k < n ∧ rg.getD 0 default = k)) (hl : 3 ≤ rg.length) (hN : ∀ x ∈ dE n 2 e, x.r_ < rg.length) :
  ∃ rg', fl (dE n 2 e) (c, rg) = some (c, rg') ∧ rg'.getD 2 default = i1 c k e ∧ Two rg rg' := by
 obtain ⟨h1, _⟩ := gP h
 obtain ⟨r1, x1, x2, x3, x4⟩ := qa (c := c) e [] rg 1 hp h1 hn ⟨by simp; omega, fun j hj => by simp at hj⟩ hN
 refine ⟨r1, x1, ?_, x3⟩
 have := x2.cell 0 (by omega)
 rw [show (ph c k e []).length - 1 - 0 = 0 by omega] at this
 unfold i1 stk
 rw [List.take_length]
 exact this
noncomputable def lop (body : List ah) : Nat → Nat → CR → Option CR
 | 0, _, s => some s
 | k + 1, t, s => (fl body (s.1, s.2.set 0 (t : Int))).bind (lop body k (t + 1))
def jE (x : ap) : List ah := if x.op = 2 then [] else dE 0 2 x.f ++ [ah.mk 9 0 1 2 0 0]
def e7 (x : ap) : List ah := dE x.n 2 x.e ++ (if x.op = 2 then [ah.mk 5 0 2 0 x.n x.to] else if x.op = 3 then [ah.mk 7 x.k 1 1 2 0] else [ah.mk 7 x.k 1 1 2 0, ah.mk 5 0 1 0 x.n x.to])
def hY (x : ap) : List ah := if x.op = 3 then [ah.mk 4 0 1 0 0 x.to] else []
theorem gQ (x : ap) (h : x.op ≠ 1) : bC x = jE x ++ (ah.mk 10 0 0 0 0 x.n :: (e7 x ++ (ah.mk 11 0 0 0 0 0 :: hY x))) := by
 unfold bC jE e7 hY
 rw [iN h]
 simp [List.append_assoc]
structure nR (cells : Int) (x : ap) : Prop where
 e : ∀ p ∈ x.e, okI .i64 p.n
 f : ∀ p ∈ x.f, okI .i64 p.n
theorem ua {cells : Int} {x : ap} {c rg : List Int} (G : nR cells x) (o1 : x.op = 1) (h : bG cells x = true) (hl : 3 ≤ rg.length) (hN : ∀ y ∈ bC x, y.r_ < rg.length) :
  ∃ rg', fl (bC x) (c, rg) = some (i2 x c, rg') ∧ rg'.length = rg.length := by
 unfold bG at h
 rw [iP o1, Bool.and_eq_true] at h
 unfold bC at hN ⊢
 rw [iP o1] at hN ⊢
 obtain ⟨r1, x1, x2, x3⟩ := nQ (c := c) (n := 0) (k := 0) G.e h.2 (.inl ⟨rfl, rfl⟩) hl (fun y hy => hN y (List.mem_append_left _ hy))
 refine ⟨r1, ?_, x3.len⟩
 rw [mc, x1]
 simp only [bSq, fl, wa]
 unfold i2
 rw [iP o1, ← x2]
 rfl
theorem tg {cells : Int} {x : ap} {c rg : List Int} (G : nR cells x) (o1 : x.op ≠ 1) (h : bG cells x = true) (hl : 3 ≤ rg.length) (hN : ∀ y ∈ bC x, y.r_ < rg.length) (j : Nat) (hj : j < x.n.toNat) (a : Int) (ha : x.op = 2 ∨ rg.getD 1 default = a) :
  ∃ rg', fl (e7 x) (c, rg.set 0 (j : Int)) = some ((kx x j (c, a)).1, rg') ∧ rg'.length = rg.length ∧ (x.op = 2 ∨ rg'.getD 1 default = (kx x j (c, a)).2) := by
 unfold bG at h
 rw [iN o1] at h
 split at h
 case isFalse => cases h
 rename_i hn
 rw [Bool.and_eq_true, Bool.and_eq_true] at h
 obtain ⟨⟨he, hto⟩, _⟩ := h
 rw [cE] at hto
 rw [gQ x o1] at hN
 have hl' : (rg.set 0 (j : Int)).length = rg.length := by simp
 have g0 : (rg.set 0 (j : Int)).getD 0 default = j := ce _ _ _ (by omega)
 have hNb : ∀ y ∈ e7 x, y.r_ < rg.length := fun y hy => hN y (List.mem_append_right _ (List.mem_cons_of_mem _ (List.mem_append_left _ hy)))
 unfold e7 at hNb ⊢
 obtain ⟨r1, x1, x2, x3⟩ := nQ (c := c) (n := x.n) (k := j) (rg := rg.set 0 (j : Int)) G.e he (.inr ⟨rfl, by omega, by omega, by omega, g0⟩) (by omega) (fun y hy => by rw [hl']; exact hNb y (List.mem_append_left _ hy))
 rw [mc, x1]
 simp only [bSq]
 have l1 : r1.length = rg.length := by rw [x3.len, hl']
 have k0 : r1.getD 0 default = (j : Int) := by rw [x3.a, g0]
 have k1 : r1.getD 1 default = rg.getD 1 default := by rw [x3.b, cZ _ _ _ _ (by omega)]
 unfold kx
 by_cases o2 : x.op = 2
 ·rw [iP o2, iP o2]
  refine ⟨r1, ?_, l1, .inl o2⟩
  simp only [fl, wb]
  rw [show (0 : Int).toNat = 0 from rfl, k0, iN (by omega), show (2 : Int).toNat = 2 from rfl, x2]
  rfl
 ·have ha' := ha.resolve_left o2
  rw [iN o2, iN o2]
  by_cases o3 : x.op = 3
  ·rw [iP o3, iP o3]
   refine ⟨r1.set 1 (app x.k a (i1 c j x.e)), ?_, by rw [List.length_set]; exact l1, .inr ?_⟩
   ·simp only [fl, te]
    rw [show (1 : Int).toNat = 1 from rfl, k1, ha', show (2 : Int).toNat = 2 from rfl, x2]
    rfl
   ·exact ce _ _ _ (by omega)
  ·rw [iN o3, iN o3]
   refine ⟨r1.set 1 (app x.k a (i1 c j x.e)), ?_, by rw [List.length_set]; exact l1, .inr ?_⟩
   ·simp only [fl, te, wb, bSq]
    rw [show (1 : Int).toNat = 1 from rfl, show (0 : Int).toNat = 0 from rfl, show (2 : Int).toNat = 2 from rfl, k1, ha', x2, cZ _ _ _ _ (by omega), k0, iN (by omega), ce _ _ _ (by omega)]
    rfl
   ·exact ce _ _ _ (by omega)
theorem rm {cells : Int} {x : ap} (G : nR cells x) (o1 : x.op ≠ 1) (h : bG cells x = true) : ∀ (n j : Nat) (c rg : List Int) (a : Int), j + n = x.n.toNat → 3 ≤ rg.length → (∀ y ∈ bC x, y.r_ < rg.length) → (x.op = 2 ∨ rg.getD 1 default = a) →
  ∃ rg', lop (e7 x) n j (c, rg) = some ((jD x n j (c, a)).1, rg') ∧ rg'.length = rg.length ∧ (x.op = 2 ∨ rg'.getD 1 default = (jD x n j (c, a)).2)
 | 0, j, c, rg, a, _, _, _, ha => ⟨rg, rfl, rfl, ha⟩
 | n + 1, j, c, rg, a, hj, hl, hN, ha => by
  obtain ⟨r1, x1, x2, x3⟩ := tg (c := c) G o1 h hl hN j (by omega) a ha
  obtain ⟨r2, y1, y2, y3⟩ := rm G o1 h n (j + 1) (kx x j (c, a)).1 r1 (kx x j (c, a)).2 (by omega) (by omega) (by rw [x2]; exact hN) x3
  refine ⟨r2, ?_, by omega, y3⟩
  rw [lop, x1]
  exact y1
theorem rX {cells : Int} {x : ap} {c rg : List Int} (G : nR cells x) (o1 : x.op ≠ 1) (h : bG cells x = true) (hl : 3 ≤ rg.length) (hN : ∀ y ∈ bC x, y.r_ < rg.length) :
  ∃ r1 c2 r2 r3, fl (jE x) (c, rg) = some (c, r1) ∧ r1.length = rg.length ∧ lop (e7 x) x.n.toNat 0 (c, r1) = some (c2, r2) ∧ r2.length = rg.length ∧ fl (hY x) (c2, r2) = some (i2 x c, r3) ∧ r3.length = rg.length := by
 have h0 := h
 unfold bG at h0
 rw [iN o1] at h0
 split at h0
 case isFalse => cases h0
 rename_i hn
 rw [Bool.and_eq_true, Bool.and_eq_true, Bool.or_eq_true, Bool.and_eq_true, decide_eq_true_eq] at h0
 obtain ⟨⟨he, hto⟩, hf⟩ := h0
 rw [cE] at hto
 obtain ⟨a, hav⟩ : ∃ a, a = if x.op = 2 then 0 else i1 c 0 x.f := ⟨_, rfl⟩
 have pre : ∃ r1, fl (jE x) (c, rg) = some (c, r1) ∧ r1.length = rg.length ∧ (x.op = 2 ∨ r1.getD 1 default = a) := by
  unfold jE
  by_cases o2 : x.op = 2
  ·rw [iP o2]; exact ⟨rg, rfl, rfl, .inl o2⟩
  ·rw [iN o2]
   obtain ⟨_, hf⟩ := hf.resolve_left o2
   have hNp : ∀ y ∈ jE x, y.r_ < rg.length := fun y hy => hN y (by rw [gQ x o1]; exact List.mem_append_left _ hy)
   unfold jE at hNp
   rw [iN o2] at hNp
   obtain ⟨r1, x1, x2, x3⟩ := nQ (c := c) (n := 0) (k := 0) G.f hf (.inl ⟨rfl, rfl⟩) hl (fun y hy => hNp y (List.mem_append_left _ hy))
   have := x3.len
   refine ⟨r1.set 1 (i1 c 0 x.f), ?_, by rw [List.length_set]; exact x3.len, .inr ?_⟩
   ·rw [mc, x1]
    simp only [bSq, fl, vY]
    rw [show (1 : Int).toNat = 1 from rfl, show (2 : Int).toNat = 2 from rfl, x2]
   ·rw [hav, iN o2]; exact ce _ _ _ (by omega)
 obtain ⟨r1, p1, p2, p3⟩ := pre
 obtain ⟨r2, q1, q2, q3⟩ := rm G o1 h x.n.toNat 0 c r1 a (by omega) (by omega) (by rw [p2]; exact hN) p3
 refine ⟨r1, _, r2, r2, p1, p2, q1, by omega, ?_, by omega⟩
 unfold hY i2
 rw [iN o1, ← hav]
 by_cases o3 : x.op = 3
 ·rw [iP o3, iP o3]
  simp only [fl, wa]
  rw [show (1 : Int).toNat = 1 from rfl, q3.resolve_left (by omega)]
  rfl
 ·rw [iN o3, iN o3]
  rfl
theorem nS (l : List Int) (hl : l.length ≤ 9000000) : gH l l = some true := by
 unfold gH
 rw [iN (by simp), cD l.length (fun _ => none) ()]
 ·rw [ik (fun _ _ => rfl)]; rfl
 ·intro i hi
  unfold eU
  rw [iP (ltI hi), iP ⟨inI hi, inI hi⟩, iN (by simp), wrs i (by omega)]
 ·unfold eU; rw [iN (bp _)]
theorem mQ (l : List Int) (hl : l.length ≤ 9000000) : fp l l = some true := by
 unfold fp
 rw [iN (by simp), cD l.length (fun _ => none) ()]
 ·rw [ik (fun _ _ => rfl)]; rfl
 ·intro i hi
  unfold dV
  rw [iP (ltI hi), iP ⟨inI hi, inI hi⟩, iN (by simp), wrs i (by omega)]
 ·unfold dV; rw [iN (bp _)]
theorem pk (rows : List (List Int)) (hl : rows.length ≤ 9000000) : ∃ b, gC rows = some b ∧ (b = false → rows.length ≤ 60 ∧ ∀ i, i < rows.length → (rows.getD i default).length ≤ 10000) := by
 unfold gC
 by_cases c : (rows.length : Int) > 60
 ·rw [iP c]; exact ⟨true, rfl, fun h => by cases h⟩
 rw [iN c, cD rows.length (fun i => if ((rows.getD i default).length : Int) > 10000 then some true else none) ()]
 ·rcases eA rows.length (fun i => if ((rows.getD i default).length : Int) > 10000 then some true else none) () with ⟨e, h⟩ | ⟨j, z, _, hf, e⟩
  ·rw [e]
   refine ⟨false, rfl, fun _ => ⟨by omega, fun i hi => ?_⟩⟩
   have := h i hi
   split at this
   ·cases this
   ·omega
  ·rw [e]
   refine ⟨z, rfl, fun h => ?_⟩
   split at hf
   ·simp_all
   ·cases hf
 ·intro i hi
  unfold eM
  rw [iP (ltI hi), iP (inI hi), tN, wrs i (by omega)]
  split <;> rfl
 ·unfold eM; rw [iN (bp _)]
theorem qk {rows : List (List Int)} (h : ∀ l ∈ rows, ∀ y ∈ l, okI .i64 y) {i : Nat} (hi : i < rows.length) : ∀ y ∈ rows.getD i default, okI .i64 y := h _ (ft hi)
def ky (put inn : List Int) : Nat → Nat → List Int → List Int
 | 0, _, c => c
 | k + 1, i, c => ky put inn k (i + 1) (c.set (put.getD i default).toNat (inn.getD i default))
theorem oK {put inn : List Int} (hin : ∀ y ∈ inn, okI .i64 y) : ∀ (k i : Nat) (c : List Int), (∀ y ∈ c, okI .i64 y) → (ky put inn k i c).length = c.length ∧ ∀ y ∈ ky put inn k i c, okI .i64 y
 | 0, _, c, h => ⟨rfl, h⟩
 | k + 1, i, c, h => by
  obtain ⟨h1, h2⟩ := oK hin k (i + 1) (c.set (put.getD i default).toNat (inn.getD i default)) (pg h (dd hin i))
  exact ⟨by rw [ky, h1, List.length_set], h2⟩
def kb (get c : List Int) : List Int := get.map fun a => c.getD a.toNat default
theorem oL (get c : List Int) (i : Nat) (hi : i < get.length) : (kb get c).take (i + 1) = (kb get c).take i ++ [c.getD (get.getD i default).toNat default] := by
 have hl : i < (kb get c).length := by unfold kb; simpa using hi
 rw [List.take_succ, List.getElem?_eq_getElem hl]
 simp [kb, List.getD, hi]
theorem th {T Z : Type} {n : Nat} {f : Nat → Option Z} {t t' : T} (h : kS n f t = .inl t') : ∀ i, i < n → f i = none := by
 rcases eA n f t with ⟨_, h2⟩ | ⟨i, z, _, _, h2⟩
 ·exact h2
 ·rw [h2] at h; cases h
structure qb (m : aE) : Prop where
 c1 : 1 ≤ m.cells
 c2 : m.cells ≤ 6000
 l1 : m.put.length ≤ 6000
 l3 : m.get.length ≤ 120000
 ls : m.steps.length ≤ 1200
 put : ∀ i, i < m.put.length → 0 ≤ m.put.getD i default ∧ m.put.getD i default < m.cells
 get : ∀ i, i < m.get.length → 0 ≤ m.get.getD i default ∧ m.get.getD i default < m.cells
 ok : ∀ x ∈ m.steps, bG m.cells x = true
theorem ti {m : aE} (h : (gm m).code = 0) : qb m ∧ gm m = aq.mk 0 0 := by
 unfold gm at h ⊢
 split at h
 ·cases h
 rename_i c1
 rw [iN c1]
 split at h
 ·cases h
 rename_i c2
 rw [iN c2]
 split at h
 case isFalse => cases h
 rename_i c3
 rw [iP c3]
 rw [List.all_append, Bool.and_eq_true, List.all_eq_true, List.all_eq_true] at c3
 have st : kw m = .inl () := by
  unfold kw at h ⊢
  rcases eA m.steps.length (fun i => if bG m.cells (m.steps.getD i default) = true then none else some (aq.mk 4 i)) () with ⟨e, _⟩ | ⟨j, z, _, hf, e⟩
  ·exact e
  ·rw [e] at h
   simp only at h hf
   split at hf
   ·cases hf
   ·simp only [sJ] at hf; subst hf; cases h
 rw [st]
 refine ⟨⟨by omega, by omega, by omega, by omega, by omega, fun i hi => ?_, fun i hi => ?_, fun x hx => ?_⟩, rfl⟩
 ·have := c3.1 _ (ft hi); rw [cE] at this; omega
 ·have := c3.2 _ (ft hi); rw [cE] at this; omega
 ·obtain ⟨i, hi, he⟩ := List.getElem_of_mem hx
  have := th st i hi
  rw [show m.steps.getD i default = x by simp [List.getD, hi, he]] at this
  split at this
  ·assumption
  ·cases this
theorem ux {put inn : List Int} {nc : Int} (hp : ∀ i, i < put.length → 0 ≤ put.getD i default ∧ put.getD i default < nc) (hlen : inn.length = put.length) (hl : put.length ≤ 6000) : ∀ (k i : Nat) (c : List Int), i + k = put.length → (c.length : Int) = nc →
  bg (fun (l76, x77) => bW inn put l76 x77) (c, (i : Int)) = some (ky put inn k i c)
 | 0, i, c, hi, _ => by
  have : i = inn.length := by omega
  subst this
  exact aQ (by show bW _ _ _ _ = _; unfold bW; rw [iN (bp _)]; rfl)
 | k + 1, i, c, hi, hc => by
  have hlt : i < put.length := by omega
  have := hp i hlt
  rw [aW (s' := (c.set (put.getD i default).toNat (inn.getD i default), ((i + 1 : Nat) : Int))) (by show bW _ _ _ _ = _; unfold bW; rw [iP (by omega), tN, iP ⟨by omega, by omega, by omega⟩, wrs i (by omega)])]
  exact ux hp hlen hl k (i + 1) _ (by omega) (by rw [List.length_set]; exact hc)
theorem uy {get c : List Int} {nc : Int} (hp : ∀ i, i < get.length → 0 ≤ get.getD i default ∧ get.getD i default < nc) (hl : get.length ≤ 120000) (hc : (c.length : Int) = nc) : ∀ (k i : Nat), i + k = get.length →
  bg (fun (l21, x23) => bP get c l21 x23) ((kb get c).take i, (i : Int)) = some (kb get c)
 | 0, i, hi => by
  have : i = get.length := by omega
  subst this
  rw [List.take_of_length_le (by simp [kb])]
  exact aQ (by show bP _ _ _ _ = _; unfold bP; rw [iN (bp _)])
 | k + 1, i, hi => by
  have hlt : i < get.length := by omega
  have := hp i hlt
  rw [aW (s' := ((kb get c).take (i + 1), ((i + 1 : Nat) : Int))) (by
   show bP _ _ _ _ = _
   unfold bP
   rw [iP (ltI hlt), tN, iP ⟨inI hlt, by omega, oI (by simp [kb]; omega) (by omega)⟩, wrs i (by omega), oL get _ i hlt]
   rfl)]
  exact uy hp hl hc k (i + 1) (by omega)
theorem ub {m : aE} (G : qb m) (hm : m.ok) (fuel : Nat) (hf : 24 ≤ fuel) (inn : List Int) (hin : ∀ y ∈ inn, okI .i64 y) (c : List Int) (g : dH m.cells c) (hl : inn.length = m.put.length) :
  fo fuel inn m.cells m.put m.get m.steps c = some (kb m.get (gK m.steps (ky m.put inn m.put.length 0 c)), gK m.steps (ky m.put inn m.put.length 0 c)) ∧ dH m.cells (ky m.put inn m.put.length 0 c) ∧ dH m.cells (gK m.steps (ky m.put inn m.put.length 0 c)) := by
 have hc2 := G.c2
 have gl := g.len
 have hls := G.ls
 have h2 := ux (nc := m.cells) G.put hl G.l1 m.put.length 0 c (by omega) gl
 simp only [Int.natCast_zero] at h2
 obtain ⟨g1, g2⟩ := oK (put := m.put) hin m.put.length 0 c g.ok
 have g3 : dH m.cells (ky m.put inn m.put.length 0 c) := ⟨by rw [g1]; exact gl, g2⟩
 obtain ⟨s2, s3⟩ := pY hc2 (by omega) hm.2.2.2 G.ok fuel hf m.cells m.put m.get m.steps.length 0 _ (by omega) g3
 simp only [Int.natCast_zero, List.drop_zero] at s2 s3
 have e2 := uy G.get G.l3 s3.len m.get.length 0 (by omega)
 simp only [Int.natCast_zero, List.take_zero] at e2
 refine ⟨?_, g3, s3⟩
 unfold fo
 rw [h2]
 simp only [bSq]
 unfold cX
 rw [s2]
 simp only [bSq]
 unfold cV
 rw [e2]; rfl
def cH (nr r : Int) : Prop := 0 ≤ r ∧ r < nr
def qJ (nc nr : Int) (x : ah) : Prop :=
 (x.op = 1 ∧ cH nr x.r_) ∨ ((x.op = 2 ∨ x.op = 4) ∧ cH nr x.r_ ∧ 0 ≤ x.n ∧ x.n < nc) ∨ ((x.op = 3 ∨ x.op = 5) ∧ cH nr x.r_ ∧ cH nr x.a ∧ 0 ≤ x.n ∧ x.n < nc ∧ 1 ≤ x.b ∧ x.b ≤ nc - x.n) ∨
 (x.op = 6 ∧ cH nr x.r_ ∧ cH nr x.a ∧ cO x.k = 1) ∨ (x.op = 7 ∧ cH nr x.r_ ∧ cH nr x.a ∧ cH nr x.b ∧ cO x.k = 2) ∨ (x.op = 8 ∧ cH nr x.r_ ∧ cH nr x.a ∧ cH nr x.b) ∨ (x.op = 9 ∧ cH nr x.r_ ∧ cH nr x.a) ∨
 (x.op = 10 ∧ cH nr x.r_ ∧ 1 ≤ x.n ∧ x.n ≤ 300) ∨ x.op = 11
structure gR (nc nr : Int) (s : CR) : Prop where
 lc : (s.1.length : Int) = nc
 lr : (s.2.length : Int) = nr
 oc : ∀ y ∈ s.1, okI .i64 y
 orr : ∀ y ∈ s.2, okI .i64 y
theorem gR.setR {nc nr : Int} {s : CR} (g : gR nc nr s) (i : Nat) {v : Int} (hv : okI .i64 v) : gR nc nr (s.1, s.2.set i v) := ⟨g.lc, by rw [List.length_set]; exact g.lr, g.oc, pg g.orr hv⟩
theorem gR.setC {nc nr : Int} {s : CR} (g : gR nc nr s) (i : Nat) {v : Int} (hv : okI .i64 v) : gR nc nr (s.1.set i v, s.2) := ⟨by rw [List.length_set]; exact g.lc, g.lr, pg g.oc hv, g.orr⟩
theorem rn {nc nr : Int} {x : ah} {s t : CR} (hnc : nc ≤ 6000) (hn : okI .i64 x.n) (hV : qJ nc nr x) (g : gR nc nr s) (h10 : x.op ≠ 10) (h11 : x.op ≠ 11) (he : exe x s = some t) :
  (∀ p3 p4 p5 p6 p7 p8 p9 n, bh x nr.toNat p3 p4 p5 p6 p7 p8 p9 n s.2 s.1 = some (true, IntKind.wrap .i64 (n + 1), t.2, t.1)) ∧ gR nc nr t := by
 have lc := g.lc
 have lr := g.lr
 unfold cH at *
 rcases hV with ⟨o, hr⟩ | ⟨o, hr, hn1, hn2⟩ | ⟨o, hr, ha, hn1, hn2, hb1, hb2⟩ | ⟨o, hr, ha, hk⟩ | ⟨o, hr, ha, hb, hk⟩ | ⟨o, hr, ha, hb⟩ | ⟨o, hr, ha⟩ | ⟨o, _⟩ | o
 ·rw [uo _ _ o] at he
  simp only [sJ] at he
  subst he
  refine ⟨fun p3 p4 p5 p6 p7 p8 p9 n => ?_, g.setR _ hn⟩
  unfold bh
  rw [iP o, iP ⟨by unfold cH at hr; omega, by unfold cH at hr; omega⟩]
 ·unfold cH at hr
  rcases o with o | o
  ·rw [vZ _ _ o] at he
   simp only [sJ] at he
   subst he
   refine ⟨fun p3 p4 p5 p6 p7 p8 p9 n => ?_, g.setR _ (dd g.oc _)⟩
   unfold bh
   rw [iN (by omega), iP o, iP ⟨by omega, by omega, by omega⟩]
  ·rw [uv _ _ o] at he
   simp only [sJ] at he
   subst he
   refine ⟨fun p3 p4 p5 p6 p7 p8 p9 n => ?_, g.setC _ (dd g.orr _)⟩
   unfold bh
   rw [iN (by omega), iN (by omega), iP o, iP ⟨by omega, by omega, by omega⟩]
 ·unfold cH at hr ha
  obtain ⟨v, hv⟩ : ∃ v, s.2.getD x.a.toNat default = v := ⟨_, rfl⟩
  rcases o with o | o
  ·rw [up _ _ o, hv] at he
   split at he
   ·cases he
   rename_i hlt
   simp only [sJ] at he
   subst he
   have hw : IntKind.wrap .i64 (x.n + v) = x.n + v := wr (by omega) (by omega)
   refine ⟨fun p3 p4 p5 p6 p7 p8 p9 n => ?_, g.setR _ (dd g.oc _)⟩
   unfold bh
   rw [iN (by omega), iN (by omega), iN (by omega), iP o, iP ⟨by omega, by omega⟩, hv, iN (by omega), iN (by omega), hw, iP ⟨by omega, by omega, by omega⟩]
  ·rw [uw _ _ o, hv] at he
   split at he
   ·cases he
   rename_i hlt
   simp only [sJ] at he
   subst he
   have hw : IntKind.wrap .i64 (x.n + v) = x.n + v := wr (by omega) (by omega)
   refine ⟨fun p3 p4 p5 p6 p7 p8 p9 n => ?_, g.setC _ (dd g.orr _)⟩
   unfold bh
   rw [iN (by omega), iN (by omega), iN (by omega), iN (by omega), iP o, iP ⟨by omega, by omega⟩, hv, iN (by omega), iN (by omega), hw, iP ⟨by omega, by omega, by omega⟩]
 ·unfold cH at hr ha
  rw [uq _ _ o] at he
  simp only [sJ] at he
  subst he
  obtain ⟨a1, _, a3⟩ := ix x.k (s.2.getD x.a.toNat default) 0 (dd g.orr _) gI
  refine ⟨fun p3 p4 p5 p6 p7 p8 p9 n => ?_, g.setR _ a3⟩
  unfold bh
  rw [iN (by omega), iN (by omega), iN (by omega), iN (by omega), iN (by omega), iP o, iP ⟨by omega, by omega⟩, a1]
  simp only [bSq]
  rw [iP ⟨by omega, by omega⟩]
 ·unfold cH at hr ha hb
  rw [ur _ _ o] at he
  simp only [sJ] at he
  subst he
  obtain ⟨a1, _, a3⟩ := ix x.k (s.2.getD x.a.toNat default) (s.2.getD x.b.toNat default) (dd g.orr _) (dd g.orr _)
  refine ⟨fun p3 p4 p5 p6 p7 p8 p9 n => ?_, g.setR _ a3⟩
  unfold bh
  rw [iN (by omega), iN (by omega), iN (by omega), iN (by omega), iN (by omega), iN (by omega), iP o, iP ⟨by omega, by omega, by omega, by omega⟩, a1]
  simp only [bSq]
  rw [iP ⟨by omega, by omega⟩]
 ·unfold cH at hr ha hb
  rw [ut _ _ o] at he
  simp only [sJ] at he
  subst he
  refine ⟨fun p3 p4 p5 p6 p7 p8 p9 n => ?_, g.setR _ (by split; exact dd g.orr _; exact dd g.orr _)⟩
  unfold bh
  rw [iN (by omega), iN (by omega), iN (by omega), iN (by omega), iN (by omega), iN (by omega), iN (by omega), iP o, iP ⟨by omega, by omega⟩]
  by_cases z : s.2.getD x.r_.toNat default = 0
  ·rw [iP z, iP z, iP ⟨by omega, by omega⟩]
  ·rw [iN z, iN z, iP ⟨by omega, by omega⟩]
 ·unfold cH at hr ha
  have he9 := uu x s o
  rw [he9] at he
  simp only [sJ] at he
  subst he
  refine ⟨fun p3 p4 p5 p6 p7 p8 p9 n => ?_, g.setR _ (dd g.orr _)⟩
  unfold bh
  rw [iN (by omega), iN (by omega), iN (by omega), iN (by omega), iN (by omega), iN (by omega), iN (by omega), iN (by omega), iP o, iP ⟨by omega, by omega, by omega, by omega⟩]
 ·exact absurd o h10
 ·exact absurd o h11
theorem tj {α : Type} [Inhabited α] (l : List α) (i j : Nat) : (l.drop i).getD j default = l.getD (i + j) default := by
 simp [List.getD, List.getElem?_drop]
theorem iy {α : Type} [Inhabited α] {l : List α} {i : Nat} {x : α} {r : List α} (h : l.drop i = x :: r) : i < l.length ∧ l.getD i default = x ∧ l.drop (i + 1) = r := by
 have hi : i < l.length := by
  rcases Nat.lt_or_ge i l.length with h' | h'
  ·exact h'
  ·rw [List.drop_eq_nil_of_le h'] at h; cases h
 refine ⟨hi, ?_, ?_⟩
 ·have := tj l i 0
  rw [h] at this
  exact this.symm
 ·rw [← List.drop_drop, h]; rfl
structure ImC (m : aB) : Prop where
 c1 : 1 ≤ m.cells
 c2 : m.cells ≤ 6000
 r1 : 3 ≤ m.regs
 r2 : m.regs ≤ 40
 v : ∀ x ∈ m.code, qJ m.cells m.regs x
 n : ∀ x ∈ m.code, okI .i64 x.n
 len : m.code.length ≤ 200000
noncomputable def uc (m : aB) (e : Int) (n : Int) (c r : List Int) (i : Int) := bg (fun (x79, l80, l81, x82) => cx m.cells m.regs m.cost m.put m.bools m.get m.code e x79 l80 l81 x82) (n, c, r, i)
noncomputable def ud (m : aB) (a e : Int) (n : Int) (c r : List Int) (t : Int) := bg (fun (x51, l52, l53, x54) => cy m.cells m.regs m.cost m.put m.bools m.get m.code a e x51 l52 l53 x54) (n, c, r, t)
noncomputable def pm (m : aB) (n : Int) (c r : List Int) (i : Int) := bg (fun (x20, l21, l22, x23) => bz m.cells m.regs m.cost m.put m.bools m.get m.code x20 l21 l22 x23) (n, c, r, i)
def bq (l : List ah) : Prop := ∀ x ∈ l, x.op ≠ 10 ∧ x.op ≠ 11
theorem kL {m : aB} (C : ImC m) : ∀ (seg : List ah) (i : Nat) (rest : List ah) (s t : CR) (n : Int), m.code.drop i = seg ++ rest → bq seg → gR m.cells m.regs s → fl seg s = some t →
  ∃ n', pm m n s.1 s.2 i = pm m n' t.1 t.2 ((i + seg.length : Nat) : Int) ∧ gR m.cells m.regs t
 | [], i, rest, s, t, n, _, _, g, he => by
  simp only [fl, sJ] at he
  subst he
  exact ⟨n, rfl, g⟩
 | x :: seg, i, rest, s, t, n, hd, hp, g, he => by
  rw [List.cons_append] at hd
  obtain ⟨hi, hx, hd'⟩ := iy hd
  have hm : x ∈ m.code := by rw [← hx]; exact ft hi
  have hl := C.len
  rw [fl] at he
  cases h1 : exe x s with
  | none => rw [h1] at he; cases he
  | some u =>
   rw [h1] at he
   obtain ⟨e1, g1⟩ := rn C.c2 (C.n x hm) (C.v x hm) g (hp x List.mem_cons_self).1 (hp x List.mem_cons_self).2 h1
   obtain ⟨n', e2, g2⟩ := kL C seg (i + 1) rest u t (IntKind.wrap .i64 (n + 1)) hd' (fun y hy => hp y (List.mem_cons_of_mem _ hy)) g1 he
   refine ⟨n', ?_, g2⟩
   rw [List.length_cons, show i + (seg.length + 1) = i + 1 + seg.length by omega, ← e2]
   unfold pm
   refine aW (s' := (IntKind.wrap .i64 (n + 1), u.1, u.2, ((i + 1 : Nat) : Int))) ?_
   show bz _ _ _ _ _ _ _ _ _ _ _ = _
   unfold bz
   rw [iP (ltI hi), iP (inI hi)]
   simp only [tN, hx]
   rw [iP (hp x List.mem_cons_self).1, e1]
   simp only [bSq, if_true]
   unfold cY
   rw [wrs i (by omega)]
theorem qc {m : aB} (C : ImC m) (e : Nat) : ∀ (seg : List ah) (i : Nat) (rest : List ah) (s t : CR) (n : Int), m.code.drop i = seg ++ rest → i + seg.length = e → bq seg → gR m.cells m.regs s → fl seg s = some t →
  ∃ n', uc m e n s.1 s.2 i = some (.inl (n', t.1, t.2)) ∧ gR m.cells m.regs t
 | [], i, rest, s, t, n, _, hie, _, g, he => by
  simp only [fl, sJ] at he
  subst he
  simp only [List.length_nil, Nat.add_zero] at hie
  subst hie
  refine ⟨n, ?_, g⟩
  unfold uc
  refine aQ ?_
  show cx _ _ _ _ _ _ _ _ _ _ _ _ = _
  unfold cx
  rw [iN (bp _)]
 | x :: seg, i, rest, s, t, n, hd, hie, hp, g, he => by
  rw [List.cons_append] at hd
  obtain ⟨hi, hx, hd'⟩ := iy hd
  have hm : x ∈ m.code := by rw [← hx]; exact ft hi
  have hl := C.len
  rw [List.length_cons] at hie
  rw [fl] at he
  cases h1 : exe x s with
  | none => rw [h1] at he; cases he
  | some u =>
   rw [h1] at he
   obtain ⟨e1, g1⟩ := rn C.c2 (C.n x hm) (C.v x hm) g (hp x List.mem_cons_self).1 (hp x List.mem_cons_self).2 h1
   obtain ⟨n', e2, g2⟩ := qc C e seg (i + 1) rest u t (IntKind.wrap .i64 (n + 1)) hd' (by omega) (fun y hy => hp y (List.mem_cons_of_mem _ hy)) g1 he
   refine ⟨n', ?_, g2⟩
   rw [← e2]
   unfold uc
   refine aW (s' := (IntKind.wrap .i64 (n + 1), u.1, u.2, ((i + 1 : Nat) : Int))) ?_
   show cx _ _ _ _ _ _ _ _ _ _ _ _ = _
   unfold cx
   rw [iP (by omega), iP (inI hi)]
   simp only [tN, hx]
   rw [e1]
   simp only [bSq, if_true]
   rw [wrs i (by omega)]
theorem oM {m : aB} (C : ImC m) {i : Nat} {N : Int} {body rest : List ah} (hN : N ≤ 300) (hd : m.code.drop i = ah.mk 10 0 0 0 0 N :: (body ++ rest)) (hp : bq body) : ∀ (k t : Nat) (s u : CR) (n : Int), t + k = N.toNat → gR m.cells m.regs s → lop body k t s = some u →
  ∃ n', ud m i ((i + 1 + body.length : Nat) : Int) n s.1 s.2 t = some (.inl (n', u.1, u.2)) ∧ gR m.cells m.regs u
 | 0, t, s, u, n, ht, g, he => by
  obtain ⟨hi, hx, hd'⟩ := iy hd
  simp only [lop, sJ] at he
  subst he
  refine ⟨n, ?_, g⟩
  unfold ud
  refine aQ ?_
  show cy _ _ _ _ _ _ _ _ _ _ _ _ _ = _
  unfold cy
  simp only [tN, hx]
  rw [iN (by omega)]
 | k + 1, t, s, u, n, ht, g, he => by
  obtain ⟨hi, hx, hd'⟩ := iy hd
  have hl := C.len
  have r1 := C.r1
  have lr := g.lr
  rw [lop] at he
  cases h1 : fl body (s.1, s.2.set 0 (t : Int)) with
  | none => rw [h1] at he; cases he
  | some v =>
   rw [h1] at he
   have g0 : gR m.cells m.regs (s.1, s.2.set 0 (t : Int)) := g.setR 0 (⟨by show (-9223372036854775808 : Int) ≤ _; omega, by show (_ : Int) ≤ 9223372036854775807; omega⟩)
   obtain ⟨n1, e1, g1⟩ := qc C (i + 1 + body.length) body (i + 1) rest _ v n hd' rfl hp g0 h1
   obtain ⟨n', e2, g2⟩ := oM C hN hd hp k (t + 1) v u (IntKind.wrap .i64 (n1 + 1)) (by omega) g1 he
   refine ⟨n', ?_, g2⟩
   rw [← e2]
   unfold ud
   refine aW (s' := (IntKind.wrap .i64 (n1 + 1), v.1, v.2, ((t + 1 : Nat) : Int))) ?_
   show cy _ _ _ _ _ _ _ _ _ _ _ _ _ = _
   unfold cy
   simp only [tN, hx]
   rw [iP (by omega), iP ⟨⟨by omega, by omega⟩, by show (0 : Int).toNat < _; simp; omega⟩, wrs i (by omega)]
   unfold uc at e1
   show Option.bind (bg _ (n, s.1, s.2.set (0 : Int).toNat (t : Int), ((i + 1 : Nat) : Int))) _ = _
   rw [show (0 : Int).toNat = 0 from rfl, e1]
   simp only [bSq, Sum.elim_inl]
   unfold dL eP
   rw [wrs t (by omega)]
theorem qd {m : aB} (C : ImC m) : ∀ (seg : List ah) (i : Nat) (y : ah) (rest : List ah), m.code.drop i = seg ++ y :: rest → (∀ x ∈ seg, x.op ≠ 11) → y.op = 11 →
  bg (fun x94 => cz m.code x94) (i : Int) = some ((i + seg.length : Nat) : Int)
 | [], i, y, rest, hd, _, hy => by
  obtain ⟨hi, hx, hd'⟩ := iy hd
  refine aQ ?_
  show cz _ _ = _
  unfold cz
  simp only [tN, hx]
  rw [iP (inI hi), iN (fun h => h hy)]
  rfl
 | x :: seg, i, y, rest, hd, hp, hy => by
  rw [List.cons_append] at hd
  obtain ⟨hi, hx, hd'⟩ := iy hd
  have hl := C.len
  rw [List.length_cons, show i + (seg.length + 1) = i + 1 + seg.length by omega, ← qd C seg (i + 1) y rest hd' (fun z hz => hp z (List.mem_cons_of_mem _ hz)) hy]
  refine aW ?_
  show cz _ _ = _
  unfold cz
  simp only [tN, hx]
  rw [iP (inI hi), iP (hp x List.mem_cons_self), wrs i (by omega)]
theorem pn (n r : Int) (p : au) : bq (dx n r p) := by
 unfold dx bq
 repeat' split
 all_goals simp
theorem de (n : Int) : ∀ (e : List au) (r : Int), bq (dE n r e)
 | [], r => by simp [dE, bq]
 | p :: e, r => by
  intro x hx
  rw [dE] at hx
  rcases List.mem_append.1 hx with h | h
  ·exact pn n r p x h
  ·exact de n e _ x h
theorem fY {a b : List ah} (ha : bq a) (hb : bq b) : bq (a ++ b) := fun x hx => (List.mem_append.1 hx).elim (ha x) (hb x)
theorem tk {m : aB} (C : ImC m) {x : ap} (G : nR m.cells x) (hok : bG m.cells x = true) (i : Nat) (rest : List ah) (hd : m.code.drop i = bC x ++ rest) (c r : List Int) (n : Int) (g : gR m.cells m.regs (c, r)) :
  ∃ n' r', pm m n c r i = pm m n' (i2 x c) r' ((i + (bC x).length : Nat) : Int) ∧ gR m.cells m.regs (i2 x c, r') := by
 have lr := g.lr
 have r1 := C.r1
 simp only at lr
 have hN : ∀ y ∈ bC x, y.r_ < r.length := fun y hy => by
  have hm : y ∈ m.code := List.mem_of_mem_drop (i := i) (by rw [hd]; exact List.mem_append_left _ hy)
  rcases C.v y hm with ⟨_, h⟩ | ⟨_, h, _⟩ | ⟨_, h, _⟩ | ⟨_, h, _⟩ | ⟨_, h, _⟩ | ⟨_, h, _⟩ | ⟨_, h, _⟩ | ⟨_, h, _⟩ | h
  all_goals try (unfold cH at h; omega)
  by_cases o1 : x.op = 1
  ·exfalso
   unfold bC at hy
   rw [iP o1] at hy
   rcases List.mem_append.1 hy with h' | h'
   ·exact (de _ _ _ y h').2 h
   ·rw [List.mem_singleton] at h'; subst h'; simp at h
  ·rw [gQ x o1] at hy
   have hend : ∀ l : List ah, bq l → y ∈ l → False := fun l hl hy => (hl y hy).2 h
   have np : bq (jE x) := by
    unfold jE; split
    ·simp [bq]
    ·exact fY (de _ _ _) (by simp [bq])
   have nb : bq (e7 x) := by
    unfold e7
    refine fY (de _ _ _) ?_
    split
    ·simp [bq]
    ·split <;> simp [bq]
   have npo : bq (hY x) := by
    unfold hY; split <;> simp [bq]
   rcases List.mem_append.1 hy with h' | h'
   ·exact (hend _ np h').elim
   rcases List.mem_cons.1 h' with h' | h'
   ·subst h'; simp at h
   rcases List.mem_append.1 h' with h' | h'
   ·exact (hend _ nb h').elim
   rcases List.mem_cons.1 h' with h' | h'
   ·subst h'; show (0 : Int) < _; omega
   ·exact (hend _ npo h').elim
 by_cases o1 : x.op = 1
 ·obtain ⟨r', e1, e2⟩ := ua G o1 hok (c := c) (by omega) hN
  have nl : bq (bC x) := by
   unfold bC
   rw [iP o1]
   exact fY (de _ _ _) (by simp [bq])
  obtain ⟨n', h1, h2⟩ := kL C (bC x) i rest (c, r) (i2 x c, r') n hd nl g e1
  exact ⟨n', r', h1, h2⟩
 ·obtain ⟨ra, c2, rb, rc, p1, p2, p3, p4, p5, p6⟩ := rX G o1 hok (c := c) (by omega) hN
  rw [gQ x o1] at hd ⊢
  have np : bq (jE x) := by
   unfold jE; split
   ·simp [bq]
   ·exact fY (de _ _ _) (by simp [bq])
  have nb : bq (e7 x) := by
   unfold e7
   refine fY (de _ _ _) ?_
   split
   ·simp [bq]
   ·split <;> simp [bq]
  have npo : bq (hY x) := by
   unfold hY; split <;> simp [bq]
  have hn : 1 ≤ x.n ∧ x.n ≤ 300 := by
   have h0 := hok
   unfold bG at h0
   rw [iN o1] at h0
   split at h0
   ·rename_i h; exact h.2
   ·cases h0
  have hl := C.len
  simp only [List.append_assoc, List.cons_append] at hd
  obtain ⟨n1, a1, a2⟩ := kL C (jE x) i _ (c, r) (c, ra) n hd np g p1
  have hd2 : m.code.drop (i + (jE x).length) = ah.mk 10 0 0 0 0 x.n :: (e7 x ++ (ah.mk 11 0 0 0 0 0 :: (hY x ++ rest))) := by
   rw [← List.drop_drop, hd, List.drop_left]
  obtain ⟨j, hj⟩ : ∃ j, j = i + (jE x).length := ⟨_, rfl⟩
  rw [← hj] at hd2 a1
  obtain ⟨hi, hx, hd3⟩ := iy hd2
  obtain ⟨n2, b1, b2⟩ := oM C hn.2 hd2 nb x.n.toNat 0 (c, ra) (c2, rb) (IntKind.wrap .i64 (n1 + 1)) (by omega) a2 p3
  have hd4 : m.code.drop (j + 1 + (e7 x).length) = ah.mk 11 0 0 0 0 0 :: (hY x ++ rest) := by
   rw [← List.drop_drop, hd3, List.drop_left]
  obtain ⟨hi4, _, hd5⟩ := iy hd4
  have fe := qd C (ah.mk 10 0 0 0 0 x.n :: e7 x) j (ah.mk 11 0 0 0 0 0) (hY x ++ rest) (by rw [hd2]; rfl) (fun y hy => by
   rcases List.mem_cons.1 hy with h | h
   ·subst h; simp
   ·exact (nb y h).2) rfl
  rw [List.length_cons, show j + ((e7 x).length + 1) = j + 1 + (e7 x).length by omega] at fe
  obtain ⟨n3, d1, d2⟩ := kL C (hY x) (j + 1 + (e7 x).length + 1) rest (c2, rb) (i2 x c, rc) n2 hd5 npo b2 p5
  refine ⟨n3, rc, ?_, d2⟩
  rw [a1]
  have hlen : i + (jE x ++ ah.mk 10 0 0 0 0 x.n :: (e7 x ++ ah.mk 11 0 0 0 0 0 :: hY x)).length = j + 1 + (e7 x).length + 1 + (hY x).length := by
   simp only [List.length_append, List.length_cons]; omega
  rw [hlen, ← d1]
  unfold pm
  refine aW (s' := (n2, c2, rb, ((j + 1 + (e7 x).length + 1 : Nat) : Int))) ?_
  show bz _ _ _ _ _ _ _ _ _ _ _ = _
  unfold bz
  rw [iP (ltI hi), iP (inI hi)]
  simp only [tN, hx]
  rw [iN (by simp), fe]
  simp only [bSq]
  unfold dM
  unfold ud at b1
  simp only [Int.natCast_zero] at b1
  rw [b1]
  simp only [bSq, Sum.elim_inl]
  unfold dK cY
  rw [wrs _ (by omega)]
theorem oN {m : aB} (C : ImC m) : ∀ (l : List ap) (i : Nat) (c r : List Int) (n : Int), (∀ x ∈ l, nR m.cells x) → (∀ x ∈ l, bG m.cells x = true) → m.code.drop i = l.flatMap bC → gR m.cells m.regs (c, r) →
  ∃ n' r', pm m n c r i = some (.inl (n', gK l c, r')) ∧ gR m.cells m.regs (gK l c, r')
 | [], i, c, r, n, _, _, hd, g => by
  refine ⟨n, r, ?_, g⟩
  have hi : m.code.length ≤ i := by
   rw [List.flatMap_nil] at hd
   exact List.drop_eq_nil_iff.1 hd
  unfold pm
  refine aQ ?_
  show bz _ _ _ _ _ _ _ _ _ _ _ = _
  unfold bz
  rw [iN (by omega)]
  rfl
 | x :: l, i, c, r, n, hG, hok, hd, g => by
  rw [List.flatMap_cons] at hd
  obtain ⟨n1, r1, e1, g1⟩ := tk C (hG x List.mem_cons_self) (hok x List.mem_cons_self) i _ hd c r n g
  obtain ⟨n2, r2, e2, g2⟩ := oN C l (i + (bC x).length) (i2 x c) r1 n1 (fun y hy => hG y (List.mem_cons_of_mem _ hy)) (fun y hy => hok y (List.mem_cons_of_mem _ hy)) (by rw [← List.drop_drop, hd, List.drop_left]) g1
  exact ⟨n2, r2, by rw [e1]; exact e2, g2⟩
theorem ue {m : aB} (C : ImC m) (l : List ap) (hG : ∀ x ∈ l, nR m.cells x) (hok : ∀ x ∈ l, bG m.cells x = true) (hcode : m.code = l.flatMap bC) (c : List Int) (g : dH m.cells c) (n : Int) :
  ∃ n', gF m.cells m.regs m.cost m.put m.bools m.get m.code n c = some (-1, n', gK l c) ∧ dH m.cells (gK l c) := by
 have r1 := C.r1
 have r2 := C.r2
 have g0 : gR m.cells m.regs (c, List.replicate m.regs.toNat 0) := ⟨g.len, by simp; omega, g.ok, fun y hy => by
  simp only [List.mem_replicate] at hy
  rw [hy.2]; exact gI⟩
 obtain ⟨n1, r', e1, g1⟩ := oN C l 0 c (List.replicate m.regs.toNat 0) n hG hok (by rw [List.drop_zero]; exact hcode) g0
 refine ⟨n1, ?_, ⟨g1.lc, g1.oc⟩⟩
 unfold gF
 rw [iP ⟨by omega, oI (by omega) (by omega)⟩]
 unfold pm at e1
 simp only [Int.natCast_zero] at e1
 rw [e1]
 rfl
theorem tl {m : aB} {x : ah} (h1 : 1 ≤ m.cells) (h2 : m.cells ≤ 6000) (h : qJ m.cells m.regs x) : lf m x = true := by
 refine pU m x true h1 h2 ?_
 obtain ⟨a', b', e2⟩ := nI x.k
 have r2 : ∀ l : List Int, l.length ≤ 9000000 → co m l = some (l.all (dG m.regs)) := fun l hl => mA _ l hl
 unfold gj
 rw [e2]
 simp only [bSq]
 unfold ep eo
 have q1 := r2 (lit [x.r_]) (by simp [lit])
 have q2 := r2 (lit [x.r_, x.a]) (by simp [lit])
 have q3 := r2 (lit [x.r_, x.a, x.b]) (by simp [lit])
 have g1 : cH m.regs x.r_ → (lit [x.r_]).all (dG m.regs) = true := fun h => by unfold cH at h; simp [lit, dG]; omega
 have g2 : cH m.regs x.r_ → cH m.regs x.a → (lit [x.r_, x.a]).all (dG m.regs) = true := fun h h' => by unfold cH at h h'; simp [lit, dG]; omega
 have g3 : cH m.regs x.r_ → cH m.regs x.a → cH m.regs x.b → (lit [x.r_, x.a, x.b]).all (dG m.regs) = true := fun h h' h'' => by unfold cH at h h' h''; simp [lit, dG]; omega
 rcases h with ⟨o, hr⟩ | ⟨o, hr, hn1, hn2⟩ | ⟨o, hr, ha, hn1, hn2, hb1, hb2⟩ | ⟨o, hr, ha, hk⟩ | ⟨o, hr, ha, hb, hk⟩ | ⟨o, hr, ha, hb⟩ | ⟨o, hr, ha⟩ | ⟨o, hr, hn1, hn2⟩ | o
 ·rw [iP o, q1, g1 hr]; rfl
 ·have key : ∀ b : Bool, b = true → (if b = true then ((some ((lit [x.r_]).all (dG m.regs))).bind fun y4 => if y4 = true then (if x.n ≥ 0 then (some (decide (x.n < m.cells))) else (some false)) else (some false)) else none) = some true := fun b hb => by
   rw [iP hb, g1 hr]
   simp only [bSq, if_true]
   rw [iP hn1, dT hn2]
  rcases o with o | o
  ·rw [iN (by omega), iP o, iP (eQ o), q1, g1 hr]
   simp only [bSq, if_true]
   rw [iP hn1, dT hn2]
  ·rw [iN (by omega), iN (by omega), iP (eQ o), q1, g1 hr]
   simp only [bSq, if_true]
   rw [iP hn1, dT hn2]
 ·have hw : IntKind.wrap .i64 (m.cells - x.n) = m.cells - x.n := wr (by omega) (by omega)
  have f2 : ¬ (x.op == 4) = true := by rw [beq_iff_eq]; omega
  rcases o with o | o
  ·rw [iN (by omega), iN (by omega), iN f2, iP o, iP (eQ o), q2, g2 hr ha]
   simp only [bSq, if_true]
   rw [iP hn1, iP hn2, iP hb1, hw, dT hb2]
  ·rw [iN (by omega), iN (by omega), iN f2, iN (by omega), iP (eQ o), q2, g2 hr ha]
   simp only [bSq, if_true]
   rw [iP hn1, iP hn2, iP hb1, hw, dT hb2]
 ·have f2 : ¬ (x.op == 4) = true := by rw [beq_iff_eq]; omega
  have f3 : ¬ (x.op == 5) = true := by rw [beq_iff_eq]; omega
  rw [iN (by omega), iN (by omega), iN f2, iN (by omega), iN f3, iP o, q2, g2 hr ha]
  simp only [bSq, if_true]
  rw [hk]; rfl
 ·have f2 : ¬ (x.op == 4) = true := by rw [beq_iff_eq]; omega
  have f3 : ¬ (x.op == 5) = true := by rw [beq_iff_eq]; omega
  rw [iN (by omega), iN (by omega), iN f2, iN (by omega), iN f3, iN (by omega), iP o, q3, g3 hr ha hb]
  simp only [bSq, if_true]
  rw [hk]; rfl
 ·have f2 : ¬ (x.op == 4) = true := by rw [beq_iff_eq]; omega
  have f3 : ¬ (x.op == 5) = true := by rw [beq_iff_eq]; omega
  rw [iN (by omega), iN (by omega), iN f2, iN (by omega), iN f3, iN (by omega), iN (by omega), iP o, q3, g3 hr ha hb]
  rfl
 ·have f2 : ¬ (x.op == 4) = true := by rw [beq_iff_eq]; omega
  have f3 : ¬ (x.op == 5) = true := by rw [beq_iff_eq]; omega
  rw [iN (by omega), iN (by omega), iN f2, iN (by omega), iN f3, iN (by omega), iN (by omega), iN (by omega), iP o, q2, g2 hr ha]
  rfl
 ·have f2 : ¬ (x.op == 4) = true := by rw [beq_iff_eq]; omega
  have f3 : ¬ (x.op == 5) = true := by rw [beq_iff_eq]; omega
  rw [iN (by omega), iN (by omega), iN f2, iN (by omega), iN f3, iN (by omega), iN (by omega), iN (by omega), iN (by omega), iP o, q1, g1 hr]
  simp only [bSq, if_true]
  rw [iP hn1, dT hn2]
 ·have f2 : ¬ (x.op == 4) = true := by rw [beq_iff_eq]; omega
  have f3 : ¬ (x.op == 5) = true := by rw [beq_iff_eq]; omega
  rw [iN (by omega), iN (by omega), iN f2, iN (by omega), iN f3, iN (by omega), iN (by omega), iN (by omega), iN (by omega), iN (by omega), eQ o]
theorem qK {cells w n N d d' : Int} {p : au} (hp : au.ok p) (hc : 1 ≤ cells) (h : fv cells w p d = some d') (hn : n = 0 ∨ (n = w ∧ 1 ≤ n)) (hd : 0 ≤ d) (hN : 2 + d ≤ N) (hR : ∀ x ∈ dx n (2 + d) p, x.r_ < N) :
  (∀ x ∈ dx n (2 + d) p, qJ cells N x ∧ okI .i64 x.n) ∧ dD (2 + d) p = 2 + d' ∧ 0 ≤ d' ∧ 2 + d' ≤ N := by
 have z : okI .i64 0 := gI
 unfold fv at h
 unfold dx at hR ⊢
 unfold dD
 by_cases o1 : p.op = 1
 ·rw [iP o1] at h hR ⊢
  simp only [sJ] at h
  have r0 := hR _ (List.mem_singleton.2 rfl)
  simp only at r0
  refine ⟨fun x hx => ?_, by rw [iN (by omega), iN (by omega), iN (by omega), iN (by omega)]; omega, by omega, by omega⟩
  rw [List.mem_singleton] at hx; subst hx
  exact ⟨.inl ⟨rfl, by unfold cH; simp only; omega⟩, hp.2.2.2⟩
 rw [iN o1] at h hR ⊢
 by_cases o2 : p.op = 2
 ·rw [iP o2] at h hR ⊢
  split at h
  case isFalse => cases h
  rename_i hi
  rw [cE] at hi
  simp only [sJ] at h
  have r0 := hR _ (List.mem_singleton.2 rfl)
  simp only at r0
  refine ⟨fun x hx => ?_, by rw [iN (by omega), iN (by omega), iN (by omega), iN (by omega)]; omega, by omega, by omega⟩
  rw [List.mem_singleton] at hx; subst hx
  exact ⟨.inr (.inl ⟨.inl rfl, by unfold cH; simp only; omega, by simp only; omega, by simp only; omega⟩), hp.2.2.1⟩
 rw [iN o2] at h hR ⊢
 by_cases o3 : p.op = 3
 ·rw [iP o3] at h hR ⊢
  split at h
  case isFalse => cases h
  rename_i hi
  rw [cE] at hi
  simp only [sJ] at h
  have hx : (if p.op = 5 then (2 + d) else if p.op = 6 then 2 + d - 1 else if p.op = 7 then 2 + d - 2 else if p.op = 8 then 2 + d - 1 else 2 + d + 1) = 2 + d' := by
   rw [iN (by omega), iN (by omega), iN (by omega), iN (by omega)]; omega
  by_cases n0 : n = 0
  ·rw [iP n0] at hR ⊢
   have r0 := hR _ (List.mem_singleton.2 rfl)
   simp only at r0
   refine ⟨fun x hx => ?_, hx, by omega, by omega⟩
   rw [List.mem_singleton] at hx; subst hx
   exact ⟨.inr (.inl ⟨.inl rfl, by unfold cH; simp only; omega, by simp only; omega, by simp only; omega⟩), hp.2.2.1⟩
  ·rw [iN n0] at hR ⊢
   have r0 := hR _ (List.mem_singleton.2 rfl)
   simp only at r0
   have := hn.resolve_left n0
   refine ⟨fun x hx => ?_, hx, by omega, by omega⟩
   rw [List.mem_singleton] at hx; subst hx
   exact ⟨.inr (.inr (.inl ⟨.inl rfl, by unfold cH; simp only; omega, by unfold cH; simp only; omega, by simp only; omega, by simp only; omega, by simp only; omega, by simp only; omega⟩)), hp.2.2.1⟩
 rw [iN o3] at h hR ⊢
 by_cases o4 : p.op = 4
 ·rw [iP o4] at h hR ⊢
  split at h
  case isFalse => cases h
  simp only [sJ] at h
  have hx : (if p.op = 5 then (2 + d) else if p.op = 6 then 2 + d - 1 else if p.op = 7 then 2 + d - 2 else if p.op = 8 then 2 + d - 1 else 2 + d + 1) = 2 + d' := by
   rw [iN (by omega), iN (by omega), iN (by omega), iN (by omega)]; omega
  by_cases n0 : n = 0
  ·rw [iP n0] at hR ⊢
   have r0 := hR _ (List.mem_singleton.2 rfl)
   simp only at r0
   refine ⟨fun x hx => ?_, hx, by omega, by omega⟩
   rw [List.mem_singleton] at hx; subst hx
   exact ⟨.inl ⟨rfl, by unfold cH; simp only; omega⟩, hp.2.2.2⟩
  ·rw [iN n0] at hR ⊢
   have r0 := hR _ List.mem_cons_self
   simp only at r0
   refine ⟨fun x hx => ?_, hx, by omega, by omega⟩
   simp only [List.mem_cons, List.not_mem_nil, or_false] at hx
   rcases hx with rfl | rfl
   ·exact ⟨.inl ⟨rfl, by unfold cH; simp only; omega⟩, hp.2.2.2⟩
   ·exact ⟨.inr (.inr (.inr (.inr (.inl ⟨rfl, by unfold cH; simp only; omega, by unfold cH; simp only; omega, by unfold cH; simp only; omega, (show cO 1 = 2 by decide)⟩)))), z⟩
 rw [iN o4] at h hR ⊢
 by_cases o5 : p.op = 5
 ·rw [iP o5] at h hR ⊢
  split at h
  case isFalse => cases h
  rename_i hk
  simp only [sJ] at h
  refine ⟨fun x hx => ?_, by rw [iP o5]; omega, by omega, by omega⟩
  rw [List.mem_singleton] at hx; subst hx
  exact ⟨.inr (.inr (.inr (.inl ⟨rfl, by unfold cH; simp only; omega, by unfold cH; simp only; omega, hk.1⟩))), z⟩
 rw [iN o5] at h hR ⊢
 by_cases o6 : p.op = 6
 ·rw [iP o6] at h hR ⊢
  split at h
  case isFalse => cases h
  rename_i hk
  simp only [sJ] at h
  refine ⟨fun x hx => ?_, by rw [iN o5, iP o6]; omega, by omega, by omega⟩
  rw [List.mem_singleton] at hx; subst hx
  exact ⟨.inr (.inr (.inr (.inr (.inl ⟨rfl, by unfold cH; simp only; omega, by unfold cH; simp only; omega, by unfold cH; simp only; omega, hk.1⟩)))), z⟩
 rw [iN o6] at h hR ⊢
 by_cases o7 : p.op = 7
 ·rw [iP o7] at h hR ⊢
  split at h
  case isTrue => cases h
  simp only [sJ] at h
  refine ⟨fun x hx => ?_, by rw [iN o5, iN o6, iP o7]; omega, by omega, by omega⟩
  rw [List.mem_singleton] at hx; subst hx
  exact ⟨.inr (.inr (.inr (.inr (.inr (.inl ⟨rfl, by unfold cH; simp only; omega, by unfold cH; simp only; omega, by unfold cH; simp only; omega⟩))))), z⟩
 rw [iN o7] at h hR ⊢
 by_cases o8 : p.op = 8
 case neg => rw [iN o8] at h; cases h
 rw [iP o8] at h
 split at h
 case isFalse => cases h
 rename_i hk
 rw [cE] at hk
 simp only [sJ] at h
 have rb := hR (ah.mk 1 0 (2 + d + 2) 0 0 p.n) (by simp)
 simp only at rb
 refine ⟨fun x hx => ?_, by rw [iN o5, iN o6, iN o7, iP o8]; omega, by omega, by omega⟩
 simp only [List.mem_cons, List.not_mem_nil, or_false] at hx
 have q0 : cH N (2 + d) := ⟨by omega, by omega⟩
 have q1 : cH N (2 + d + 1) := ⟨by omega, by omega⟩
 have q2 : cH N (2 + d + 2) := ⟨by omega, by omega⟩
 have m1 : cH N (2 + d - 1) := ⟨by omega, by omega⟩
 have m2 : cH N (2 + d - 2) := ⟨by omega, by omega⟩
 have k8 : cO 8 = 2 := by decide
 have k10 : cO 10 = 2 := by decide
 have k14 : cO 14 = 1 := by decide
 rcases hx with rfl | rfl | rfl | rfl | rfl | rfl | rfl | rfl | rfl | rfl | rfl
 ·exact ⟨.inl ⟨rfl, q0⟩, z⟩
 ·exact ⟨.inr (.inr (.inr (.inr (.inl ⟨rfl, q1, m2, q0, k8⟩)))), z⟩
 ·exact ⟨.inr (.inr (.inr (.inl ⟨rfl, q1, q1, k14⟩))), z⟩
 ·exact ⟨.inl ⟨rfl, q2⟩, hp.2.2.2⟩
 ·exact ⟨.inr (.inr (.inr (.inr (.inl ⟨rfl, q2, m2, q2, k8⟩)))), z⟩
 ·exact ⟨.inr (.inr (.inr (.inr (.inl ⟨rfl, q1, q1, q2, k10⟩)))), z⟩
 ·exact ⟨.inr (.inr (.inr (.inr (.inr (.inr (.inl ⟨rfl, q2, q1⟩)))))), z⟩
 ·exact ⟨.inr (.inr (.inr (.inr (.inr (.inl ⟨rfl, q2, m2, q0⟩))))), z⟩
 ·exact ⟨.inr (.inr (.inl ⟨.inl rfl, q2, q2, by simp only; omega, by simp only; omega, by simp only; omega, by simp only; omega⟩)), hp.2.2.1⟩
 ·exact ⟨.inr (.inr (.inr (.inr (.inr (.inl ⟨rfl, q1, q2, m1⟩))))), z⟩
 ·exact ⟨.inr (.inr (.inr (.inr (.inr (.inr (.inl ⟨rfl, m2, q1⟩)))))), z⟩
theorem j1 {cells w n N : Int} (hc : 1 ≤ cells) (hn : n = 0 ∨ (n = w ∧ 1 ≤ n)) : ∀ (e : List au) (d d' : Int), (∀ p ∈ e, au.ok p) → fW cells w e d = some d' → 0 ≤ d → 2 + d ≤ N → (∀ x ∈ dE n (2 + d) e, x.r_ < N) → ∀ x ∈ dE n (2 + d) e, qJ cells N x ∧ okI .i64 x.n
 | [], d, d', _, _, _, _, _, x, hx => by simp [dE] at hx
 | p :: e, d, d', hp, h, hd, hN, hR, x, hx => by
  rw [fW] at h
  cases hs : fv cells w p d with
  | none => rw [hs] at h; cases h
  | some d1 =>
   rw [hs] at h
   simp only at h
   rw [dE] at hx hR
   obtain ⟨g1, g2, g3, g4⟩ := qK (hp p List.mem_cons_self) hc hs hn hd hN (fun y hy => hR y (List.mem_append_left _ hy))
   rw [g2] at hx hR
   rcases List.mem_append.1 hx with h' | h'
   ·exact g1 x h'
   ·exact j1 hc hn e d1 d' (fun q hq => hp q (List.mem_cons_of_mem _ hq)) h g3 g4 (fun y hy => hR y (List.mem_append_right _ hy)) x h'
theorem qL {cells N : Int} {x : ap} (hx : ap.ok x) (hc : 1 ≤ cells) (hok : bG cells x = true) (hN : 3 ≤ N) (hR : ∀ y ∈ bC x, y.r_ < N) : ∀ y ∈ bC x, qJ cells N y ∧ okI .i64 y.n := by
 have z : okI .i64 0 := gI
 rcases iI hok with ⟨o1, t1, t2, t3⟩ | ⟨o1, R⟩
 ·unfold bC at hR ⊢
  rw [iP o1] at hR ⊢
  intro y hy
  rcases List.mem_append.1 hy with h | h
  ·exact j1 (w := 1) hc (.inl rfl) x.e 0 1 hx.2.2.2.2.2 (gP t3).1 (by omega) (by omega) (fun y hy => hR y (List.mem_append_left _ hy)) y h
  ·rw [List.mem_singleton] at h; subst h
   exact ⟨.inr (.inl ⟨.inr rfl, ⟨by simp, by simp only; omega⟩, by simp only; omega, by simp only; omega⟩), hx.2.2.2.1⟩
 ·rw [gQ x o1] at hR ⊢
  have hn := R.n
  have hto := R.to
  intro y hy
  have hRp : ∀ y ∈ jE x, y.r_ < N := fun y hy => hR y (List.mem_append_left _ hy)
  have hRb : ∀ y ∈ e7 x, y.r_ < N := fun y hy => hR y (List.mem_append_right _ (List.mem_cons_of_mem _ (List.mem_append_left _ hy)))
  have r0 : cH N 0 := ⟨by omega, by omega⟩
  have r1 : cH N 1 := ⟨by omega, by omega⟩
  have r2 : cH N 2 := ⟨by omega, by omega⟩
  rcases List.mem_append.1 hy with h | h
  ·unfold jE at h hRp
   split at h
   ·simp at h
   ·rename_i o2
    rw [iN o2] at hRp
    have hfx : eZ cells 1 x.f = true := by rcases R.f with h | h; exact (o2 h).elim; exact h
    rcases List.mem_append.1 h with h | h
    ·exact j1 (w := 1) hc (.inl rfl) x.f 0 1 hx.2.2.2.2.1 (gP hfx).1 (by omega) (by omega) (fun y hy => hRp y (List.mem_append_left _ hy)) y h
    ·rw [List.mem_singleton] at h; subst h
     exact ⟨.inr (.inr (.inr (.inr (.inr (.inr (.inl ⟨rfl, r1, r2⟩)))))), z⟩
  rcases List.mem_cons.1 h with h | h
  ·subst h
   exact ⟨.inr (.inr (.inr (.inr (.inr (.inr (.inr (.inl ⟨rfl, r0, hn.1, hn.2⟩))))))), hx.2.2.1⟩
  rcases List.mem_append.1 h with h | h
  ·have hk : x.op = 3 ∨ x.op = 4 → cO x.k = 2 := fun o => by
    have h0 := hok
    unfold bG at h0
    rw [iN o1] at h0
    split at h0
    case isFalse => cases h0
    simp only [Bool.and_eq_true, Bool.or_eq_true, decide_eq_true_eq] at h0
    rcases h0.2 with h | h
    ·omega
    ·exact h.1
   have hop : x.op = 2 ∨ x.op = 3 ∨ x.op = 4 := by
    have h0 := hok
    unfold bG at h0
    rw [iN o1] at h0
    split at h0
    ·rename_i hh; exact hh.1
    ·cases h0
   unfold e7 at h hRb
   rcases List.mem_append.1 h with h | h
   ·exact j1 (w := x.n) hc (.inr ⟨rfl, hn.1⟩) x.e 0 1 hx.2.2.2.2.2 (gP R.e).1 (by omega) (by omega) (fun y hy => hRb y (List.mem_append_left _ hy)) y h
   ·split at h
    ·rename_i o2
     rw [iN (by omega)] at hto
     rw [List.mem_singleton] at h; subst h
     exact ⟨.inr (.inr (.inl ⟨.inr rfl, r2, r0, by simp only; omega, by simp only; omega, hn.1, by simp only; omega⟩)), hx.2.2.2.1⟩
    ·rename_i o2
     split at h
     ·rename_i o3
      rw [List.mem_singleton] at h; subst h
      exact ⟨.inr (.inr (.inr (.inr (.inl ⟨rfl, r1, r1, r2, hk (.inl o3)⟩)))), z⟩
     ·rename_i o3
      rw [iN o3] at hto
      simp only [List.mem_cons, List.not_mem_nil, or_false] at h
      rcases h with rfl | rfl
      ·exact ⟨.inr (.inr (.inr (.inr (.inl ⟨rfl, r1, r1, r2, hk (by omega)⟩)))), z⟩
      ·exact ⟨.inr (.inr (.inl ⟨.inr rfl, r1, r0, by simp only; omega, by simp only; omega, hn.1, by simp only; omega⟩)), hx.2.2.2.1⟩
  rcases List.mem_cons.1 h with h | h
  ·subst h
   exact ⟨.inr (.inr (.inr (.inr (.inr (.inr (.inr (.inr rfl))))))), z⟩
  ·unfold hY at h
   split at h
   ·rename_i o3
    rw [iP o3] at hto
    rw [List.mem_singleton] at h; subst h
    exact ⟨.inr (.inl ⟨.inr rfl, r1, by simp only; omega, by simp only; omega⟩), hx.2.2.2.1⟩
   ·simp at h
theorem rY (m : aE) (hl : m.steps.length ≤ 1048576) : ∃ b, fS m = some b := by
 unfold fS
 split
 ·exact ⟨_, rfl⟩
 split
 ·exact ⟨_, rfl⟩
 split
 ·exact ⟨_, rfl⟩
 obtain ⟨h1, _⟩ := nK (A := Int) (T := ap) (O := Int) (Z := Bool) (S := Int × Int) (fun a i => (a, i)) (body := fun s => bJ m s.1 s.2) m.steps
  (fun _ a x => if ((x.e).length : Int) > 1000 ∨ ((x.f).length : Int) > 1000 then .inr true else .inl (IntKind.wrap .i64 (a + (IntKind.wrap .i64 ((x.e.length : Int) + (x.f.length : Int)))))) (fun _ _ => True) (fun a => a) 0 trivial
  (by
   intro i a hi _
   refine ⟨?_, fun _ _ => trivial⟩
   show bJ m a (i : Int) = _
   unfold bJ
   rw [iP (ltI hi), iP (inI hi)]
   simp only [tN]
   by_cases k1 : (((m.steps.getD i default).e).length : Int) > 1000
   ·rw [iP k1, iP (.inl k1)]
   ·rw [iN k1]
    by_cases k2 : (((m.steps.getD i default).f).length : Int) > 1000
    ·rw [iP k2, iP (.inr k2)]
    ·rw [iN k2, iN (by rintro (h | h) <;> contradiction), wrs i (by omega)])
  (by
   intro a _
   show bJ m a (m.steps.length : Int) = _
   unfold bJ
   rw [iN (bp _)])
 show ∃ c, (bg (fun s : Int × Int => bJ m s.1 s.2) (0, 0)).bind _ = some c
 rw [h1]
 simp only [bSq]
 cases iw (fun _ (a : Int) (x : ap) => if ((x.e).length : Int) > 1000 ∨ ((x.f).length : Int) > 1000 then Sum.inr true else .inl (IntKind.wrap .i64 (a + (IntKind.wrap .i64 ((x.e.length : Int) + (x.f.length : Int)))))) 0 m.steps 0 with
 | inl a => exact ⟨_, rfl⟩
 | inr z => exact ⟨_, rfl⟩
def i3 : aE := aE.mk 6 [1] [5] [ap.mk 1 0 0 5 [] [au.mk 2 0 1 0, au.mk 1 0 0 2, au.mk 6 1 0 0]]
def j2 : List ah := [ah.mk 2 0 2 0 0 1, ah.mk 1 0 3 0 0 2, ah.mk 7 1 2 2 3 0, ah.mk 4 0 2 0 0 5]
def jd : aB := aB.mk 6 4 4 [1] [] [5] j2
theorem qe : mP jd = aq.mk 0 0 := by
 unfold mP
 rw [iN (by decide), iN (by decide)]
 have f1 : F1 jd = .inl () := by rfl
 rw [f1]
 have f2 : F2 jd = .inl () := by
  refine ik fun i hi => ?_
  have hi : i < 4 := hi
  have : lf jd (j2.getD i default) = true := by
   refine pU _ _ _ (by decide) (by decide) ?_
   have r2 : ∀ l : List Int, l.length ≤ 9000000 → co jd l = some (l.all (dG 4)) := fun l hl => mA _ l hl
   obtain ⟨a', b', e2⟩ := rj (j2.getD i default).k
   unfold gj
   rw [e2]
   simp only [bSq]
   unfold ep eo
   rw [r2 _ (by simp [lit]), r2 _ (by simp [lit]), r2 _ (by simp [lit])]
   match i, hi with
   | 0, _ => rfl
   | 1, _ => rfl
   | 2, _ => rfl
   | 3, _ => rfl
  show (if lf jd (j2.getD i default) = true then none else some (aq.mk 4 (i : Int))) = none
  rw [this]; rfl
 rw [f2]
 decide
theorem rZ : (gO i3 []).2.code = 0 ∧ (gO i3 []).1.cost = 4 ∧ (gO i3 []).1.regs = 4 ∧ (gO i3 []).1.code.length = 4 := by
 have h0 : gm i3 = aq.mk 0 0 := by decide
 have h1 : iw jC 0 i3.steps (3, []) = .inl (4, j2) := by decide
 have h2 : (mP jd).code = 0 := by rw [qe]
 unfold gO
 rw [h0, h1]
 rw [iN (by decide)]
 simp only [tZ]
 rw [show i3.cells = 6 from rfl, show i3.put = [1] from rfl, show i3.get = [5] from rfl, show aB.mk 6 4 (cN 0 1 0 j2) [1] [] [5] j2 = jd from rfl, iN (by rw [h2]; decide)]
 exact ⟨rfl, by decide, rfl, rfl⟩
theorem nT : gB = some true := by
 unfold gB
 have := rk i3 (by decide)
 show (ie i3).bind _ = _
 rw [this]
 obtain ⟨h1, h2, h3, h4⟩ := rZ
 simp only [bSq]
 rw [iP h1, iP h2, iP h3, h4]
 rfl
theorem mB (f : ah → Int) : ∀ (l : List ah) (x : Int), x ≤ l.foldl (fun x i => if f i > x then f i else x) x ∧ ∀ y ∈ l, f y ≤ l.foldl (fun x i => if f i > x then f i else x) x
 | [], x => ⟨Int.le_refl _, fun y hy => by simp at hy⟩
 | a :: l, x => by
  rw [List.foldl_cons]
  obtain ⟨h1, h2⟩ := mB f l (if f a > x then f a else x)
  refine ⟨?_, fun y hy => ?_⟩
  ·split at h1 <;> rename_i h
   ·rw [iP h]; omega
   ·rw [iN h]; exact h1
  ·rcases List.mem_cons.1 hy with rfl | hy
   ·split at h1 <;> rename_i h
    ·rw [iP h]; exact h1
    ·rw [iN h]; omega
   ·exact h2 y hy
theorem tm (x : Int) (l : List ah) : x ≤ fX x l := (mB (fun i => IntKind.wrap .i64 (i.r_ + 1)) l x).1
theorem sa (x : Int) (l : List ah) {y : ah} (hy : y ∈ l) (hb : -1000000 ≤ y.r_ ∧ y.r_ ≤ 1000000) : y.r_ < fX x l := by
 have := (mB (fun i => IntKind.wrap .i64 (i.r_ + 1)) l x).2 y hy
 rw [wr (n := y.r_ + 1) (by omega) (by omega)] at this
 show y.r_ < List.foldl _ x l
 omega
theorem je (n : Int) : ∀ (e : List au) (r : Int), -1000 ≤ r - 2 * e.length ∧ r + e.length ≤ 1000 → ∀ x ∈ dE n r e, -1000000 ≤ x.r_ ∧ x.r_ ≤ 1000000
 | [], r, _, x, hx => by simp [dE] at hx
 | p :: e, r, hr, x, hx => by
  rw [dE] at hx
  simp only [List.length_cons] at hr
  have hq := pQ r p
  rcases List.mem_append.1 hx with h | h
  ·have : r - 3 ≤ x.r_ ∧ x.r_ ≤ r + 2 := by
    unfold dx at h
    repeat' split at h
    all_goals (simp only [List.mem_cons, List.not_mem_nil, or_false] at h)
    all_goals first
     | (subst h; constructor <;> simp only <;> omega)
     | (rcases h with rfl | rfl <;> constructor <;> simp only <;> omega)
     | (rcases h with rfl | rfl | rfl | rfl | rfl | rfl | rfl | rfl | rfl | rfl | rfl <;> constructor <;> simp only <;> omega)
   omega
  ·exact je n e _ (by omega) x h
theorem qf {x : ap} (h : pR x) : ∀ y ∈ bC x, -1000000 ≤ y.r_ ∧ y.r_ ≤ 1000000 := by
 intro y hy
 have hel := h.el
 unfold bC at hy
 have small : ∀ r : Int, y.r_ = r → 0 ≤ r → r ≤ 2 → -1000000 ≤ y.r_ ∧ y.r_ ≤ 1000000 := fun r h1 h2 h3 => by omega
 by_cases o1 : x.op = 1
 ·rw [iP o1] at hy
  rcases List.mem_append.1 hy with h' | h'
  ·exact je 0 x.e 2 (by omega) y h'
  ·rw [List.mem_singleton] at h'; subst h'; first | exact small 0 rfl (by decide) (by decide) | exact small 1 rfl (by decide) (by decide) | exact small 2 rfl (by decide) (by decide)
 ·rw [iN o1] at hy
  rcases List.mem_append.1 hy with h' | h'
  ·split at h'
   ·simp at h'
   ·rename_i o2
    have hf := (h.f (by rcases h.op with o | o | o | o <;> omega)).2
    rcases List.mem_append.1 h' with h' | h'
    ·exact je 0 x.f 2 (by omega) y h'
    ·rw [List.mem_singleton] at h'; subst h'; first | exact small 0 rfl (by decide) (by decide) | exact small 1 rfl (by decide) (by decide) | exact small 2 rfl (by decide) (by decide)
  ·rcases List.mem_append.1 h' with h' | h'
   ·rw [List.mem_singleton] at h'; subst h'; first | exact small 0 rfl (by decide) (by decide) | exact small 1 rfl (by decide) (by decide) | exact small 2 rfl (by decide) (by decide)
   rcases List.mem_append.1 h' with h' | h'
   ·exact je x.n x.e 2 (by omega) y h'
   rcases List.mem_append.1 h' with h' | h'
   ·split at h'
    ·rw [List.mem_singleton] at h'; subst h'; first | exact small 0 rfl (by decide) (by decide) | exact small 1 rfl (by decide) (by decide) | exact small 2 rfl (by decide) (by decide)
    ·split at h'
     ·rw [List.mem_singleton] at h'; subst h'; first | exact small 0 rfl (by decide) (by decide) | exact small 1 rfl (by decide) (by decide) | exact small 2 rfl (by decide) (by decide)
     ·simp only [List.mem_cons, List.not_mem_nil, or_false] at h'
      rcases h' with rfl | rfl <;> first | exact small 0 rfl (by decide) (by decide) | exact small 1 rfl (by decide) (by decide) | exact small 2 rfl (by decide) (by decide)
   rcases List.mem_append.1 h' with h' | h'
   ·rw [List.mem_singleton] at h'; subst h'; first | exact small 0 rfl (by decide) (by decide) | exact small 1 rfl (by decide) (by decide) | exact small 2 rfl (by decide) (by decide)
   ·split at h'
    ·rw [List.mem_singleton] at h'; subst h'; first | exact small 0 rfl (by decide) (by decide) | exact small 1 rfl (by decide) (by decide) | exact small 2 rfl (by decide) (by decide)
    ·simp at h'
theorem mN : ∀ (l : List ap) (i : Nat) (a b : Int × List ah), iw jC i l a = .inl b → b.2 = a.2 ++ l.flatMap bC ∧ b.1 = fX a.1 (l.flatMap bC) ∧ (a.1 ≤ 40 → b.1 ≤ 40) ∧ (a.2.length ≤ 200000 → b.2.length ≤ 200000)
 | [], i, a, b, h => by
  simp only [iw, Sum.inl.injEq] at h
  subst h
  simp [fX]
 | x :: l, i, a, b, h => by
  rw [iw] at h
  cases hs : jC i a x with
  | inr z => rw [hs] at h; cases h
  | inl a1 =>
   rw [hs] at h
   unfold jC at hs
   split at hs
   ·cases hs
   rename_i hn
   simp only [Sum.inl.injEq] at hs
   obtain ⟨h1, h2, h3, h4⟩ := mN l (i + 1) a1 b h
   subst hs
   simp only at h1 h2 h3 h4
   refine ⟨by rw [h1, List.flatMap_cons, List.append_assoc], by rw [h2, List.flatMap_cons, er], fun _ => h3 (by omega), fun _ => h4 (by omega)⟩
theorem md : ∀ (l : List ap) (i : Nat) (a : Int × List ah) (z : aB × aq), iw jC i l a = .inr z → z.2.code = 7
 | [], i, a, z, h => by cases h
 | x :: l, i, a, z, h => by
  rw [iw] at h
  cases hs : jC i a x with
  | inr z' =>
   rw [hs] at h
   simp only [Sum.inr.injEq] at h
   subst h
   unfold jC at hs
   split at hs
   ·simp only [Sum.inr.injEq] at hs; subst hs; rfl
   ·cases hs
  | inl a1 => rw [hs] at h; exact md l (i + 1) a1 z h
theorem i4 : ∀ (seg rest : List ah) (n t o : Int), bq seg → cN n t o (seg ++ rest) = cN (n + t * seg.length) t o rest
 | [], rest, n, t, o, _ => by simp
 | x :: seg, rest, n, t, o, h => by
  have hx := h x List.mem_cons_self
  rw [List.cons_append, cN, iN hx.1, iN hx.2, i4 seg rest (n + t) t o (fun y hy => h y (List.mem_cons_of_mem _ hy))]
  congr 1
  rw [List.length_cons]
  have : ((seg.length + 1 : Nat) : Int) = (seg.length : Int) + 1 := by omega
  rw [this, Int.mul_add, Int.mul_one]; omega
theorem sc {cells : Int} {x : ap} (hok : bG cells x = true) (rest : List ah) (n : Int) : ∃ k, 1 ≤ k ∧ cN n 1 0 (bC x ++ rest) = cN (n + k) 1 0 rest := by
 rcases iI hok with ⟨o1, _⟩ | ⟨o1, R⟩
 ·have nl : bq (bC x) := by
   unfold bC
   rw [iP o1]
   exact fY (de _ _ _) (by simp [bq])
  refine ⟨(bC x).length, ?_, by rw [i4 _ _ _ _ _ nl, Int.one_mul]⟩
  unfold bC
  rw [iP o1, List.length_append, List.length_singleton]
  omega
 ·have hn := R.n
  have np : bq (jE x) := by
   unfold jE; split
   ·simp [bq]
   ·exact fY (de _ _ _) (by simp [bq])
  have nb : bq (e7 x) := by
   unfold e7
   refine fY (de _ _ _) ?_
   split
   ·simp [bq]
   ·split <;> simp [bq]
  have npo : bq (hY x) := by
   unfold hY; split <;> simp [bq]
  rw [gQ x o1]
  simp only [List.append_assoc, List.cons_append]
  rw [i4 _ _ _ _ _ np, cN, iP rfl, iN (by simp only; omega), i4 _ _ _ _ _ nb, cN, iN (by simp), iP rfl, iN (by decide), i4 _ _ _ _ _ npo]
  have hm : 0 ≤ x.n * ((e7 x).length : Int) := Int.mul_nonneg (by omega) (by omega)
  exact ⟨1 * ((jE x).length : Int) + 1 + x.n * ((e7 x).length : Int) + x.n + 1 * ((hY x).length : Int), by omega, by congr 1; simp only; omega⟩
theorem nU {cells : Int} : ∀ (l : List ap) (n : Int), (∀ x ∈ l, bG cells x = true) → ∃ k, (l.length : Int) ≤ k ∧ cN n 1 0 (l.flatMap bC) = n + k
 | [], n, _ => ⟨0, by simp, by simp [cN]⟩
 | x :: l, n, h => by
  obtain ⟨k1, h1, h2⟩ := sc (h x List.mem_cons_self) (l.flatMap bC) n
  obtain ⟨k2, h3, h4⟩ := nU l (n + k1) (fun y hy => h y (List.mem_cons_of_mem _ hy))
  refine ⟨k1 + k2, by rw [List.length_cons]; omega, ?_⟩
  rw [List.flatMap_cons, h2, h4]; omega
theorem se {m : aE} (hm : m.ok) (G : qb m) (h0 : (gm m).code = 0) :
  (gO m []).2.code = 7 ∨ ((gO m []).2 = aq.mk 0 0 ∧ mP (gO m []).1 = aq.mk 0 0 ∧ ImC (gO m []).1 ∧ (gO m []).1.code = m.steps.flatMap bC ∧ (gO m []).1.cells = m.cells ∧ (gO m []).1.put = m.put ∧ (gO m []).1.get = m.get ∧ (gO m []).1.bools = []) := by
 unfold gO
 rw [iN (by simpa using h0)]
 cases hf : iw jC 0 m.steps (3, []) with
 | inr z => exact .inl (md _ _ _ _ hf)
 | inl a =>
  obtain ⟨a1, a2, a3, a4⟩ := mN _ _ _ _ hf
  simp only [List.nil_append] at a1 a2 a3 a4
  have a3 := a3 (by omega)
  have a4 := a4 (by simp)
  have hge := tm 3 (m.steps.flatMap bC)
  rw [← a2] at hge
  have hok := G.ok
  have c1 := G.c1
  have c2 := G.c2
  have gx := nO h0
  have hgx : ∀ x ∈ m.steps, pR x := fun x hx => mL (hok x hx)
  have hR : ∀ y ∈ m.steps.flatMap bC, y.r_ < a.1 := fun y hy => by
   rw [a2]
   obtain ⟨x, hx, hyx⟩ := List.mem_flatMap.1 hy
   exact sa 3 _ hy (qf (hgx x hx) y hyx)
  have hgood : ∀ y ∈ m.steps.flatMap bC, qJ m.cells a.1 y ∧ okI .i64 y.n := fun y hy => by
   obtain ⟨x, hx, hyx⟩ := List.mem_flatMap.1 hy
   exact qL (hm.2.2.2 x hx) c1 (hok x hx) hge (fun z hz => hR z (List.mem_flatMap.2 ⟨x, hx, hz⟩)) y hyx
  obtain ⟨im, him⟩ : ∃ im, im = aB.mk m.cells a.1 (cN 0 1 0 a.2) m.put [] m.get a.2 := ⟨_, rfl⟩
  have hC : ImC im := by
   subst him
   exact ⟨c1, c2, hge, a3, fun x hx => (hgood x (by rw [← a1]; exact hx)).1, fun x hx => (hgood x (by rw [← a1]; exact hx)).2, a4⟩
  have hchk : mP im = aq.mk 0 0 := by
   have r1 := hC.r1
   have r2 := hC.r2
   have l1 := G.l1
   have l3 := G.l3
   unfold mP
   rw [iN (by subst him; simp only at *; omega), iN (by subst him; simp only [List.length_nil]; omega)]
   have f1 : F1 im = .inl () := by
    refine ik fun i hi => ?_
    have key : ∀ l : List Int, (∀ j, j < l.length → 0 ≤ l.getD j default ∧ l.getD j default < m.cells) → sZ im l = none := fun l hl => by
     unfold sZ
     rw [ik (fun j hj => by
      unfold pT
      have := hl j hj
      rw [iN (by subst him; simp only; omega)])]
    match i, hi with
    | 0, _ => subst him; exact key m.put G.put
    | 1, _ => subst him; exact key [] (fun j hj => by simp at hj)
    | 2, _ => subst him; exact key m.get G.get
   rw [f1]
   have f2 : F2 im = .inl () := by
    refine ik fun i hi => ?_
    rw [tl hC.c1 hC.c2 (hC.v _ (ft hi))]
    rfl
   rw [f2]
   simp only
   unfold F3
   rw [iN]
   rintro (h | ⟨h1, h2⟩)
   ·subst him; exact h rfl
   ·subst him
    simp only at h1 h2
    obtain ⟨k, k1, k2⟩ := nU m.steps 0 hok
    rw [a1, k2] at h1
    have : m.steps = [] := by
     apply List.eq_nil_of_length_eq_zero; omega
    rw [a1, this] at h2
    simp at h2
  right
  simp only [tZ]
  rw [← him, hchk]
  rw [iN (by simp)]
  subst him
  exact ⟨rfl, hchk, hC, a1, rfl, rfl, rfl, rfl⟩
theorem u6 (v : Int) : nE [] v = some false := by
 unfold nE
 rw [aQ (o := .inl ()) (by unfold kJ; rw [iN (by simp)])]
 rfl
theorem uz {put inn : List Int} {nc : Int} (hp : ∀ i, i < put.length → 0 ≤ put.getD i default ∧ put.getD i default < nc) (hlen : inn.length = put.length) (hl : put.length ≤ 6000) : ∀ (k i : Nat) (c : List Int), i + k = put.length → (c.length : Int) = nc →
  bg (fun (l33, x34) => cB inn put l33 x34) (c, (i : Int)) = some (ky put inn k i c)
 | 0, i, c, hi, _ => by
  have : i = inn.length := by omega
  subst this
  exact aQ (by show cB _ _ _ _ = _; unfold cB; rw [iN (bp _)]; rfl)
 | k + 1, i, c, hi, hc => by
  have hlt : i < put.length := by omega
  have := hp i hlt
  rw [aW (s' := (c.set (put.getD i default).toNat (inn.getD i default), ((i + 1 : Nat) : Int))) (by show cB _ _ _ _ = _; unfold cB; rw [iP (by omega), tN, iP ⟨by omega, by omega, by omega⟩, wrs i (by omega)])]
  exact uz hp hlen hl k (i + 1) _ (by omega) (by rw [List.length_set]; exact hc)
theorem uA {get : List Int} {nc : Int} (y4 : Int × Int × List Int) (hp : ∀ i, i < get.length → 0 ≤ get.getD i default ∧ get.getD i default < nc) (hl : get.length ≤ 120000) (hc : (y4.2.2.length : Int) = nc) : ∀ (k i : Nat), i + k = get.length →
  bg (fun (l22, x24) => cA get y4 l22 x24) ((kb get y4.2.2).take i, (i : Int)) = some (kb get y4.2.2)
 | 0, i, hi => by
  have : i = get.length := by omega
  subst this
  rw [List.take_of_length_le (by simp [kb])]
  exact aQ (by show cA _ _ _ _ = _; unfold cA; rw [iN (bp _)])
 | k + 1, i, hi => by
  have hlt : i < get.length := by omega
  have := hp i hlt
  rw [aW (s' := ((kb get y4.2.2).take (i + 1), ((i + 1 : Nat) : Int))) (by
   show cA _ _ _ _ = _
   unfold cA
   rw [iP (ltI hlt), tN, iP ⟨inI hlt, by omega, oI (by simp [kb]; omega) (by omega)⟩, wrs i (by omega), oL get _ i hlt]
   rfl)]
  exact uA y4 hp hl hc k (i + 1) (by omega)
theorem uf {m : aE} {im : aB} (hm : m.ok) (G : qb m) (C : ImC im) (hcode : im.code = m.steps.flatMap bC) (hcl : im.cells = m.cells) (hput : im.put = m.put) (hget : im.get = m.get) (hb : im.bools = [])
  (inn : List Int) (c : List Int) (g : dH m.cells c) (g2 : dH m.cells (ky m.put inn m.put.length 0 c)) (hl : inn.length = m.put.length) (n : Int) :
  ∃ n', gG inn im.cells im.regs im.cost im.put im.bools im.get im.code n c = some (kb m.get (gK m.steps (ky m.put inn m.put.length 0 c)), aq.mk 0 0, n', gK m.steps (ky m.put inn m.put.length 0 c)) := by
 have c2 := G.c2
 have l1 := G.l1
 have gl := g.len
 obtain ⟨n', a1, a2⟩ := ue C m.steps (fun x hx => ⟨fun p hp => ((hm.2.2.2 x hx).2.2.2.2.2 p hp).2.2.2, fun p hp => ((hm.2.2.2 x hx).2.2.2.2.1 p hp).2.2.2⟩) (by rw [hcl]; exact G.ok) hcode (ky m.put inn m.put.length 0 c) (by rw [hcl]; exact g2) n
 have h1 := uz (nc := m.cells) G.put hl l1 m.put.length 0 c (by omega) gl
 simp only [Int.natCast_zero] at h1
 refine ⟨n', ?_⟩
 unfold gG
 rw [hput, hb, iN (by omega)]
 rw [cD (body := fun x38 => cC inn m.put [] n c x38) inn.length (fun _ => none) ()
  (by
   intro i hi
   show cC inn m.put [] n c i = _
   unfold cC
   rw [iP (ltI hi), iP (inI hi), wrs i (by omega), u6]
   by_cases z : inn.getD (i : Int).toNat default = 0
   ·rw [iN (fun h => h z)]
   ·rw [iP z]
    by_cases z1 : inn.getD (i : Int).toNat default = 1
    ·rw [iN (fun h => h z1)]
    ·rw [iP z1, iP (by omega)]; rfl)
  (by
   show cC inn m.put [] n c inn.length = _
   unfold cC
   rw [iN (bp _)]), ik (fun _ _ => rfl)]
 simp only [bSq, Sum.elim_inl]
 unfold dO
 rw [iP (oI (by omega) (by omega)), h1]
 simp only [bSq]
 unfold dN
 rw [hput, hb] at a1
 rw [a1]
 simp only [bSq]
 rw [iN (by decide)]
 have al := a2.len
 rw [hcl] at al
 have h2 := uA (-1, n', gK m.steps (ky m.put inn m.put.length 0 c)) G.get G.l3 al m.get.length 0 (by omega)
 simp only [Int.natCast_zero, List.take_zero] at h2
 rw [hget, h2]
 rfl
theorem mC {m : aE} {im : aB} (hm : m.ok) (G : qb m) (C : ImC im) (hcode : im.code = m.steps.flatMap bC) (hcl : im.cells = m.cells) (hput : im.put = m.put) (hget : im.get = m.get) (hb : im.bools = [])
  (rows : List (List Int)) (hr : okL (okL (okI .i64)) rows) (hrl : rows.length ≤ 60) (q1 q2 : List Int) (q3 : Int) : ∀ (k i : Nat) (c : List Int) (n : Int), i + k = rows.length → dH m.cells c →
  ∃ z, bg (fun (l35, x36, l37, x39) => bY 24 m rows (m.cells, m.put, m.get, m.steps, q1) (im.cells, im.regs, im.cost, im.put, im.bools, im.get, im.code, q3, q2) l35 x36 l37 x39) (c, n, c, (i : Int)) = some (.inl z)
 | 0, i, c, n, hi, g => by
  have : i = rows.length := by omega
  subst this
  exact ⟨_, aQ (by
   show bY _ _ _ _ _ _ _ _ _ = _
   unfold bY
   rw [iN (bp _)])⟩
 | k + 1, i, c, n, hi, g => by
  have hlt : i < rows.length := by omega
  by_cases hl : (rows.getD i default).length = m.put.length
  ·have hin : ∀ y ∈ rows.getD i default, okI .i64 y := hr _ (ft hlt)
   obtain ⟨r1, r2, r3⟩ := ub G hm 24 (Nat.le_refl _) (rows.getD i default) hin c g hl
   obtain ⟨n', s1⟩ := uf hm G C hcode hcl hput hget hb (rows.getD i default) c g r2 hl n
   obtain ⟨z, hz⟩ := mC hm G C hcode hcl hput hget hb rows hr hrl q1 q2 q3 k (i + 1) (gK m.steps (ky m.put (rows.getD i default) m.put.length 0 c)) n' (by omega) r3
   refine ⟨z, ?_⟩
   rw [← hz]
   refine aW ?_
   show bY _ _ _ _ _ _ _ _ _ = _
   have c2 := G.c2
   have l3 := G.l3
   have gl := r3.len
   unfold bY
   rw [iP (ltI hlt), iP (inI hlt)]
   simp only [tN]
   rw [iN (by omega), r1]
   simp only [bSq]
   rw [s1]
   simp only [bSq]
   rw [iN (by simp), nS _ (by simp [kb]; omega)]
   simp only [bSq, if_true]
   rw [mQ _ (by omega)]
   simp only [bSq, if_true]
   rw [wrs i (by omega)]
  ·obtain ⟨z, hz⟩ := mC hm G C hcode hcl hput hget hb rows hr hrl q1 q2 q3 k (i + 1) c n (by omega) g
   refine ⟨z, ?_⟩
   rw [← hz]
   refine aW ?_
   show bY _ _ _ _ _ _ _ _ _ = _
   unfold bY
   rw [iP (ltI hlt), iP (inI hlt)]
   simp only [tN]
   rw [iP (by omega), wrs i (by omega)]
theorem me (m : aE) (rows : List (List Int)) (hm : m.ok) (hr : okL (okL (okI .i64)) rows) (hs : m.sz + (szL (szL szI)) rows ≤ 1048576) : ∃ fuel, iF fuel m rows = some true := by
 refine ⟨24, ?_⟩
 have z4 := mW ap.sz_pos m.steps
 have hx : ∀ x ∈ m.steps, x.e.length ≤ 9000000 ∧ x.f.length ≤ 9000000 := by
  intro x hx
  have h1 := tJ (f := ap.sz) hx
  have h2 := mW au.sz_pos x.e
  have h3 := mW au.sz_pos x.f
  have h4 : szL au.sz x.e + szL au.sz x.f ≤ ap.sz x := by unfold ap.sz; omega
  unfold aE.sz at hs
  omega
 have zr := mW (f := szL (α := Int) szI) (fun l => by unfold szL; omega) rows
 unfold aE.sz at hs
 unfold iF
 rw [nT]
 simp only [bSq, if_true]
 obtain ⟨b, hb⟩ := rY m (by omega)
 rw [hb]
 simp only [bSq]
 by_cases hbt : b = true
 ·rw [iP hbt]
 rw [iN hbt]
 obtain ⟨b2, hb2, hrows⟩ := pk rows (by omega)
 rw [hb2]
 simp only [bSq]
 by_cases hbt2 : b2 = true
 ·rw [iP hbt2]
 rw [iN hbt2]
 obtain ⟨hrl, hrr⟩ := hrows (by simpa using hbt2)
 rw [rk m hx, oh m hx]
 simp only [bSq]
 by_cases h0 : (gm m).code = 0
 case neg =>
  have : gO m [] = (tY, gm m) := by unfold gO; rw [iP h0]
  rw [this]
  simp only
  rw [iP h0, iP ⟨trivial, trivial⟩]
 obtain ⟨G, hF⟩ := ti h0
 rcases se hm G h0 with h7 | ⟨g1, g2, g3, g4, g5, g6, g7, g8⟩
 ·rw [iP (by rw [h7]; decide), hF]
  rw [iN (by rw [h7]; rintro ⟨h, _⟩; exact absurd h (by decide)), h7]
  rfl
 ·have cl := g3.len
  have l1 := G.l1
  have l3 := G.l3
  rw [iN (by rw [g1]; simp), s7 _ ⟨by rw [g6]; omega, by rw [g8]; simp, by rw [g7]; omega, by omega⟩, g2]
  simp only [bSq]
  rw [iN (by simp)]
  have c1 := G.c1
  have c2 := G.c2
  unfold hO ip
  rw [iP ⟨by omega, oI (by omega) (by omega)⟩, iP ⟨by rw [g5]; omega, oI (by rw [g5]; omega) (by omega)⟩]
  simp only [bSq]
  have g0 : dH m.cells (List.replicate m.cells.toNat 0) := ⟨by simp; omega, fun y hy => by
   simp only [List.mem_replicate] at hy
   rw [hy.2]; exact gI⟩
  obtain ⟨z, hz⟩ := mC hm G g3 g4 g5 g6 g7 g8 rows hr hrl (List.replicate m.cells.toNat 0) (List.replicate (gO m []).1.cells.toNat 0) 0 rows.length 0 (List.replicate m.cells.toNat 0) 0 (by omega) g0
  simp only [Int.natCast_zero] at hz
  rw [g5] at hz ⊢
  rw [hz]
  rfl
end Pam
