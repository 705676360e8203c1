/- Tokens: what a text's tokens are, and plain laws on them. No program in sight. -/
import Derived.Test.YtmnbfnhdnloigaaDoorTabcFun1
import Derived.Test.YtmnbfnhdnloigaaDoorTWide1
set_option linter.all false
namespace Pam
open Go
def tSm (c : UInt8) : Prop := 97 ≤ c.toNat ∧ c.toNat ≤ 122
def tDg (c : UInt8) : Prop := 48 ≤ c.toNat ∧ c.toNat ≤ 57
instance (c : UInt8) : Decidable (tSm c) := inferInstanceAs (Decidable (_ ∧ _))
instance (c : UInt8) : Decidable (tDg c) := inferInstanceAs (Decidable (_ ∧ _))
def tAn (c : UInt8) : Bool := decide (tSm c ∨ tDg c)
def tBl (c : UInt8) : Prop := c.toNat = 32 ∨ c.toNat = 9 ∨ c.toNat = 13
instance (c : UInt8) : Decidable (tBl c) := inferInstanceAs (Decidable (_ ∨ _))
def blk : Bool → List UInt8 → List UInt8
 | _, [] => []
 | r, c :: l => if c.toNat = 10 then blk false l else if r = true ∨ tBl c then blk r l else if c.toNat = 35 then blk true l else c :: l
theorem eq (r : Bool) (s : List UInt8) : (blk r s).length ≤ s.length := by
 induction s generalizing r with
 | nil => simp [blk]
 | cons c l ih =>
  unfold blk
  have h1 := ih false; have h2 := ih r; have h3 := ih true
  split
  ·simp; omega
  ·split
   ·simp; omega
   ·split
    ·simp; omega
    ·simp
theorem kD (r : Bool) (s : List UInt8) : blk r s = s.drop (s.length - (blk r s).length) := by
 induction s generalizing r with
 | nil => simp [blk]
 | cons c l ih =>
  have key : ∀ q, blk q l = (c :: l).drop ((c :: l).length - (blk q l).length) := by
   intro q
   have h1 := ih q; have h2 := eq q l
   rw [List.length_cons, show l.length + 1 - (blk q l).length = (l.length - (blk q l).length) + 1 by omega, List.drop_succ_cons]
   exact h1
  unfold blk
  split
  ·exact key _
  ·split
   ·exact key _
   ·split
    ·exact key _
    ·simp
theorem ni (r : Bool) (x y : List UInt8) : blk r (x ++ 10 :: y) = if blk r x = [] then blk false y else blk r x ++ 10 :: y := by
 induction x generalizing r with
 | nil => simp [blk]
 | cons c x ih =>
  have e : ∀ z, blk r (c :: z) = if c.toNat = 10 then blk false z else if r = true ∨ tBl c then blk r z else if c.toNat = 35 then blk true z else c :: z := fun _ => rfl
  rw [List.cons_append, e, e]
  split
  ·exact ih _
  ·split
   ·exact ih _
   ·split
    ·exact ih _
    ·simp
def eZ : List (List UInt8) := [[97, 100, 100], [97, 110, 100], [98, 111, 111, 108], [99, 97, 108, 108], [99, 97, 116], [100, 105, 118], [101, 108, 115, 101], [101, 113], [102, 97, 108, 115, 101], [102, 105, 108, 108], [102, 111, 108, 100], [105, 102], [105, 110, 116], [108, 101, 115, 115], [109, 97, 112], [109, 97, 120], [109, 105, 110], [109, 111, 100], [109, 117, 108], [110, 101, 103], [110, 111, 100, 101], [110, 111, 116], [111, 114], [112, 114, 101], [115, 99, 97, 110], [115, 108, 105, 99, 101], [115, 117, 98], [116, 104, 101, 110], [116, 114, 117, 101], [118, 97, 114], [119, 105, 116, 104], [120, 111, 114]]
def dV (s : List UInt8) : Bool := eZ.contains s
def ir : List Nat := [40, 41, 123, 125, 91, 93, 60, 62, 44, 59, 58, 43, 45, 42, 47, 37, 61, 94]
def iI (n : Int) (w : List UInt8) : Int := w.foldl (fun n c => 10 * n + ((c.toNat : Int) - 48)) n
def ka (w : List UInt8) : Option Int :=
 if w.length > 18 ∨ (w.length > 1 ∧ w.head?.map UInt8.toNat = some 48) ∨ ¬ (∀ c ∈ w, tDg c) then none else some (iI 0 w)
def dX (p : Nat) (s : List UInt8) : aa ⊕ Int :=
 match s with
 | [] => .inr 1
 | c :: l =>
  if tSm c then
   let w := (c :: l).takeWhile tAn
   if dV w then .inl (aa.mk 1 p w 0) else if w.length > 12 then .inr 3 else .inl (aa.mk 2 p w 0)
  else if tDg c then
   let w := (c :: l).takeWhile tAn
   match ka w with
   | some n => .inl (aa.mk 3 p w n)
   | none => .inr 2
  else if (c :: l).take 2 = [61, 61] ∨ (c :: l).take 2 = [45, 62] then .inl (aa.mk 4 p ((c :: l).take 2) 0)
  else if c.toNat ∈ ir then .inl (aa.mk 4 p [c] 0)
  else .inr 1
theorem kb {c : UInt8} (h : tSm c ∨ tDg c) : tAn c = true := by simpa [tAn] using h
theorem nL : tAn 10 = false := by decide
theorem cY {p : Nat} {s : List UInt8} {t : aa} (h : dX p s = .inl t) : t.at_ = p ∧ t.text ≠ [] ∧ t.text <+: s := by
 cases s with
 | nil => simp [dX] at h
 | cons c l =>
  have tw : (c :: l).takeWhile tAn <+: c :: l := List.takeWhile_prefix _
  have ne : ∀ {c : UInt8}, tAn c = true → (c :: l).takeWhile tAn ≠ [] := by intro c h; rw [List.takeWhile_cons, iP h]; simp
  unfold dX at h
  simp only at h
  split at h
  ·rename_i hc
   split at h
   ·cases h; exact ⟨rfl, ne (kb (.inl hc)), tw⟩
   ·split at h
    ·cases h
    ·cases h; exact ⟨rfl, ne (kb (.inl hc)), tw⟩
  ·split at h
   ·rename_i hc
    split at h
    ·cases h; exact ⟨rfl, ne (kb (.inr hc)), tw⟩
    ·cases h
   ·split at h
    ·cases h; exact ⟨rfl, by simp, List.take_prefix _ _⟩
    ·split at h
     ·cases h; exact ⟨rfl, by simp, ⟨l, rfl⟩⟩
     ·cases h
theorem mJ (p : Nat) (x y : List UInt8) (hx : x ≠ []) : dX p (x ++ 10 :: y) = dX p x := by
 cases x with
 | nil => exact absurd rfl hx
 | cons c l =>
  have tw : (c :: (l ++ 10 :: y)).takeWhile tAn = (c :: l).takeWhile tAn := by
   rw [← List.cons_append]
   generalize c :: l = z
   induction z with
   | nil => rw [List.nil_append, List.takeWhile_cons, nL]; rfl
   | cons a z ih =>
    rw [List.cons_append, List.takeWhile_cons, List.takeWhile_cons, ih]
  have t2 : ∀ a b : UInt8, b ≠ 10 → ((c :: (l ++ 10 :: y)).take 2 = [a, b] ↔ (c :: l).take 2 = [a, b]) := by
   intro a b hb
   cases l with
   | nil =>
    simp
    intro _ h
    exact hb h.symm
   | cons d l => simp
  have t3 : (c :: l).take 2 = [61, 61] ∨ (c :: l).take 2 = [45, 62] → (c :: (l ++ 10 :: y)).take 2 = (c :: l).take 2 := by
   rintro (h | h)
   ·rw [h]; exact (t2 61 61 (by decide)).2 h
   ·rw [h]; exact (t2 45 62 (by decide)).2 h
  rw [List.cons_append]
  unfold dX
  simp only
  rw [tw]
  simp only [t2 61 61 (by decide), t2 45 62 (by decide)]
  split
  ·rfl
  ·split
   ·rfl
   ·split
    ·rename_i h; rw [t3 h]
    ·rfl
def a8 : Nat → Nat → List UInt8 → List aa ⊕ aA
 | 0, _, _ => .inl []
 | k + 1, p, s =>
  match blk false s with
  | [] => .inl []
  | c :: l =>
   match dX (p + (s.length - (c :: l).length)) (c :: l) with
   | .inr e => .inr (aA.mk e ((p + (s.length - (c :: l).length) : Nat) : Int))
   | .inl t =>
    match a8 k (p + (s.length - (c :: l).length) + t.text.length) ((c :: l).drop t.text.length) with
    | .inl m => .inl (t :: m)
    | .inr f => .inr f
theorem bO (k p : Nat) (s : List UInt8) : a8 (k + 1) p s = match blk false s with
  | [] => .inl []
  | c :: l =>
   match dX (p + (s.length - (c :: l).length)) (c :: l) with
   | .inr e => .inr (aA.mk e ((p + (s.length - (c :: l).length) : Nat) : Int))
   | .inl t =>
    match a8 k (p + (s.length - (c :: l).length) + t.text.length) ((c :: l).drop t.text.length) with
    | .inl m => .inl (t :: m)
    | .inr f => .inr f := rfl
theorem dB : ∀ (k k' p : Nat) (s : List UInt8), s.length < k → s.length < k' → a8 k p s = a8 k' p s := by
 intro k
 induction k with
 | zero => intro k' p s h; omega
 | succ k ih =>
  intro k' p s h h'
  cases k' with
  | zero => omega
  | succ k' =>
   unfold a8
   have hb := eq false s
   cases e : blk false s with
   | nil => rfl
   | cons c l =>
    simp only
    cases ht : dX (p + (s.length - (c :: l).length)) (c :: l) with
    | inr e => rfl
    | inl t =>
     simp only
     obtain ⟨_, h2, _⟩ := cY ht
     have : 0 < t.text.length := List.length_pos_iff.2 h2
     rw [e] at hb
     have hcl : (c :: l).length = l.length + 1 := rfl
     rw [ih k' _ _ (by rw [List.length_drop]; omega) (by rw [List.length_drop]; omega)]
def shT (d : Int) (t : aa) : aa := { t with at_ := t.at_ + d }
def shF (d : Int) (f : aA) : aA := { f with at_ := f.at_ + d }
theorem lg (p d : Nat) (s : List UInt8) : dX (p + d) s = match dX p s with | .inl t => .inl (shT d t) | .inr e => .inr e := by
 cases s with
 | nil => rfl
 | cons c l =>
  unfold dX
  simp only
  split
  ·split
   ·simp [shT]
   ·split <;> simp [shT]
  ·split
   ·cases ka (List.takeWhile tAn (c :: l)) <;> simp [shT]
   ·split
    ·simp [shT]
    ·split <;> simp [shT]
theorem kE (d : Nat) : ∀ (k p : Nat) (s : List UInt8), a8 k (p + d) s = match a8 k p s with | .inl l => .inl (l.map (shT d)) | .inr f => .inr (shF d f) := by
 intro k
 induction k with
 | zero => intro p s; rfl
 | succ k ih =>
  intro p s
  unfold a8
  cases e : blk false s with
  | nil => rfl
  | cons c l =>
   simp only
   rw [show p + d + (s.length - (c :: l).length) = p + (s.length - (c :: l).length) + d by omega, lg]
   cases ht : dX (p + (s.length - (c :: l).length)) (c :: l) with
   | inr e => simp [shF]
   | inl t =>
    simp only
    rw [show (shT (↑d) t).text = t.text from rfl, show p + (s.length - (c :: l).length) + d + t.text.length = p + (s.length - (c :: l).length) + t.text.length + d by omega, ih]
    cases a8 k (p + (s.length - (c :: l).length) + t.text.length) ((c :: l).drop t.text.length) <;> simp
theorem lh : ∀ (k p : Nat) (x y : List UInt8), x.length + y.length + 1 < k →
  a8 k p (x ++ 10 :: y) = match a8 k p x with
   | .inr f => .inr f
   | .inl l => match a8 k (p + x.length + 1) y with
    | .inr f => .inr f
    | .inl m => .inl (l ++ m) := by
 intro k
 induction k with
 | zero => intro p x y h; omega
 | succ k ih =>
  intro p x y h
  rw [show a8 (k + 1) p (x ++ 10 :: y) = a8 (k + 2) p (x ++ 10 :: y) from dB _ _ _ _ (by simp; omega) (by simp; omega)]
  rw [bO (k + 1), bO k p x, ni]
  have hb := eq false x
  cases e : blk false x with
  | nil =>
   simp only [if_true]
   rw [show (x ++ 10 :: y).length = x.length + y.length + 1 by simp; omega]
   rw [bO k (p + x.length + 1) y]
   have hby := eq false y
   cases e2 : blk false y with
   | nil => rfl
   | cons c l =>
    simp only
    rw [e2] at hby
    rw [show p + (x.length + y.length + 1 - (c :: l).length) = p + x.length + 1 + (y.length - (c :: l).length) by omega]
    cases ht : dX (p + x.length + 1 + (y.length - (c :: l).length)) (c :: l) with
    | inr e => simp
    | inl t =>
     simp only
     obtain ⟨_, h2, _⟩ := cY ht
     have : 0 < t.text.length := List.length_pos_iff.2 h2
     rw [dB (k + 1) k _ _ (by rw [List.length_drop]; omega) (by rw [List.length_drop]; omega)]
     cases a8 k _ ((c :: l).drop t.text.length) <;> simp
  | cons c l =>
   simp only [reduceCtorEq, if_false, List.cons_append]
   rw [e] at hb
   rw [show p + ((x ++ 10 :: y).length - (c :: (l ++ 10 :: y)).length) = p + (x.length - (c :: l).length) by simp; omega, ← List.cons_append, mJ _ _ _ (by simp)]
   cases ht : dX (p + (x.length - (c :: l).length)) (c :: l) with
   | inr e => rfl
   | inl t =>
    simp only
    obtain ⟨_, h2, h3⟩ := cY ht
    have hl := h3.length_le
    have : 0 < t.text.length := List.length_pos_iff.2 h2
    have hcl : (c :: l).length = l.length + 1 := rfl
    have hdl : ((c :: l).drop t.text.length).length = (c :: l).length - t.text.length := List.length_drop
    rw [List.drop_append_of_le_length hl, dB (k + 1) k _ _ (by rw [List.length_append, List.length_cons, hdl]; omega) (by rw [List.length_append, List.length_cons, hdl]; omega), ih _ _ _ (by rw [hdl]; omega)]
    cases a8 k (p + (x.length - (c :: l).length) + t.text.length) ((c :: l).drop t.text.length) with
    | inr f => rfl
    | inl m =>
     simp only
     rw [show p + (x.length - (c :: l).length) + t.text.length + ((c :: l).drop t.text.length).length + 1 = p + x.length + 1 by rw [List.length_drop]; omega,
      dB k (k + 1) (p + x.length + 1) y (by omega) (by omega)]
     cases a8 (k + 1) (p + x.length + 1) y <;> simp
theorem ie (l : List UInt8) (i : Nat) (h : i < l.length) : l.drop i = l.getD i 0 :: l.drop (i + 1) := by
 rw [List.drop_eq_getElem_cons h]
 simp [List.getD, h]
theorem wr1 (p : Nat) (h : p < 1000000) : IntKind.wrap .i64 ((p : Int) + 1) = ((p + 1 : Nat) : Int) := wrs p (by omega)
theorem fp (c : UInt8) : cy (c.toNat : Int) = some (decide (tSm c)) := by
 unfold cy
 by_cases h : (c.toNat : Int) ≥ 97
 ·rw [iP h]; congr 1; exact decide_eq_decide.2 (by unfold tSm; omega)
 ·rw [iN h]; congr 1; symm; rw [decide_eq_false_iff_not]; unfold tSm; omega
theorem f9 (c : UInt8) : cM (c.toNat : Int) = some (decide (tDg c)) := by
 unfold cM
 by_cases h : (c.toNat : Int) ≥ 48
 ·rw [iP h]; congr 1; exact decide_eq_decide.2 (by unfold tDg; omega)
 ·rw [iN h]; congr 1; symm; rw [decide_eq_false_iff_not]; unfold tDg; omega
theorem jj (src : List UInt8) (hl : src.length ≤ 100000) : ∀ (k p : Nat) (r : Bool), p + k = src.length →
  cm (fun (x5, b6) => aD src x5 b6) ((p : Int), r) = some ((src.length - (blk r (src.drop p)).length : Nat) : Int)
 | 0, p, r, h => by
  have : p = src.length := by omega
  subst this
  rw [List.drop_length]
  refine aT ?_
  show aD _ _ _ = _
  unfold aD
  rw [iN (da _)]
  simp [blk]
 | k + 1, p, r, h => by
  have hp : p < src.length := by omega
  have hd := ie src p hp
  have hdl : (src.drop (p + 1)).length = src.length - (p + 1) := List.length_drop
  obtain ⟨c, hc⟩ : ∃ c, src.getD p 0 = c := ⟨_, rfl⟩
  rw [hc] at hd
  have e : blk r (c :: src.drop (p + 1)) = if c.toNat = 10 then blk false (src.drop (p + 1)) else if r = true ∨ tBl c then blk r (src.drop (p + 1)) else if c.toNat = 35 then blk true (src.drop (p + 1)) else c :: src.drop (p + 1) := rfl
  have stp : ∀ q, aD src (p : Int) r = some (.inl ((p + 1 : Nat), q)) → blk r (c :: src.drop (p + 1)) = blk q (src.drop (p + 1)) →
    cm (fun (x5, b6) => aD src x5 b6) ((p : Int), r) = some ((src.length - (blk r (src.drop p)).length : Nat) : Int) := fun q h1 h2 => by
   rw [bW (s' := (((p + 1 : Nat) : Int), q)) h1, jj src hl k (p + 1) q (by omega), hd, h2]
  have hb : aD src (p : Int) r = if (c.toNat : Int) = 10 then some (.inl ((p + 1 : Nat), false)) else if r = true ∨ tBl c then some (.inl ((p + 1 : Nat), r)) else if (c.toNat : Int) = 35 then some (.inl ((p + 1 : Nat), true)) else some (.inr (p : Int)) := by
   unfold aD
   rw [iP (ltI hp), iP (inI hp), tN, hc]
   unfold aK aP
   rw [wr1 p (by omega)]
   simp only [tN, hc]
   by_cases h1 : (c.toNat : Int) = 10
   ·rw [iP h1, iP h1]
   rw [iN h1, iN h1]
   by_cases h2 : r = true
   ·rw [iP h2, iP h2, iP (Or.inl h2)]
   rw [iN h2]
   have key : ∀ b : Bool, (b = true ↔ tBl c) → (if b = true then (some (.inl (((p + 1 : Nat) : Int), r)) : Option ((Int × Bool) ⊕ Int)) else if ((src.getD p 0).toNat : Int) = 35 then some (.inl (((p + 1 : Nat) : Int), true)) else some (.inr (p : Int))) =
     if r = true ∨ tBl c then some (.inl (((p + 1 : Nat) : Int), r)) else if (c.toNat : Int) = 35 then some (.inl (((p + 1 : Nat) : Int), true)) else some (.inr (p : Int)) := by
    intro b hb
    rw [hc]
    by_cases hh : tBl c
    ·rw [iP (hb.2 hh), iP (Or.inr hh)]
    ·rw [iN (fun x => hh (hb.1 x)), iN (show ¬ (r = true ∨ tBl c) from fun x => x.elim h2 hh)]
   rw [hc] at key
   by_cases h3 : (c.toNat : Int) = 32
   ·rw [iP h3]; exact key ((c.toNat : Int) == 32) (by rw [beq_iff_eq]; unfold tBl; omega)
   rw [iN h3]
   by_cases h4 : (c.toNat : Int) = 9
   ·rw [iP h4]; exact key ((c.toNat : Int) == 9) (by rw [beq_iff_eq]; unfold tBl; omega)
   rw [iN h4]
   exact key ((c.toNat : Int) == 13) (by rw [beq_iff_eq]; unfold tBl; omega)
  by_cases h1 : c.toNat = 10
  ·rw [iP h1] at e
   rw [iP (by omega)] at hb
   exact stp false hb e
  rw [iN h1] at e
  rw [iN (by omega)] at hb
  by_cases h2 : r = true ∨ tBl c
  ·rw [iP h2] at e hb
   exact stp r hb e
  rw [iN h2] at e hb
  by_cases h3 : c.toNat = 35
  ·rw [iP h3] at e
   rw [iP (by omega)] at hb
   exact stp true hb e
  rw [iN h3] at e
  rw [iN (by omega)] at hb
  rw [aT (o := (p : Int)) hb, hd, e, List.length_cons, hdl]
  congr 2; omega
theorem kF (src : List UInt8) (hl : src.length ≤ 100000) (p : Nat) (hp : p ≤ src.length) (l : List aa) :
  bG src p l = some ((src.length - (blk false (src.drop p)).length : Nat) : Int) := by
 unfold bG
 rw [jj src hl (src.length - p) p false (by omega)]
 rfl
theorem kG (src : List UInt8) (hl : src.length ≤ 100000) : ∀ (k p : Nat), p + k = src.length →
  cm (fun x4 => aY src x4) (p : Int) = some ((p + ((src.drop p).takeWhile tAn).length : Nat) : Int)
 | 0, p, h => by
  have : p = src.length := by omega
  subst this
  rw [List.drop_length]
  refine aT ?_
  unfold aY
  rw [iN (da _)]; rfl
 | k + 1, p, h => by
  have hp : p < src.length := by omega
  rw [ie src p hp]
  have hb : aY src (p : Int) = if tAn (src.getD p 0) = true then some (.inl ((p + 1 : Nat) : Int)) else some (.inr (p : Int)) := by
   unfold aY bu
   rw [iP (ltI hp), iP (inI hp), tN, wr1 p (by omega), fp, f9]
   simp only [bSq, decide_eq_true_eq]
   unfold tAn
   simp only [decide_eq_true_eq]
   by_cases h1 : tSm (src.getD p 0)
   ·rw [iP h1, iP (Or.inl h1)]
   ·rw [iN h1]
    by_cases h2 : tDg (src.getD p 0)
    ·rw [iP h2, iP (Or.inr h2)]
    ·rw [iN h2, iN (fun x => x.elim h1 h2)]
  rw [List.takeWhile_cons]
  by_cases h1 : tAn (src.getD p 0) = true
  ·rw [iP h1] at hb ⊢
   rw [bW hb, kG src hl k (p + 1) (by omega), List.length_cons]
   congr 2; omega
  ·rw [iN h1] at hb ⊢
   rw [aT hb]; rfl
theorem nM (src : List UInt8) (hl : src.length ≤ 100000) (p : Nat) (hp : p ≤ src.length) (l : List aa) :
  bf src p l = some ((src.drop p).takeWhile tAn, ((p + ((src.drop p).takeWhile tAn).length : Nat) : Int)) := by
 unfold bf
 rw [kG src hl (src.length - p) p (by omega)]
 simp only [bSq]
 unfold aX
 have tw : (src.drop p).takeWhile tAn <+: src.drop p := List.takeWhile_prefix _
 have hle := tw.length_le
 rw [List.length_drop] at hle
 rw [iP ⟨by omega, by omega, by omega⟩, tN, tN, List.drop_take, show p + ((src.drop p).takeWhile tAn).length - p = ((src.drop p).takeWhile tAn).length by omega, ← List.prefix_iff_eq_take.1 tw]
theorem ig (w : List UInt8) : cS w = some (dV w) := by
 unfold cS ao
 by_cases h : w ∈ eZ
 ·have : dV w = true := by unfold dV; rw [List.contains_iff_mem]; exact h
  rw [this]
  unfold eZ at h
  simp only [List.mem_cons, List.not_mem_nil, or_false] at h
  rcases h with rfl | rfl | rfl | rfl | rfl | rfl | rfl | rfl | rfl | rfl | rfl | rfl | rfl | rfl | rfl | rfl | rfl | rfl | rfl | rfl | rfl | rfl | rfl | rfl | rfl | rfl | rfl | rfl | rfl | rfl | rfl | rfl
  all_goals rfl
 ·have : dV w = false := by unfold dV; rw [← Bool.not_eq_true, List.contains_iff_mem]; exact h
  rw [this]
  have hn : ∀ x, x ∈ eZ → ¬ w = x := fun x hx e => h (e ▸ hx)
  have hb : ∀ x, x ∈ eZ → (w == x) = false := fun x hx => by rw [beq_eq_false_iff_ne]; exact hn x hx
  rw [iN (hn _ (by decide)), iN (hn _ (by decide)), iN (hn _ (by decide)), iN (hn _ (by decide)), iN (hn _ (by decide)), iN (hn _ (by decide)), iN (hn _ (by decide)), iN (hn _ (by decide)), iN (hn _ (by decide)), iN (hn _ (by decide)), iN (hn _ (by decide)), iN (hn _ (by decide)), iN (hn _ (by decide)), iN (hn _ (by decide)), iN (hn _ (by decide)), iN (hn _ (by decide)), iN (hn _ (by decide)), iN (hn _ (by decide)), iN (hn _ (by decide)), iN (hn _ (by decide)), iN (hn _ (by decide)), iN (hn _ (by decide)), iN (hn _ (by decide)), iN (hn _ (by decide)), iN (hn _ (by decide)), iN (hn _ (by decide)), iN (hn _ (by decide)), iN (hn _ (by decide)), iN (hn _ (by decide)), iN (hn _ (by decide)), iN (hn _ (by decide))]
  rw [hb _ (by decide)]
  rfl
theorem iD : ∀ (l : List UInt8) (acc : Nat), (∀ c ∈ l, tDg c) → ∃ m : Nat, Go.Lib.decFrom acc l = some m ∧ (m : Int) = iI acc l
 | [], acc, _ => ⟨acc, rfl, rfl⟩
 | c :: l, acc, h => by
  have hc : tDg c := h c List.mem_cons_self
  have hc' : 48 ≤ c.toNat ∧ c.toNat ≤ 57 := hc
  obtain ⟨m, h1, h2⟩ := iD l (acc * 10 + (c.toNat - 48)) (fun d hd => h d (List.mem_cons_of_mem _ hd))
  refine ⟨m, ?_, ?_⟩
  ·unfold Go.Lib.decFrom Go.Lib.digitVal
   rw [iP hc']
   exact h1
  ·rw [h2]
   unfold iI
   rw [List.foldl_cons]
   congr 1
   omega
theorem mK (w : List UInt8) (hn : w ≠ []) (hl : w.length ≤ 18) (h : ∀ c ∈ w, tDg c) : kB w = some (iI 0 w) := by
 unfold kB
 rw [iP hl]
 cases w with
 | nil => exact absurd rfl hn
 | cons c l =>
  have hc : 48 ≤ c.toNat ∧ c.toNat ≤ 57 := h c List.mem_cons_self
  unfold Go.Lib.atoi
  have n1 : (c == 45) = false := by rw [beq_eq_false_iff_ne]; intro e; subst e; revert hc; decide
  have n2 : (c == 43) = false := by rw [beq_eq_false_iff_ne]; intro e; subst e; revert hc; decide
  simp only [n1, n2]
  obtain ⟨m, h1, h2⟩ := iD (c :: l) 0 h
  show (Go.Lib.decNat (c :: l)).map (fun m : Nat => (m : Int)) = _
  unfold Go.Lib.decNat
  rw [iN (by simp), h1, Option.map_some, h2]
  rfl
theorem lG (w : List UInt8) : (∀ c ∈ w, tDg c) ↔ ∀ i, i < w.length → tDg (w.getD i 0) := by
 constructor
 ·intro h i hi
  have : w.getD i 0 = w[i] := by simp [List.getD, hi]
  rw [this]; exact h _ (List.getElem_mem hi)
 ·intro h c hc
  obtain ⟨i, hi, rfl⟩ := List.getElem_of_mem hc
  have := h i hi
  have e : w.getD i 0 = w[i] := by simp [List.getD, hi]
  rwa [e] at this
theorem l7 (w : List UInt8) (hn : w ≠ []) : dl w = some (match ka w with | some n => (n, true) | none => (0, false)) := by
 unfold dl
 unfold ka
 by_cases h1 : w.length > 18
 ·rw [iP (by omega), iP (Or.inl h1)]
 rw [iN (by omega)]
 have hj : ca w = some (match (if ¬ ∀ c ∈ w, tDg c then none else some (iI 0 w) : Option Int) with | some n => (n, true) | none => (0, false)) := by
  unfold ca
  rw [fo (body := fun x4 => bH w x4) w.length (fun i => if tDg (w.getD i 0) then none else some ((0 : Int), false)) ()
   (by
    intro i hi
    show bH w i = _
    unfold bH
    rw [iP (ltI hi), iP (inI hi), tN, f9, wr1 i (by omega)]
    simp only [bSq, decide_eq_true_eq]
    by_cases hd : tDg (w.getD i 0)
    ·rw [iP hd, iP hd]
    ·rw [iN hd, iN hd])
   (by
    show bH w w.length = _
    unfold bH
    rw [iN (da _)])]
  simp only [bSq]
  by_cases ha : ∀ c ∈ w, tDg c
  ·have hg := (lG w).1 ha
   rw [iq (fun i hi => by rw [iP (hg i hi)])]
   rw [iN (fun h => h ha)]
   simp only [Sum.elim_inl]
   unfold co dk
   rw [iP ⟨rfl, rfl⟩, mK w hn (by omega) ha]
   rfl
  ·rw [iP ha]
   rcases gU w.length (fun i => if tDg (w.getD i 0) then none else some ((0 : Int), false)) () with ⟨e, hall⟩ | ⟨i, z, hi, hf, e⟩
   ·exfalso
    refine ha ((lG w).2 fun i hi => ?_)
    have := hall i hi
    split at this
    ·assumption
    ·cases this
   ·rw [e]
    split at hf
    ·cases hf
    ·simp only [sJ] at hf
     subst hf; rfl
 by_cases h2 : w.length > 1
 ·rw [iP (by omega), iP ⟨by omega, by omega⟩]
  cases w with
  | nil => exact absurd rfl hn
  | cons c l =>
   by_cases h3 : c.toNat = 48
   ·rw [iP (show (((c :: l).getD 0 0).toNat : Int) = 48 by simp [h3]), iP (Or.inr (Or.inl ⟨h2, by simp [h3]⟩))]
   ·rw [iN (show ¬ (((c :: l).getD 0 0).toNat : Int) = 48 by simp; omega), hj]
    by_cases ha : ∀ d ∈ c :: l, tDg d
    ·rw [iN (fun h => h ha), iN (fun h => h.elim h1 (fun h => h.elim (fun h => h3 (by simpa using h.2)) (fun h => h ha)))]
    ·rw [iP ha, iP (Or.inr (Or.inr ha))]
 ·rw [iN (by omega), hj]
  by_cases ha : ∀ d ∈ w, tDg d
  ·rw [iN (fun h => h ha), iN (fun h => h.elim h1 (fun h => h.elim (fun h => h2 h.1) (fun h => h ha)))]
  ·rw [iP ha, iP (Or.inr (Or.inr ha))]
theorem jM (s l : List UInt8) (hl : l.length = 2) : bC s l = some (decide (s.take 2 = l)) := by
 unfold bC bb
 by_cases h : (s.length : Int) ≥ (l.length : Int)
 ·rw [iP h, iP ⟨by omega, by omega⟩, hl]
  simp only [bSq]
  congr 1
  rw [Bool.eq_iff_iff]
  simp
 ·rw [iN h]
  simp only [bSq]
  congr 1; symm
  rw [decide_eq_false_iff_not]
  intro e
  have : (s.take 2).length = 2 := by rw [e, hl]
  rw [List.length_take] at this
  omega
theorem nj (src : List UInt8) (p : Nat) (hp : p < src.length) (l : List aa) :
  bN src p l = some (if (src.drop p).take 2 = [61, 61] ∨ (src.drop p).take 2 = [45, 62] then (src.drop p).take 2 else if (src.getD p 0).toNat ∈ ir then [src.getD p 0] else []) := by
 unfold bN
 have b0 : aJ src p 0 = if (src.drop p).take 2 = [61, 61] then some (.inr (.inr [61, 61])) else some (.inl 1) := by
  unfold aJ
  rw [iP (by decide), iP (by decide), iP ⟨by omega, by omega⟩, tN]
  show (bC (src.drop p) [61, 61]).bind _ = _
  rw [jM _ _ rfl]
  simp only [bSq, decide_eq_true_eq]
  rfl
 have b1 : aJ src p 1 = if (src.drop p).take 2 = [45, 62] then some (.inr (.inr [45, 62])) else some (.inl 2) := by
  unfold aJ
  rw [iP (by decide), iP (by decide), iP ⟨by omega, by omega⟩, tN]
  show (bC (src.drop p) [45, 62]).bind _ = _
  rw [jM _ _ rfl]
  simp only [bSq, decide_eq_true_eq]
  rfl
 have b2 : aJ src p 2 = some (.inr (.inl ())) := by
  unfold aJ
  rw [iN (by decide)]
 by_cases h1 : (src.drop p).take 2 = [61, 61]
 ·rw [iP h1] at b0
  rw [aT b0, iP (Or.inl h1), h1]; rfl
 rw [iN h1] at b0
 rw [bW b0]
 by_cases h2 : (src.drop p).take 2 = [45, 62]
 ·rw [iP h2] at b1
  rw [aT b1, iP (Or.inr h2), h2]; rfl
 rw [iN h2] at b1
 rw [bW b1, aT b2, iN (fun h => h.elim h1 h2)]
 simp only [bSq, Sum.elim_inl]
 unfold bh
 rw [iP (inI hp), tN]
 obtain ⟨c, hc⟩ : ∃ c, src.getD p 0 = c := ⟨_, rfl⟩
 rw [hc]
 have hw : c.toNat < 128 → UInt8.ofNat ((IntKind.wrap .i32 (c.toNat : Int)).toNat) = c ∧ 0 ≤ IntKind.wrap .i32 (c.toNat : Int) ∧ IntKind.wrap .i32 (c.toNat : Int) < 128 := fun h => by
  have : IntKind.wrap .i32 (c.toNat : Int) = (c.toNat : Int) := by rw [IntKind.wrap_i32]; omega
  rw [this]
  refine ⟨?_, by omega, by omega⟩
  simp
 have hj : ∀ b : Bool, (b = true → c.toNat < 128) → aj src p b = some (if b = true then [c] else []) := fun b hb => by
  unfold aj
  rw [tN, hc]
  by_cases h : b = true
  ·obtain ⟨w1, w2, w3⟩ := hw (hb h)
   rw [iP h, iP h, iP ⟨w2, w3⟩, w1]
  ·rw [iN h, iN h]
 have step : ∀ (n : Int) (ns : List Nat) (X : Option (List UInt8)), 0 ≤ n → n < 128 → X = some (if c.toNat ∈ ns then [c] else []) →
   (if (c.toNat : Int) = n then aj src p ((c.toNat : Int) == n) else X) = some (if c.toNat ∈ n.toNat :: ns then [c] else []) := fun n ns X h0 h1 hX => by
  by_cases h : (c.toNat : Int) = n
  ·rw [iP h, hj _ (fun _ => by omega), iP (eQ h), iP (by rw [List.mem_cons]; left; omega)]
  ·rw [iN h, hX]
   congr 1
   have : (c.toNat ∈ n.toNat :: ns) ↔ c.toNat ∈ ns := by
    rw [List.mem_cons]
    constructor
    ·rintro (h' | h')
     ·exact absurd (by omega) h
     ·exact h'
    ·exact Or.inr
   simp only [this]
 have last : aj src p ((c.toNat : Int) == 94) = some (if c.toNat ∈ [94] then [c] else []) := by
  rw [hj _ (fun h => by have := beq_iff_eq.1 h; omega)]
  congr 1
  have : ((c.toNat : Int) == 94) = true ↔ c.toNat ∈ [94] := by rw [beq_iff_eq, List.mem_singleton]; omega
  simp only [this]
 exact step 40 _ _ (by decide) (by decide) (step 41 _ _ (by decide) (by decide) (step 123 _ _ (by decide) (by decide) (step 125 _ _ (by decide) (by decide) (step 91 _ _ (by decide) (by decide) (step 93 _ _ (by decide) (by decide) (step 60 _ _ (by decide) (by decide)
  (step 62 _ _ (by decide) (by decide) (step 44 _ _ (by decide) (by decide) (step 59 _ _ (by decide) (by decide) (step 58 _ _ (by decide) (by decide) (step 43 _ _ (by decide) (by decide) (step 45 _ _ (by decide) (by decide) (step 42 _ _ (by decide) (by decide)
  (step 47 _ _ (by decide) (by decide) (step 37 _ _ (by decide) (by decide) (step 61 _ _ (by decide) (by decide) last))))))))))))))))
theorem it (n : Nat) (h : n ≤ 1000000) : cn n 40 := by
 unfold cn
 have : maxLen = 9223372036854775807 := rfl
 omega
theorem nN (src : List UInt8) (hl : src.length ≤ 100000) (p : Nat) (hp : p < src.length) (l : List aa) (hll : l.length ≤ 200000) :
  match dX p (src.drop p) with
  | .inl t => bD src p l = some (0, ((p + t.text.length : Nat) : Int), l ++ [t])
  | .inr e => e ≠ 0 ∧ ∃ x, bD src p l = some (e, x, l) := by
 have hd := ie src p hp
 obtain ⟨c, hc⟩ : ∃ c, src.getD p 0 = c := ⟨_, rfl⟩
 have hs := nj src p hp l
 have hr := nM src hl p (by omega) l
 rw [hc] at hd hs
 have hone : bD src p l = (some (decide (tSm c))).bind fun y5 => if y5 = true then ((bf src p l).bind fun y6 => (cS y6.1).bind fun y7 => if y7 = true then (ay p l y6.2 1 y6.1 0) else (if (y6.1.length : Int) > 12 then (some (3, y6.2, l)) else (ay p l y6.2 2 y6.1 0))) else ((some (decide (tDg c))).bind fun y8 => if y8 = true then ((bf src p l).bind fun y9 => (dl y9.1).bind fun y10 => if y10.2 = true then (ay p l y9.2 3 y9.1 y10.1) else (some (2, y9.2, l))) else ((bN src p l).bind fun y11 => if y11 = ([] : List UInt8) then (some (1, (p : Int), l)) else (ay p l (IntKind.wrap .i64 (p + (y11.length : Int))) 4 y11 0))) := by
  unfold bD
  rw [iP (inI hp), tN, hc, fp, f9]
 have hj : ∀ x1 x2 s3 x4, ay (p : Int) l x1 x2 s3 x4 = some (0, x1, l ++ [aa.mk x2 p s3 x4]) := fun x1 x2 s3 x4 => by
  unfold ay
  rw [iP (it _ (by omega))]; rfl
 have hlen : (src.drop p).length = src.length - p := List.length_drop
 rw [hone, hr]
 simp only [bSq, decide_eq_true_eq, hj, ig]
 rw [hs]
 simp only [bSq]
 clear hone hr hs hj
 generalize hsd : src.drop p = s at *
 subst hd
 unfold dX
 simp only
 by_cases h1 : tSm c
 ·rw [iP h1, iP h1]
  by_cases hw : dV ((c :: src.drop (p + 1)).takeWhile tAn) = true
  ·rw [iP hw, iP hw]
  ·rw [iN hw, iN hw]
   by_cases h12 : ((c :: src.drop (p + 1)).takeWhile tAn).length > 12
   ·rw [iP h12, iP (by omega)]
    exact ⟨by decide, _, rfl⟩
   ·rw [iN h12, iN (by omega)]
 ·rw [iN h1, iN h1]
  by_cases h2 : tDg c
  ·rw [iP h2, iP h2]
   have hne : (c :: src.drop (p + 1)).takeWhile tAn ≠ [] := by rw [List.takeWhile_cons, iP (kb (.inr h2))]; simp
   rw [l7 _ hne]
   simp only [bSq]
   cases hn : ka ((c :: src.drop (p + 1)).takeWhile tAn) with
   | some n => rfl
   | none => exact ⟨by decide, _, rfl⟩
  ·rw [iN h2, iN h2]
   have hwr : ∀ k : Nat, k ≤ 2 → IntKind.wrap .i64 ((p : Int) + (k : Int)) = ((p + k : Nat) : Int) := fun k hk => by rw [wr (by omega) (by omega)]; omega
   have htk : ((c :: src.drop (p + 1)).take 2).length ≤ 2 := by rw [List.length_take]; omega
   by_cases h3 : (c :: src.drop (p + 1)).take 2 = [61, 61] ∨ (c :: src.drop (p + 1)).take 2 = [45, 62]
   ·rw [iP h3, iP h3, iN (by simp), hwr _ htk]
   ·rw [iN h3, iN h3]
    by_cases h4 : c.toNat ∈ ir
    ·rw [iP h4, iP h4, iN (by simp)]
     have := hwr [c].length (by simp)
     rw [this]
    ·rw [iN h4, iN h4, iP rfl]
     exact ⟨by decide, _, rfl⟩
theorem l8 (src : List UInt8) (hl : src.length ≤ 100000) : ∀ (k p : Nat) (l : List aa), p ≤ src.length → src.length - p < k → l.length ≤ p →
  cm (fun (x19, l20) => bw src x19 l20) (((src.length - (blk false (src.drop p)).length : Nat) : Int), l) = some (match a8 k p (src.drop p) with
   | .inl m => .inl ((src.length : Int), l ++ m)
   | .inr f => .inr ([], f)) := by
 intro k
 induction k with
 | zero => intro p l _ h; omega
 | succ k ih =>
  intro p l hp hk hll
  have hb := eq false (src.drop p)
  have hbd := kD false (src.drop p)
  have hlen : (src.drop p).length = src.length - p := List.length_drop
  rw [bO]
  cases e : blk false (src.drop p) with
  | nil =>
   simp only [List.length_nil, Nat.sub_zero]
   rw [aT (o := .inl ((src.length : Int), l)) (by
    show bw src src.length l = _
    unfold bw
    rw [iN (da _)])]
   simp
  | cons c m =>
   simp only
   rw [e] at hb hbd
   have hcm : (c :: m).length = m.length + 1 := rfl
   obtain ⟨q, hq⟩ : ∃ q, q = src.length - (c :: m).length := ⟨_, rfl⟩
   have hqp : p + ((src.drop p).length - (c :: m).length) = q := by omega
   have hdq : src.drop q = c :: m := by
    rw [hbd, List.drop_drop, ← hqp]
   have h1 := nN src hl q (by omega) l (by omega)
   rw [← hq, hqp]
   rw [hdq] at h1
   cases ht : dX q (c :: m) with
   | inr er =>
    rw [ht] at h1
    obtain ⟨hne, x, h1⟩ := h1
    rw [aT (o := .inr ([], aA.mk er q)) (by
     show bw src q l = _
     unfold bw
     rw [iP (by omega), h1]
     simp only [bSq]
     rw [iP hne])]
   | inl t =>
    rw [ht] at h1
    simp only at h1
    obtain ⟨t1, t2, t3⟩ := cY ht
    have hpos : 0 < t.text.length := List.length_pos_iff.2 t2
    have hle := t3.length_le
    have hdt : src.drop (q + t.text.length) = (c :: m).drop t.text.length := by rw [← List.drop_drop, hdq]
    rw [bW (s' := (((src.length - (blk false (src.drop (q + t.text.length))).length : Nat) : Int), l ++ [t])) (by
     show bw src q l = _
     unfold bw
     rw [iP (by omega), h1]
     simp only [bSq]
     rw [iN (by simp), kF src hl _ (by omega)]
     rfl), ih (q + t.text.length) (l ++ [t]) (by omega) (by omega) (by simp; omega), hdt]
    simp only
    cases a8 k (q + t.text.length) ((c :: m).drop t.text.length) with
    | inr f => rfl
    | inl m2 => simp
def gb (src : List UInt8) : List aa × aA :=
 if src.length > 12000 then ([], aA.mk 7 12000) else match a8 (src.length + 1) 0 src with
  | .inl m => (m, aA.mk 0 0)
  | .inr f => ([], f)
theorem gj (src : List UInt8) (hl : src.length ≤ 100000) : cD src = some (gb src) := by
 unfold cD gb
 by_cases h : src.length > 12000
 ·rw [iP (by omega), iP h]
 rw [iN (by omega), iN h]
 have hb := kF src hl 0 (by omega) []
 simp only [Int.natCast_zero] at hb
 rw [hb]
 simp only [bSq]
 rw [l8 src hl (src.length + 1) 0 [] (by omega) (by omega) (by simp)]
 rw [List.drop_zero]
 cases a8 (src.length + 1) 0 src with
 | inr f => rfl
 | inl m => rfl
theorem lH (w : List UInt8) (hl : w.length ≤ 100000) : de w = some (decide (w ≠ [] ∧ w.length ≤ 12 ∧ (∃ c, w.head? = some c ∧ tSm c) ∧ dV w = false ∧ ∀ i, i < w.length → tAn (w.getD i 0) = true)) := by
 unfold de
 cases w with
 | nil => rw [iP rfl]; simp
 | cons c l =>
  rw [iN (by simp)]
  by_cases h1 : ((c :: l).length : Int) > 12
  ·rw [iP h1]; congr 1; symm; rw [decide_eq_false_iff_not]; intro h; omega
  rw [iN h1, iP ⟨by omega, by simp⟩]
  rw [show (c :: l).getD 0 0 = c from rfl, fp, ig]
  simp only [bSq, decide_eq_true_eq]
  by_cases h2 : tSm c
  case neg => rw [iN h2]; congr 1; symm; rw [decide_eq_false_iff_not]; rintro ⟨_, _, ⟨d, hd, hs⟩, _⟩; simp at hd; subst hd; exact h2 hs
  rw [iP h2]
  by_cases h3 : dV (c :: l) = true
  ·rw [iP h3]; congr 1; symm; rw [decide_eq_false_iff_not]; rintro ⟨_, _, _, h, _⟩; rw [h3] at h; cases h
  rw [iN h3]
  generalize hw : c :: l = w at *
  rw [fo (body := fun x5 => cg w x5) w.length (fun i => if tAn (w.getD i 0) = true then none else some false) ()
   (by
    intro i hi
    show cg w i = _
    unfold cg
    rw [iP (ltI hi), iP (inI hi), tN, fp, f9, wr1 i (by omega)]
    simp only [bSq, decide_eq_true_eq]
    unfold tAn
    simp only [decide_eq_true_eq]
    by_cases g1 : tSm (w.getD i 0)
    ·rw [iP g1, iP (Or.inl g1)]
    ·rw [iN g1]
     by_cases g2 : tDg (w.getD i 0)
     ·rw [iP g2, iP (Or.inr g2)]
     ·rw [iN g2, iN (fun x => x.elim g1 g2)])
   (by
    show cg w w.length = _
    unfold cg
    rw [iN (da _)])]
  simp only [bSq]
  rcases gU w.length (fun i => if tAn (w.getD i 0) = true then none else some false) () with ⟨e, hall⟩ | ⟨i, z, hi, hf, e⟩
  ·rw [e]
   simp only [Sum.elim_inl]
   unfold cV
   congr 1; symm
   rw [decide_eq_true_iff]
   refine ⟨by rw [← hw]; simp, by omega, ⟨c, by rw [← hw]; rfl, h2⟩, by simpa using h3, fun i hi => ?_⟩
   have := hall i hi
   split at this
   ·assumption
   ·cases this
  ·rw [e]
   split at hf
   ·cases hf
   ·rename_i hn
    simp only [sJ] at hf
    subst hf
    simp only [Sum.elim_inr]
    congr 1; symm
    rw [decide_eq_false_iff_not]
    rintro ⟨_, _, _, _, h⟩
    exact hn (h i hi)
theorem jN (c : UInt8) : d5 (c.toNat : Int) = some (decide (tSm c)) := fp c
theorem gk (c : UInt8) : d6 (c.toNat : Int) = some (decide (tDg c)) := f9 c
theorem nk (src : List UInt8) (hl : src.length ≤ 100000) (p : Nat) (hp : p ≤ src.length) :
  fm src p = some ((p + ((src.drop p).takeWhile tAn).length : Nat) : Int) := by
 unfold fm
 have key : ∀ (k p : Nat), p + k = src.length → cm (fun x4 => df src x4) (p : Int) = some ((p + ((src.drop p).takeWhile tAn).length : Nat) : Int) := by
  intro k
  induction k with
  | zero =>
   intro p h
   have : p = src.length := by omega
   subst this
   rw [List.drop_length]
   refine aT ?_
   unfold df
   rw [iN (da _)]; rfl
  | succ k ih =>
   intro p h
   have hp : p < src.length := by omega
   rw [ie src p hp]
   have hb : df src (p : Int) = if tAn (src.getD p 0) = true then some (.inl ((p + 1 : Nat) : Int)) else some (.inr (p : Int)) := by
    unfold df
    rw [iP (ltI hp), iP (inI hp), tN, wr1 p (by omega), jN, gk]
    simp only [bSq, decide_eq_true_eq]
    unfold tAn
    simp only [decide_eq_true_eq]
    by_cases h1 : tSm (src.getD p 0)
    ·rw [iP h1, iP (Or.inl h1)]
    ·rw [iN h1]
     by_cases h2 : tDg (src.getD p 0)
     ·rw [iP h2, iP (Or.inr h2)]
     ·rw [iN h2, iN (fun x => x.elim h1 h2)]
   rw [List.takeWhile_cons]
   by_cases h1 : tAn (src.getD p 0) = true
   ·rw [iP h1] at hb ⊢
    rw [bW hb, ih (p + 1) (by omega), List.length_cons]
    congr 2; omega
   ·rw [iN h1] at hb ⊢
    rw [aT hb]; rfl
 rw [key (src.length - p) p (by omega)]
 rfl
theorem jk (w : List UInt8) : dz w = some (dV w) := by
 unfold dz
 have hb : ∀ x : Int, cE w x = if x < (32 : Int) then (if (0 ≤ x ∧ x < (32 : Int)) then (if eZ.getD x.toNat default = w then (some (.inr (.inr true))) else (some (.inl (IntKind.wrap .i64 (x + 1))))) else none) else (some (.inr (.inl ()))) := fun _ => rfl
 rw [fo (body := fun x3 => cE w x3) 32 (fun i => if eZ.getD i default = w then some true else none) ()
  (by
   intro i hi
   show cE w i = _
   rw [hb, iP (by omega), iP ⟨by omega, by omega⟩, tN, wr1 i (by omega)]
   by_cases h : eZ.getD i default = w
   ·rw [iP h, iP h]
   ·rw [iN h, iN h])
  (by
   show cE w (32 : Nat) = _
   rw [hb, iN (by omega)])]
 simp only [bSq]
 rcases gU 32 (fun i => if eZ.getD i default = w then some true else none) () with ⟨e, hall⟩ | ⟨i, z, hi, hf, e⟩
 ·rw [e]
  simp only [Sum.elim_inl]
  unfold cW
  congr 1; symm
  unfold dV
  rw [← Bool.not_eq_true, List.contains_iff_mem]
  intro hm
  obtain ⟨i, hi, he⟩ := List.getElem_of_mem hm
  have hi' : i < 32 := hi
  have := hall i hi'
  rw [iP (by simp only [List.getD, List.getElem?_eq_getElem hi, Option.getD_some]; exact he)] at this
  cases this
 ·rw [e]
  split at hf
  ·rename_i hw
   simp only [sJ] at hf
   subst hf
   simp only [Sum.elim_inr]
   congr 1; symm
   unfold dV
   rw [List.contains_iff_mem, ← hw]
   have hi' : i < eZ.length := hi
   simp only [List.getD, List.getElem?_eq_getElem hi', Option.getD_some]
   exact List.getElem_mem hi'
  ·cases hf
theorem mL (i : Nat) (h : i ≤ 18) : (10 : Nat) ^ i ≤ 1000000000000000000 := by
 have : (10 : Nat) ^ i ≤ 10 ^ 18 := Nat.pow_le_pow_right (by decide) h
 exact this
theorem kH (w : List UInt8) (hl : w.length ≤ 18) : ∀ (k i n : Nat), i + k = w.length → n < 10 ^ i →
  cm (fun (x6, x7) => cF w x6 x7) ((n : Int), (i : Int)) = some (if ∀ c ∈ w.drop i, tDg c then .inl (iI n (w.drop i)) else .inr (-1)) ∧ ((∀ c ∈ w.drop i, tDg c) → 0 ≤ iI n (w.drop i))
 | 0, i, n, h, _ => by
  have : i = w.length := by omega
  subst this
  rw [List.drop_length, iP (by simp)]
  refine ⟨aT ?_, fun _ => by simp [iI]⟩
  show cF _ _ _ = _
  unfold cF
  rw [iN (da _)]; rfl
 | k + 1, i, n, h, hn => by
  have hi : i < w.length := by omega
  rw [ie w i hi]
  obtain ⟨c, hc⟩ : ∃ c, w.getD i 0 = c := ⟨_, rfl⟩
  rw [hc]
  by_cases hd : tDg c
  case neg =>
   rw [iN (fun h => hd (h c List.mem_cons_self))]
   refine ⟨aT ?_, fun h => absurd (h c List.mem_cons_self) hd⟩
   show cF _ _ _ = _
   unfold cF
   rw [iP (ltI hi), iP (inI hi), tN, hc, gk]
   simp only [bSq, decide_eq_true_eq]
   rw [iN hd]
  have hd' : 48 ≤ c.toNat ∧ c.toNat ≤ 57 := hd
  have hp := mL (i + 1) (by omega)
  have hps : (10 : Nat) ^ (i + 1) = 10 ^ i * 10 := Nat.pow_succ 10 i
  obtain ⟨q, hq⟩ : ∃ q, q = (10 : Nat) ^ i := ⟨_, rfl⟩
  rw [← hq] at hn hps
  rw [hps] at hp
  have hb : cF w (n : Int) (i : Int) = some (.inl (((10 * n + (c.toNat - 48) : Nat) : Int), ((i + 1 : Nat) : Int))) := by
   unfold cF
   rw [iP (ltI hi), iP (inI hi), tN, hc, gk]
   simp only [bSq, decide_eq_true_eq]
   rw [iP hd, wr1 i (by omega)]
   have e1 : IntKind.wrap .u8 ((c.toNat : Int) - 48) = (c.toNat : Int) - 48 := by rw [IntKind.wrap_u8]; omega
   rw [e1, wr (n := 10 * (n : Int)) (by omega) (by omega), wr (n := (c.toNat : Int) - 48) (by omega) (by omega), wr (by omega) (by omega)]
   congr 4
   omega
  obtain ⟨g1, g2⟩ := kH w hl k (i + 1) (10 * n + (c.toNat - 48)) (by omega) (by rw [hps]; omega)
  have hnv : iI (n : Int) (c :: w.drop (i + 1)) = iI ((10 * n + (c.toNat - 48) : Nat) : Int) (w.drop (i + 1)) := by
   unfold iI
   rw [List.foldl_cons]
   congr 1; omega
  rw [hnv, bW hb, g1]
  have hall : (∀ d ∈ c :: w.drop (i + 1), tDg d) ↔ ∀ d ∈ w.drop (i + 1), tDg d := by
   constructor
   ·intro h d hdm; exact h d (List.mem_cons_of_mem _ hdm)
   ·intro h d hdm
    rcases List.mem_cons.1 hdm with rfl | hdm
    ·exact hd
    ·exact h d hdm
  refine ⟨?_, fun h => g2 (hall.1 h)⟩
  by_cases ha : ∀ d ∈ w.drop (i + 1), tDg d
  ·rw [iP ha, iP (hall.2 ha)]
  ·rw [iN ha, iN (fun h => ha (hall.1 h))]
theorem nl (w : List UInt8) : hZ w = some (match ka w with | some n => n | none => -1) ∧ ∀ n, ka w = some n → 0 ≤ n := by
 unfold hZ ka
 by_cases h1 : w.length > 18
 ·rw [iP (by omega), iP (Or.inl h1)]; exact ⟨rfl, fun n h => by cases h⟩
 rw [iN (by omega)]
 obtain ⟨g1, g2⟩ := kH w (by omega) w.length 0 0 (by omega) (by decide)
 simp only [List.drop_zero, Int.natCast_zero] at g1 g2
 have hj : dA w = some (if ∀ c ∈ w, tDg c then iI 0 w else -1) := by
  unfold dA d7
  rw [g1]
  simp only [bSq]
  by_cases ha : ∀ c ∈ w, tDg c
  ·rw [iP ha, iP ha]; rfl
  ·rw [iN ha, iN ha]; rfl
 by_cases h2 : w.length > 1
 ·rw [iP (by omega), iP ⟨by omega, by omega⟩]
  cases w with
  | nil => simp at h2
  | cons c l =>
   by_cases h3 : c.toNat = 48
   ·rw [iP (show (((c :: l).getD 0 0).toNat : Int) = 48 by simp [h3]), iP (Or.inr (Or.inl ⟨h2, by simp [h3]⟩))]; exact ⟨rfl, fun n h => by cases h⟩
   ·rw [iN (show ¬ (((c :: l).getD 0 0).toNat : Int) = 48 by simp; omega), hj]
    by_cases ha : ∀ d ∈ c :: l, tDg d
    ·rw [iP ha, iN (fun h => h.elim h1 (fun h => h.elim (fun h => h3 (by simpa using h.2)) (fun h => h ha)))]
     exact ⟨rfl, fun n h => by simp only [sJ] at h; rw [← h]; exact g2 ha⟩
    ·rw [iN ha, iP (Or.inr (Or.inr ha))]; exact ⟨rfl, fun n h => by cases h⟩
 ·rw [iN (by omega), hj]
  by_cases ha : ∀ d ∈ w, tDg d
  ·rw [iP ha, iN (fun h => h.elim h1 (fun h => h.elim (fun h => h2 h.1) (fun h => h ha)))]
   exact ⟨rfl, fun n h => by simp only [sJ] at h; rw [← h]; exact g2 ha⟩
  ·rw [iN ha, iP (Or.inr (Or.inr ha))]; exact ⟨rfl, fun n h => by cases h⟩
theorem nm (src : List UInt8) (hl : src.length ≤ 100000) (p : Nat) (hp : p < src.length) (l : List aa) (hll : l.length ≤ 200000)
  (hb : (src.getD p 0).toNat ≠ 10 ∧ ¬ tBl (src.getD p 0) ∧ (src.getD p 0).toNat ≠ 35) :
  bI src l p = match dX p (src.drop p) with
   | .inl t => some (.inl (l ++ [t], ((p + t.text.length : Nat) : Int)))
   | .inr e => some (.inr (.inr ([], aA.mk e p))) := by
 have hd := ie src p hp
 have hlg := nk src hl p (by omega)
 obtain ⟨c, hc⟩ : ∃ c, src.getD p 0 = c := ⟨_, rfl⟩
 rw [hc] at hd hb
 obtain ⟨b1, b2, b3⟩ := hb
 unfold tBl at b2
 have tw : (src.drop p).takeWhile tAn <+: src.drop p := List.takeWhile_prefix _
 have htw := tw.length_le
 have hlen : (src.drop p).length = src.length - p := List.length_drop
 have hpart : ∀ n : Nat, (src.take (p + n)).drop p = (src.drop p).take n := fun n => by rw [List.drop_take, show p + n - p = n by omega]
 have htk : (src.take (p + ((src.drop p).takeWhile tAn).length)).drop p = (src.drop p).takeWhile tAn := by rw [hpart, ← List.prefix_iff_eq_take.1 tw]
 obtain ⟨T, hT⟩ : ∃ T, T = (src.drop p).takeWhile tAn := ⟨_, rfl⟩
 rw [← hT] at hlg htw htk
 have hj2 : ∀ k : Int, dg src l p ((p + T.length : Nat) : Int) k = some (.inl (l ++ [aa.mk k p T 0], ((p + T.length : Nat) : Int))) := fun k => by
  unfold dg
  rw [iP ⟨⟨by omega, by omega, by omega⟩, it _ (by omega)⟩, tN, tN, htk]; rfl
 unfold bI
 rw [iP (ltI hp), iP (inI hp)]
 simp only [tN, hc]
 rw [iN (by omega), iN (by omega), iN (by omega), iN (by omega), iN (by omega), jN, gk, hlg]
 simp only [bSq, decide_eq_true_eq, tN, htk, jk, hj2]
 have hgd : 0 ≤ (p : Int) ∧ (p : Int) ≤ ((p + T.length : Nat) : Int) ∧ ((p + T.length : Nat) : Int) ≤ (src.length : Int) := ⟨by omega, by omega, by omega⟩
 unfold iB
 simp only [bSq]
 unfold dX
 rw [hd] at hT ⊢
 simp only
 rw [← hT]
 by_cases h1 : tSm c
 ·rw [iP h1, iP h1, iP hgd]
  by_cases hw : dV T = true
  ·rw [iP hw, iP hw]
  ·rw [iN hw, iN hw]
   have e : IntKind.wrap .i64 (((p + T.length : Nat) : Int) - (p : Int)) = (T.length : Int) := by rw [wr (by omega) (by omega)]; omega
   rw [e]
   by_cases h12 : T.length > 12
   ·rw [iP h12, iP (by omega)]
   ·rw [iN h12, iN (by omega)]
 rw [iN h1, iN h1]
 by_cases h2 : tDg c
 ·rw [iP h2, iP h2, iP hgd]
  obtain ⟨n1, n2⟩ := nl T
  rw [n1]
  simp only [bSq]
  cases hn : ka T with
  | some n =>
   simp only
   have := n2 n hn
   rw [iN (by omega), iP (it _ (by omega))]; rfl
  | none =>
   simp only
   rw [iP (by decide)]
 rw [iN h2, iN h2]
 have w1 : IntKind.wrap .i64 ((p : Int) + 1) = ((p + 1 : Nat) : Int) := wr1 p (by omega)
 have w2 : IntKind.wrap .i64 ((p : Int) + 2) = ((p + 2 : Nat) : Int) := by rw [wr (by omega) (by omega)]; omega
 rw [w1, w2]
 simp only [tN, hpart]
 rw [hd]
 obtain ⟨A, hA⟩ : ∃ A : Option ((List aa × Int) ⊕ (List aa ⊕ (List aa × aA))), A = some (.inl (l ++ [aa.mk 4 p [c] 0], ((p + 1 : Nat) : Int))) := ⟨_, rfl⟩
 obtain ⟨B, hB⟩ : ∃ B : Option ((List aa × Int) ⊕ (List aa ⊕ (List aa × aA))), B = some (.inr (.inr ([], aA.mk 1 p))) := ⟨_, rfl⟩
 have hA' : (if (0 ≤ (p : Int) ∧ (p : Int) ≤ ((p + 1 : Nat) : Int) ∧ ((p + 1 : Nat) : Int) ≤ (src.length : Int)) ∧ cn (l.length + 1) 40 then (some (.inl (l ++ lit [aa.mk 4 p ((c :: src.drop (p + 1)).take 1) 0], ((p + 1 : Nat) : Int))) : Option ((List aa × Int) ⊕ (List aa ⊕ (List aa × aA)))) else none) = A := by
  rw [iP ⟨⟨by omega, by omega, by omega⟩, it _ (by omega)⟩, hA]; rfl
 rw [hA', ← hB]
 have hfin : (if c.toNat ∈ ir then A else B) = match (if c.toNat ∈ ir then (.inl (aa.mk 4 p [c] 0) : aa ⊕ Int) else .inr 1) with
   | .inl t => some (.inl (l ++ [t], ((p + t.text.length : Nat) : Int)))
   | .inr e => some (.inr (.inr ([], aA.mk e p))) := by
  by_cases h : c.toNat ∈ ir
  ·rw [iP h, iP h, hA]; rfl
  ·rw [iN h, iN h, hB]
 have step : ∀ (n : Int) (ns : List Nat) (X : Option ((List aa × Int) ⊕ (List aa ⊕ (List aa × aA)))), 0 ≤ n → X = (if c.toNat ∈ ns then A else B) →
   (if (c.toNat : Int) = n then A else X) = if c.toNat ∈ n.toNat :: ns then A else B := fun n ns X h0 hX => by
  by_cases h : (c.toNat : Int) = n
  ·rw [iP h, iP (by rw [List.mem_cons]; left; omega)]
  ·rw [iN h, hX]
   have : (c.toNat ∈ n.toNat :: ns) ↔ c.toNat ∈ ns := by
    rw [List.mem_cons]
    constructor
    ·rintro (h' | h')
     ·exact absurd (by omega) h
     ·exact h'
    ·exact Or.inr
   simp only [this]
 have chain := step 40 _ _ (by decide) (step 41 _ _ (by decide) (step 123 _ _ (by decide) (step 125 _ _ (by decide) (step 91 _ _ (by decide) (step 93 _ _ (by decide) (step 60 _ _ (by decide) (step 62 _ _ (by decide) (step 44 _ _ (by decide) (step 59 _ _ (by decide) (step 58 _ _ (by decide)
  (step 43 _ _ (by decide) (step 45 _ _ (by decide) (step 42 _ _ (by decide) (step 47 _ _ (by decide) (step 37 _ _ (by decide) (step 61 _ _ (by decide) (step 94 [] B (by decide) (by simp))))))))))))))))))
 have ht2 : ∀ a b : UInt8, (c :: src.drop (p + 1)).take 2 = [a, b] → p + 2 ≤ src.length := fun a b h => by
  have : ((c :: src.drop (p + 1)).take 2).length = 2 := by rw [h]; rfl
  rw [List.length_take, List.length_cons, List.length_drop] at this
  omega
 by_cases h3 : ((p + 1 : Nat) : Int) < (src.length : Int)
 ·rw [iP h3, iP ⟨by omega, by omega, by omega⟩]
  by_cases h4 : (c :: src.drop (p + 1)).take 2 = [61, 61]
  ·rw [iP h4, iP (Or.inl h4), iP (it _ (by omega)), h4]; rfl
  ·rw [iN h4]
   by_cases h5 : (c :: src.drop (p + 1)).take 2 = [45, 62]
   ·rw [iP h5, iP (Or.inr h5), iP (it _ (by omega)), h5]; rfl
   ·have hno : ¬ ((c :: src.drop (p + 1)).take 2 = [61, 61] ∨ (c :: src.drop (p + 1)).take 2 = [45, 62]) := fun h => h.elim h4 h5
    rw [iN h5, iN hno, ← hfin]
    exact chain
 ·have hno : ¬ ((c :: src.drop (p + 1)).take 2 = [61, 61] ∨ (c :: src.drop (p + 1)).take 2 = [45, 62]) := fun h => h.elim (fun h => by have := ht2 _ _ h; omega) (fun h => by have := ht2 _ _ h; omega)
  rw [iN h3, iN hno, ← hfin]
  exact chain
theorem li (src : List UInt8) (k p q : Nat) (hpq : p ≤ q) (hq : q ≤ src.length) (h : blk false (src.drop p) = blk false (src.drop q)) : a8 (k + 1) p (src.drop p) = a8 (k + 1) q (src.drop q) := by
 rw [bO, bO, h]
 have hb := eq false (src.drop q)
 have h1 : (src.drop p).length = src.length - p := List.length_drop
 have h2 : (src.drop q).length = src.length - q := List.length_drop
 cases e : blk false (src.drop q) with
 | nil => rfl
 | cons c l =>
  rw [e] at hb
  simp only
  rw [show p + ((src.drop p).length - (c :: l).length) = q + ((src.drop q).length - (c :: l).length) by omega]
theorem iE (src : List UInt8) (hl : src.length ≤ 100000) (l : List aa) : ∀ (k p : Nat), p + k = src.length →
  ∃ q : Nat, cm (fun x31 => cN src l x31) (p : Int) = some (l, (q : Int)) ∧ p ≤ q ∧ q ≤ src.length ∧ blk true (src.drop p) = blk false (src.drop q) ∧ (p < src.length → (src.getD p 0).toNat ≠ 10 → p < q)
 | 0, p, h => by
  have : p = src.length := by omega
  subst this
  refine ⟨src.length, aT ?_, by omega, by omega, by rw [List.drop_length]; rfl, by omega⟩
  show cN _ _ _ = _
  unfold cN
  rw [iN (da _)]
 | k + 1, p, h => by
  have hp : p < src.length := by omega
  have hb : cN src l (p : Int) = if (src.getD p 0).toNat = 10 then some (.inr (l, (p : Int))) else some (.inl ((p + 1 : Nat) : Int)) := by
   unfold cN
   rw [iP (ltI hp), iP (inI hp), tN, wr1 p (by omega)]
   by_cases hc : (src.getD p 0).toNat = 10
   ·rw [iN (by omega), iP hc]
   ·rw [iP (by omega), iN hc]
  have hd := ie src p hp
  by_cases hc : (src.getD p 0).toNat = 10
  ·rw [iP hc] at hb
   refine ⟨p, aT hb, by omega, by omega, ?_, fun _ h => absurd hc h⟩
   rw [hd]
   unfold blk
   rw [iP hc, iP hc]
  ·rw [iN hc] at hb
   obtain ⟨q, h1, h2, h3, h4, _⟩ := iE src hl l k (p + 1) (by omega)
   refine ⟨q, by rw [bW hb]; exact h1, by omega, h3, ?_, fun _ _ => by omega⟩
   rw [hd, ← h4]
   conv => lhs; unfold blk
   rw [iN hc, iP (Or.inl rfl)]
theorem lj (src : List UInt8) (hl : src.length ≤ 100000) : ∀ (n p : Nat) (l : List aa), p ≤ src.length → src.length - p < n → l.length ≤ p →
  cm (fun (l18, x20) => bI src l18 x20) (l, (p : Int)) = some (match a8 (src.length + 1) p (src.drop p) with
   | .inl m => .inl (l ++ m)
   | .inr f => .inr ([], f)) := by
 intro n
 induction n with
 | zero => intro p l _ h; omega
 | succ n ih =>
  intro p l hp hk hll
  rcases Nat.lt_or_ge p src.length with hlt | hge
  case inr =>
   have : p = src.length := by omega
   subst this
   rw [List.drop_length, aT (o := .inl l) (by
    show bI _ _ _ = _
    unfold bI
    rw [iN (da _)])]
   rw [bO]
   simp [blk]
  have hd := ie src p hlt
  obtain ⟨c, hc⟩ : ∃ c, src.getD p 0 = c := ⟨_, rfl⟩
  have e : blk false (c :: src.drop (p + 1)) = if c.toNat = 10 then blk false (src.drop (p + 1)) else if false = true ∨ tBl c then blk false (src.drop (p + 1)) else if c.toNat = 35 then blk true (src.drop (p + 1)) else c :: src.drop (p + 1) := rfl
  rw [hc] at hd
  have skip : ∀ q : Nat, p < q → q ≤ src.length → bI src l p = some (.inl (l, (q : Int))) → blk false (src.drop p) = blk false (src.drop q) →
    cm (fun (l18, x20) => bI src l18 x20) (l, (p : Int)) = some (match a8 (src.length + 1) p (src.drop p) with
     | .inl m => .inl (l ++ m)
     | .inr f => .inr ([], f)) := fun q h1 h2 h3 h4 => by
   rw [bW (s' := (l, (q : Int))) h3, ih q l h2 (by omega) (by omega), li src src.length p q (by omega) h2 h4]
  by_cases hb : c.toNat = 10 ∨ tBl c
  ·refine skip (p + 1) (by omega) (by omega) ?_ ?_
   ·unfold bI
    rw [iP (ltI hlt), iP (inI hlt), tN, hc, wr1 p (by omega)]
    unfold tBl at hb
    by_cases h1 : (c.toNat : Int) = 32
    ·rw [iP h1]
    rw [iN h1]
    by_cases h2 : (c.toNat : Int) = 9
    ·rw [iP h2]
    rw [iN h2]
    by_cases h3 : (c.toNat : Int) = 10
    ·rw [iP h3]
    rw [iN h3, iP (by omega)]
   ·rw [hd, e]
    by_cases h1 : c.toNat = 10
    ·rw [iP h1]
    ·rw [iN h1, iP (Or.inr (hb.resolve_left h1))]
  have h10 : c.toNat ≠ 10 := fun h => hb (.inl h)
  have hbl : ¬ tBl c := fun h => hb (.inr h)
  rw [iN h10, iN (fun h => h.elim (by simp) hbl)] at e
  by_cases h35 : c.toNat = 35
  ·rw [iP h35] at e
   obtain ⟨q, q1, q2, q3, q4, q5⟩ := iE src hl l (src.length - p) p (by omega)
   refine skip q (q5 hlt (by rw [hc]; exact h10)) q3 ?_ ?_
   ·unfold bI
    rw [iP (ltI hlt), iP (inI hlt), tN, hc]
    unfold tBl at hbl
    rw [iN (by omega), iN (by omega), iN (by omega), iN (by omega), iP (by omega), q1]
    rfl
   ·rw [← q4, hd, e]
    conv => rhs; unfold blk
    rw [iN h10, iP (Or.inl rfl)]
  rw [iN h35] at e
  have h1 := nm src hl p hlt l (by omega) (by rw [hc]; exact ⟨h10, hbl, h35⟩)
  rw [bO, hd, e]
  simp only
  rw [hd] at h1
  rw [show p + ((c :: src.drop (p + 1)).length - (c :: src.drop (p + 1)).length) = p by omega]
  cases ht : dX p (c :: src.drop (p + 1)) with
  | inr er =>
   rw [ht] at h1
   rw [aT (o := .inr ([], aA.mk er p)) h1]
  | inl t =>
   rw [ht] at h1
   simp only at h1 ⊢
   obtain ⟨t1, t2, t3⟩ := cY ht
   have hpos : 0 < t.text.length := List.length_pos_iff.2 t2
   have hle := t3.length_le
   rw [List.length_cons, List.length_drop] at hle
   have hdt : (c :: src.drop (p + 1)).drop t.text.length = src.drop (p + t.text.length) := by rw [← hd, List.drop_drop]
   rw [bW (s' := (l ++ [t], ((p + t.text.length : Nat) : Int))) h1, ih (p + t.text.length) (l ++ [t]) (by omega) (by omega) (by simp; omega), hdt,
    dB src.length (src.length + 1) _ _ (by rw [List.length_drop]; omega) (by rw [List.length_drop]; omega)]
   cases a8 (src.length + 1) (p + t.text.length) (src.drop (p + t.text.length)) with
   | inr f => rfl
   | inl m => simp
theorem mM (src : List UInt8) (hl : src.length ≤ 100000) : fZ src = some (gb src) := by
 unfold fZ gb
 by_cases h : src.length > 12000
 ·rw [iP (by omega), iP h]; rfl
 rw [iN (by omega), iN h]
 have h0 := lj src hl (src.length + 1) 0 [] (by omega) (by omega) (by simp)
 rw [List.drop_zero] at h0
 simp only [Int.natCast_zero] at h0
 rw [h0]
 cases a8 (src.length + 1) 0 src with
 | inr f => rfl
 | inl m => rfl
theorem kc (l : List aa) (hl : l.length ≤ 1000000) : dh l l = some true := by
 unfold dh
 rw [iN (fun h => h rfl), fo (body := fun x3 => bg l l x3) l.length (fun _ => none) ()
  (by
   intro i hi
   show bg l l i = _
   unfold bg
   rw [iP (ltI hi), iP ⟨inI hi, inI hi⟩, iP ⟨rfl, rfl, rfl, rfl⟩, wr1 i (by omega)])
  (by
   show bg l l l.length = _
   unfold bg
   rw [iN (da _)]), iq (fun _ _ => rfl)]
 rfl
theorem mN (w : List UInt8) : eI w = de w := by
 unfold eI de
 by_cases h : w = []
 ·rw [iP h, iP (by rw [h]; decide)]
 ·have : 0 < w.length := List.length_pos_iff.2 h
  rw [iN h, iN (by omega), ig, jk]
  rfl
theorem et : ck = some true := by
 unfold ck
 rw [gj _ (by decide), ig, lH _ (by decide)]
 simp only [bSq]
 have e : gb [120, 49, 61, 49, 48, 35, 97, 10, 59] = ([aa.mk 2 0 [120, 49] 0, aa.mk 4 2 [61] 0, aa.mk 3 3 [49, 48] 10, aa.mk 4 8 [59] 0], aA.mk 0 0) := by decide
 rw [e]
 have w1 : dV [110, 111, 100, 101] = true := by decide
 rw [iP (by decide), iP (by decide), iP ⟨by decide, by decide⟩, iP (by decide), iP ⟨by decide, by decide⟩, iP (by decide), iP w1]
 congr 1
end Pam
