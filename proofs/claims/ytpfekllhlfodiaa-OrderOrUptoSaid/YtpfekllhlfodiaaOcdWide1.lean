/- Plain laws on turns: again and again the first number that is not taken yet and may come. -/
import Derived.Test.YtpfekllhlfodiaaOWide1
set_option linter.all false
namespace Pam
open Go
theorem p8 : ∀ {l m : List Nat}, l.Nodup → (∀ x ∈ l, x ∈ m) → l.length ≤ m.length
 | [], _, _, _ => Nat.zero_le _
 | x :: l, m, hn, hs => by
  obtain ⟨h1, h2⟩ := List.nodup_cons.1 hn
  have hx := hs x (by simp)
  have := p8 (l := l) (m := m.erase x) h2 (fun y hy => by
   have hne : y ≠ x := fun e => h1 (e ▸ hy)
   exact (List.mem_erase_of_ne hne).2 (hs y (by simp [hy])))
  rw [List.length_erase_of_mem hx] at this
  have : 0 < m.length := List.length_pos_of_mem hx
  simp only [List.length_cons]
  omega
theorem me {l : List Nat} {n : Nat} (hn : l.Nodup) (h : ∀ x ∈ l, x < n) : l.length ≤ n := by
 have := p8 (m := List.range n) hn (fun x hx => List.mem_range.2 (h x hx))
 simpa using this
theorem oI {l : List Nat} {n : Nat} (hn : l.Nodup) (h : ∀ x ∈ l, x < n) (hl : l.length = n) : ∀ i, i < n → i ∈ l := by
 intro i hi
 refine Classical.byContradiction fun hc => ?_
 have := me (l := i :: l) (n := n) (List.nodup_cons.2 ⟨hc, hn⟩) (fun x hx => by
  rcases List.mem_cons.1 hx with rfl | hx
  ·exact hi
  ·exact h x hx)
 simp only [List.length_cons] at this
 omega
section turns
variable (n : Nat) (c : List Nat → Nat → Bool)
def iE (d : List Nat) : Option Nat := (List.range n).find? (fun i => !d.contains i && c d i)
def i0 : Nat → List Nat
 | 0 => []
 | k + 1 => match iE n c (i0 k) with | some i => i0 k ++ [i] | none => i0 k
def la : List Nat := i0 n c n
variable {n c}
theorem oJ {d : List Nat} {i : Nat} (h : iE n c d = some i) : i < n ∧ ¬ i ∈ d ∧ c d i = true := by
 unfold iE at h
 have h1 := List.find?_some h
 have h2 := List.mem_of_find?_eq_some h
 simp only [Bool.and_eq_true, Bool.not_eq_true'] at h1
 refine ⟨List.mem_range.1 h2, fun hc => ?_, h1.2⟩
 rw [List.contains_iff_mem.2 hc] at h1
 cases h1.1
theorem xo {d : List Nat} (h : iE n c d = none) : ∀ i, i < n → ¬ i ∈ d → c d i = false := by
 intro i hi hd
 unfold iE at h
 have := List.find?_eq_none.1 h i (List.mem_range.2 hi)
 cases hc : c d i
 ·rfl
 ·refine absurd ?_ this
  rw [hc, Bool.and_true]
  cases hq : d.contains i
  ·rfl
  ·exact absurd (List.contains_iff_mem.1 hq) hd
theorem mF : ∀ k, (i0 n c k).Nodup ∧ ∀ i ∈ i0 n c k, i < n
 | 0 => ⟨List.nodup_nil, fun i hi => by cases hi⟩
 | k + 1 => by
  obtain ⟨h1, h2⟩ := mF k
  rw [i0]
  cases h : iE n c (i0 n c k) with
  | none => exact ⟨h1, h2⟩
  | some i =>
   obtain ⟨h3, h4, _⟩ := oJ h
   refine ⟨?_, fun j hj => ?_⟩
   ·rw [List.nodup_append]
    refine ⟨h1, by simp, fun a ha b hb e => ?_⟩
    simp only [List.mem_singleton] at hb
    subst hb; subst e; exact h4 ha
   ·rcases List.mem_append.1 hj with hj | hj
    ·exact h2 j hj
    ·simp only [List.mem_singleton] at hj; subst hj; exact h3
theorem vH : ∀ k, (i0 n c k).length = k ∨ iE n c (i0 n c k) = none
 | 0 => .inl rfl
 | k + 1 => by
  rw [i0]
  cases h : iE n c (i0 n c k) with
  | none => exact .inr h
  | some i =>
   refine .inl ?_
   rcases vH k with h1 | h1
   ·simp [h1]
   ·rw [h1] at h; cases h
theorem u3 {k : Nat} (h : iE n c (i0 n c k) = none) : ∀ j, i0 n c (k + j) = i0 n c k
 | 0 => rfl
 | j + 1 => by
  rw [← Nat.add_assoc, i0, u3 h j, h]
theorem wx : iE n c (la n c) = none := by
 unfold la
 rcases vH (n := n) (c := c) n with h | h
 ·obtain ⟨h1, h2⟩ := mF (n := n) (c := c) n
  have hf := oI h1 h2 h
  cases hq : iE n c (i0 n c n) with
  | none => rfl
  | some i =>
   obtain ⟨h3, h4, _⟩ := oJ hq
   exact absurd (hf i h3) h4
 ·exact h
theorem vJ : (la n c).length ≤ n := me (mF n).1 (mF n).2
theorem pF {k : Nat} (hk : k ≤ (la n c).length) : (i0 n c k).length = k := by
 rcases vH (n := n) (c := c) k with h | h
 ·exact h
 ·have hle := vJ (n := n) (c := c)
  have := u3 h (n - k)
  rw [show k + (n - k) = n from by omega] at this
  have hk2 : la n c = i0 n c k := this
  have h3 : (i0 n c k).length ≤ k := by
   clear h this hk2 hk hle
   induction k with
   | zero => exact Nat.le_refl 0
   | succ k ih =>
    rw [i0]
    cases iE n c (i0 n c k) with
    | none => simp only; omega
    | some i => simp; omega
  rw [hk2] at hk
  omega
theorem u4 {k : Nat} (hk : k < (la n c).length) : ∃ i, iE n c (i0 n c k) = some i ∧ i0 n c (k + 1) = i0 n c k ++ [i] := by
 cases h : iE n c (i0 n c k) with
 | none =>
  have h1 := pF (n := n) (c := c) (k := k) (by omega)
  have h2 := pF (n := n) (c := c) (k := k + 1) (by omega)
  rw [i0, h] at h2
  simp only at h2
  omega
 | some i => exact ⟨i, rfl, by rw [i0, h]⟩
theorem zK : i0 n c (la n c).length = la n c := by
 have hle := vJ (n := n) (c := c)
 have key : ∀ j, ∃ l, i0 n c ((la n c).length + j) = i0 n c (la n c).length ++ l := by
  intro j
  induction j with
  | zero => exact ⟨[], by simp⟩
  | succ j ih =>
   obtain ⟨l, hl⟩ := ih
   rw [← Nat.add_assoc, i0]
   cases iE n c (i0 n c ((la n c).length + j)) with
   | none => exact ⟨l, hl⟩
   | some i => exact ⟨l ++ [i], by simp only [hl, List.append_assoc]⟩
 obtain ⟨l, hl⟩ := key (n - (la n c).length)
 rw [show (la n c).length + (n - (la n c).length) = n from by omega] at hl
 have h1 := pF (n := n) (c := c) (k := (la n c).length) (by omega)
 have h2 : (la n c).length = (i0 n c (la n c).length ++ l).length := by rw [← hl]; rfl
 rw [List.length_append, h1] at h2
 have : l = [] := List.eq_nil_of_length_eq_zero (by omega)
 rw [this, List.append_nil] at hl
 exact hl.symm
theorem xp : (la n c).Nodup := (mF n).1
theorem AQ {i : Nat} (h : i ∈ la n c) : i < n := (mF n).2 i h
theorem rZ {k : Nat} (hk : k ≤ (la n c).length) : i0 n c k = (la n c).take k := by
 have key : ∀ j, k + j ≤ (la n c).length → (i0 n c (k + j)).take k = i0 n c k := by
  intro j
  induction j with
  | zero => intro _; rw [Nat.add_zero, List.take_of_length_le (by rw [pF hk]; exact Nat.le_refl _)]
  | succ j ih =>
   intro hj
   obtain ⟨i, _, e⟩ := u4 (n := n) (c := c) (k := k + j) (by omega)
   rw [← Nat.add_assoc, e, List.take_append_of_le_length (by rw [pF (by omega)]; omega), ih (by omega)]
 have := key ((la n c).length - k) (by omega)
 rw [show k + ((la n c).length - k) = (la n c).length from by omega, zK] at this
 exact this.symm
theorem zL {k : Nat} (hk : k < (la n c).length) : iE n c ((la n c).take k) = some ((la n c).getD k default) := by
 obtain ⟨i, h1, h2⟩ := u4 hk
 rw [rZ (by omega), bD _ hk, rZ (by omega)] at h2
 rw [rZ (by omega)] at h1
 have := List.append_cancel_left h2
 simp only [List.cons.injEq, and_true] at this
 rw [this, h1]
end turns
def bV (n : Nat) (d : List Nat) : List Nat := (List.range n).filter (fun i => !d.contains i)
theorem pG (n : Nat) (d : List Nat) : (bV n d).Nodup := List.nodup_range.filter _
theorem lC {n : Nat} {d : List Nat} {i : Nat} : i ∈ bV n d ↔ i < n ∧ ¬ i ∈ d := by
 unfold bV
 rw [List.mem_filter, List.mem_range]
 simp
theorem tW (n : Nat) (c : List Nat → Nat → Bool) (d : List Nat) : iE n c d = (bV n d).find? (c d) := by
 unfold iE bV
 rw [List.find?_filter]
 congr 1
 funext i
 cases d.contains i <;> cases c d i <;> rfl
theorem tX {n : Nat} {c : List Nat → Nat → Bool} {d : List Nat} {j : Nat} (hj : j < (bV n d).length) (h1 : c d ((bV n d).getD j default) = true) (h2 : ∀ i, i < j → c d ((bV n d).getD i default) = false) :
  iE n c d = some ((bV n d).getD j default) := by
 rw [tW]
 rw [List.find?_eq_some_iff_getElem]
 have e : ∀ i, (h : i < (bV n d).length) → (bV n d).getD i default = (bV n d)[i] := fun i h => by simp [List.getD, h]
 refine ⟨h1, j, hj, (e j hj).symm, fun i hi => ?_⟩
 have := h2 i hi
 rw [e i (by omega)] at this
 rw [this]; rfl
theorem xq {n : Nat} {c : List Nat → Nat → Bool} {d : List Nat} (h : ∀ i, i < (bV n d).length → c d ((bV n d).getD i default) = false) : iE n c d = none := by
 rw [tW]
 rw [List.find?_eq_none]
 intro x hx
 obtain ⟨i, hi, rfl⟩ := List.mem_iff_getElem.1 hx
 have := h i hi
 simp only [List.getD, hi, List.getElem?_eq_getElem, Option.getD_some] at this
 rw [this]; simp
theorem ru : ∀ {l : List Nat} {j : Nat}, l.Nodup → j < l.length → l.take j ++ l.drop (j + 1) = l.filter (fun i => i != l.getD j default)
 | [], _, _, h => by cases h
 | x :: l, 0, hn, _ => by
  obtain ⟨h1, _⟩ := List.nodup_cons.1 hn
  have e : (x :: l).getD 0 default = x := rfl
  rw [e, List.filter_cons_of_neg (by simp)]
  simp only [List.take_zero, List.drop_succ_cons, List.drop_zero, List.nil_append]
  rw [List.filter_eq_self.2]
  intro y hy
  exact bne_iff_ne.2 (fun e => h1 (e ▸ hy))
 | x :: l, j + 1, hn, h => by
  obtain ⟨h1, h2⟩ := List.nodup_cons.1 hn
  have hj : j < l.length := by simpa using h
  have e : (x :: l).getD (j + 1) default = l.getD j default := rfl
  have hm : l.getD j default ∈ l := bi hj
  have hx : (x != l.getD j default) = true := bne_iff_ne.2 (fun q => h1 (by rw [q]; exact hm))
  rw [e, List.filter_cons_of_pos (p := fun i => i != l.getD j default) hx]
  simp only [List.take_succ_cons, List.drop_succ_cons, List.cons_append]
  rw [ru h2 hj]
theorem yG {n : Nat} {d : List Nat} {j : Nat} (hj : j < (bV n d).length) : (bV n d).take j ++ (bV n d).drop (j + 1) = bV n (d ++ [(bV n d).getD j default]) := by
 rw [ru (pG n d) hj]
 generalize (bV n d).getD j default = x
 unfold bV
 rw [List.filter_filter]
 apply List.filter_congr
 intro i _
 simp [List.contains_append, Bool.and_comm, bne]
 grind
theorem sa {n : Nat} : ∀ {d : List Nat}, d.Nodup → (∀ i ∈ d, i < n) → (bV n d).length + d.length = n := by
 intro d hn hl
 have h1 : (bV n d ++ d).length ≤ n := me (by
  rw [List.nodup_append]
  refine ⟨pG n d, hn, fun a ha b hb e => ?_⟩
  subst e
  exact (lC.1 ha).2 hb) (fun x hx => by
   rcases List.mem_append.1 hx with h | h
   ·exact (lC.1 h).1
   ·exact hl x h)
 have h2 : n ≤ (bV n d ++ d).length := by
  have := p8 (l := List.range n) (m := bV n d ++ d) List.nodup_range (fun x hx => by
   by_cases hd : x ∈ d
   ·exact List.mem_append.2 (.inr hd)
   ·exact List.mem_append.2 (.inl (lC.2 ⟨List.mem_range.1 hx, hd⟩)))
  simpa using this
 rw [List.length_append] at h1 h2
 omega
theorem sB {n : Nat} {d : List Nat} (h : 0 < (bV n d).length) : (bV n d).getD 0 default < n ∧ ¬ (bV n d).getD 0 default ∈ d ∧ ∀ i, i < (bV n d).getD 0 default → i ∈ d := by
 obtain ⟨h1, h2⟩ := lC.1 (bi h)
 refine ⟨h1, h2, fun i hi => Classical.byContradiction fun hc => ?_⟩
 have hm : i ∈ bV n d := lC.2 ⟨by omega, hc⟩
 obtain ⟨k, hk, e⟩ := List.mem_iff_getElem.1 hm
 have hp : (bV n d).Pairwise (· < ·) := List.pairwise_lt_range.filter _
 have e0 : (bV n d).getD 0 default = (bV n d)[0] := by simp [List.getD, h]
 rw [e0] at hi
 rcases Nat.eq_zero_or_pos k with rfl | hk0
 ·rw [e] at hi; exact Nat.lt_irrefl _ hi
 ·have := List.pairwise_iff_getElem.1 hp 0 k h hk hk0
  rw [e] at this
  omega
def pH (nx : Nat → Nat) : Nat → List Nat → Nat → List Nat × Nat
 | 0, w, a => (w, a)
 | f + 1, w, a => if a ∈ w then (w, a) else pH nx f (w ++ [a]) (nx a)
theorem zM {n : Nat} {nx : Nat → Nat} {p : Nat → Prop} (hnx : ∀ i, i < n → p i → nx i < n ∧ p (nx i)) : ∀ (f : Nat) (w : List Nat) (a : Nat), w.Nodup → (∀ i ∈ w, i < n ∧ p i) → a < n → p a → n < w.length + f →
  (pH nx f w a).2 ∈ (pH nx f w a).1 ∧ (pH nx f w a).1.Nodup ∧ (∀ i ∈ (pH nx f w a).1, i < n ∧ p i) := by
 intro f
 induction f with
 | zero =>
  intro w a h1 h2 h3 h3p h4
  have := me h1 (fun i hi => (h2 i hi).1)
  omega
 | succ f ih =>
  intro w a h1 h2 h3 h3p h4
  rw [pH]
  by_cases h : a ∈ w
  ·rw [if_pos h]
   exact ⟨h, h1, h2⟩
  ·rw [if_neg h]
   obtain ⟨g1, g2⟩ := hnx a h3 h3p
   refine ih _ _ ?_ (fun i hi => ?_) g1 g2 (by simp; omega)
   ·rw [List.nodup_append]
    refine ⟨h1, by simp, fun x hx b hb e => ?_⟩
    simp only [List.mem_singleton] at hb
    subst hb; subst e; exact h hx
   ·rcases List.mem_append.1 hi with hi | hi
    ·exact h2 i hi
    ·simp only [List.mem_singleton] at hi; subst hi; exact ⟨h3, h3p⟩
theorem u5 {S T : Type} {n : Nat} {nx : Nat → Nat} {p : Nat → Prop} (hnx : ∀ i, i < n → p i → nx i < n ∧ p (nx i)) (mk : List Nat → Nat → S) {body : S → Option (S ⊕ T)} (fin : List Nat → Nat → T)
  (hs : ∀ w a, w.length ≤ n → (∀ i ∈ w, i < n ∧ p i) → a < n → p a → ¬ a ∈ w → body (mk w a) = some (.inl (mk (w ++ [a]) (nx a))))
  (he : ∀ w a, w.length ≤ n → (∀ i ∈ w, i < n ∧ p i) → a < n → p a → a ∈ w → w.Nodup → body (mk w a) = some (.inr (fin w a))) :
  ∀ (f : Nat) (w : List Nat) (a : Nat), w.Nodup → (∀ i ∈ w, i < n ∧ p i) → a < n → p a → n < w.length + f → aT body (mk w a) = some (fin (pH nx f w a).1 (pH nx f w a).2) := by
 intro f
 induction f with
 | zero =>
  intro w a h1 h2 h3 h3p h4
  have := me h1 (fun i hi => (h2 i hi).1)
  omega
 | succ f ih =>
  intro w a h1 h2 h3 h3p h4
  have hw := me h1 (fun i hi => (h2 i hi).1)
  rw [pH]
  by_cases h : a ∈ w
  ·rw [if_pos h, d6 (he w a hw h2 h3 h3p h h1)]
  ·rw [if_neg h, eQ (hs w a hw h2 h3 h3p h)]
   obtain ⟨g1, g2⟩ := hnx a h3 h3p
   refine ih _ _ ?_ (fun i hi => ?_) g1 g2 (by simp; omega)
   ·rw [List.nodup_append]
    refine ⟨h1, by simp, fun x hx b hb e => ?_⟩
    simp only [List.mem_singleton] at hb
    subst hb; subst e; exact h hx
   ·rcases List.mem_append.1 hi with hi | hi
    ·exact h2 i hi
    ·simp only [List.mem_singleton] at hi; subst hi; exact ⟨h3, h3p⟩
theorem xr {nx : Nat → Nat} : ∀ (f : Nat) (w : List Nat) (a : Nat), (∀ i, i + 1 < w.length → nx (w.getD i default) = w.getD (i + 1) default) → (∀ i, i + 1 = w.length → nx (w.getD i default) = a) →
  (∀ i, i + 1 < (pH nx f w a).1.length → nx ((pH nx f w a).1.getD i default) = (pH nx f w a).1.getD (i + 1) default) ∧ (∀ i, i + 1 = (pH nx f w a).1.length → nx ((pH nx f w a).1.getD i default) = (pH nx f w a).2) := by
 intro f
 induction f with
 | zero => intro w a h1 h2; exact ⟨h1, h2⟩
 | succ f ih =>
  intro w a h1 h2
  rw [pH]
  by_cases h : a ∈ w
  ·rw [if_pos h]; exact ⟨h1, h2⟩
  ·rw [if_neg h]
   have g : ∀ i, i < w.length → (w ++ [a]).getD i default = w.getD i default := fun i hi => by simp [List.getD, hi, List.getElem?_append_left]
   have g2 : (w ++ [a]).getD w.length default = a := by simp [List.getD]
   refine ih _ _ (fun i hi => ?_) (fun i hi => ?_)
   ·simp only [List.length_append, List.length_singleton] at hi
    rcases Nat.lt_or_ge (i + 1) w.length with hh | hh
    ·rw [g i (by omega), g (i + 1) hh, h1 i hh]
    ·rw [show i + 1 = w.length from by omega, g2, g i (by omega), h2 i (by omega)]
   ·simp only [List.length_append, List.length_singleton] at hi
    have e : i = w.length := by omega
    subst e; rw [g2]
theorem CG {p : Nat → Prop} : ∀ {i : Nat}, p i → ∃ j, j ≤ i ∧ p j ∧ ∀ k, k < j → ¬ p k := by
 intro i
 induction i using Nat.strongRecOn with
 | _ i ih =>
  intro h
  by_cases hc : ∃ k, k < i ∧ p k
  ·obtain ⟨k, hk, hp⟩ := hc
   obtain ⟨j, h1, h2⟩ := ih k hk hp
   exact ⟨j, by omega, h2⟩
  ·exact ⟨i, Nat.le_refl _, h, fun k hk hp => hc ⟨k, hk, hp⟩⟩
theorem xY {T Z : Type} {n i : Nat} {f : Nat → Option Z} {t : T} {z : Z} (hi : i < n) (h : ∀ j, j < i → f j = none) (hz : f i = some z) : d2 n f t = .inr z := by
 have e : (List.range n).findSome? f = some z := by
  rw [List.range_eq_range', show n = i + (n - i - 1 + 1) from by omega, ← List.range'_append_1, List.findSome?_append]
  have : (List.range' 0 i).findSome? f = none := List.findSome?_eq_none_iff.2 (fun x hx => by
   obtain ⟨_, h2⟩ := List.mem_range'_1.1 hx
   exact h x (by omega))
  rw [this, Nat.zero_add, List.range'_succ, List.findSome?_cons, hz]
  rfl
 unfold d2
 rw [e]
theorem zN {T Z : Type} (n : Nat) (f : Nat → Option Z) (t : T) : (d2 n f t = .inl t ∧ ∀ i, i < n → f i = none) ∨ ∃ i z, i < n ∧ f i = some z ∧ (∀ j, j < i → f j = none) ∧ d2 n f t = .inr z := by
 rcases cO n f t with h | ⟨i, z, hi, hz, _⟩
 ·exact .inl h
 ·obtain ⟨j, h1, h2, h3⟩ := CG (p := fun j => ¬ f j = none) (i := i) (by rw [hz]; exact fun h => nomatch h)
  have h4 : ∀ k, k < j → f k = none := fun k hk => Classical.not_not.1 (h3 k hk)
  cases hj : f j with
  | none => exact absurd hj h2
  | some y => exact .inr ⟨j, y, by omega, hj, h4, xY (by omega) h4 hj⟩
theorem sc {S O : Type} (mk : Nat → S) {body : S → Option (S ⊕ O)} (n : Nat) (p : Nat → Bool) (g : Nat → O) (o : O)
  (h : ∀ i, i < n → body (mk i) = some (if p i = true then .inr (g i) else .inl (mk (i + 1)))) (he : body (mk n) = some (.inr o)) :
  aT body (mk 0) = some (match (List.range n).find? p with | some i => g i | none => o) := by
 have key : ∀ (k i : Nat), i + k = n → aT body (mk i) = some (match (List.range' i k).find? p with | some i => g i | none => o) := by
  intro k
  induction k with
  | zero =>
   intro i hi
   have : i = n := by omega
   subst this
   rw [d6 he]; rfl
  | succ k ih =>
   intro i hi
   have hb := h i (by omega)
   rw [List.range'_succ]
   by_cases hp : p i = true
   ·rw [if_pos hp] at hb
    rw [d6 hb, List.find?_cons_of_pos hp]
   ·rw [if_neg hp] at hb
    rw [eQ hb, List.find?_cons_of_neg hp]
    exact ih (i + 1) (by omega)
 have := key n 0 (by omega)
 rw [List.range_eq_range']
 exact this
end Pam
