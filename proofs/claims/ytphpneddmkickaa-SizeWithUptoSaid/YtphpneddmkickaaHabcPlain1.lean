/- The order of terms by their names; ranges of a list; a swap. -/
import Derived.Test.YtphpneddmkickaaHabcFun1
import Derived.Test.YtphpneddmkickaaHWide1
set_option linter.all false
namespace Pam
open Go
theorem iA : ∀ x : List UInt8, Op.bytesLess x x = false
 | [] => rfl
 | a :: x => by simp [Op.bytesLess, iA x]
theorem lj : ∀ {x y z : List UInt8}, Op.bytesLess x y = true → Op.bytesLess y z = true → Op.bytesLess x z = true
 | _, [], _, h, _ => by cases ‹List UInt8› <;> simp [Op.bytesLess] at h
 | _, _ :: _, [], _, h => by simp [Op.bytesLess] at h
 | [], _ :: _, _ :: _, _, _ => rfl
 | a :: x, b :: y, c :: z, h, h' => by
  simp only [Op.bytesLess, Bool.or_eq_true, decide_eq_true_eq, Bool.and_eq_true, beq_iff_eq] at h h' ⊢
  rcases h with h | ⟨rfl, h⟩
  ·rcases h' with h' | ⟨rfl, h'⟩
   ·exact .inl (UInt8.lt_trans h h')
   ·exact .inl h
  ·rcases h' with h' | ⟨rfl, h'⟩
   ·exact .inl h'
   ·exact .inr ⟨rfl, lj h h'⟩
theorem pH : ∀ {x y : List UInt8}, Op.bytesLess x y = false → Op.bytesLess y x = false → x = y
 | [], [], _, _ => rfl
 | [], _ :: _, h, _ => by simp [Op.bytesLess] at h
 | _ :: _, [], _, h => by simp [Op.bytesLess] at h
 | a :: x, b :: y, h, h' => by
  simp only [Op.bytesLess, Bool.or_eq_false_iff, decide_eq_false_iff_not, Bool.and_eq_false_imp, beq_iff_eq] at h h'
  have e : a = b := by
   have h1 := h.1
   have h2 := h'.1
   rw [UInt8.not_lt] at h1 h2
   exact UInt8.le_antisymm h2 h1
  subst e
  rw [pH (h.2 rfl) (h'.2 rfl)]
def ltT (x y : aa) : Prop := Op.bytesLess x.name y.name = true
def leT (x y : aa) : Prop := ¬ ltT y x
theorem jZ (x : aa) : leT x x := by unfold leT ltT; rw [iA]; decide
theorem lI {x y : aa} (h : ltT x y) : leT x y := fun h' => by
 have := lj h h'
 rw [iA] at this
 cases this
theorem eJ {x y z : aa} (h : leT x y) (h' : leT y z) : leT x z := fun hz => by
 unfold leT ltT at *
 cases hxy : Op.bytesLess x.name y.name with
 | true => exact h' (lj hz hxy)
 | false =>
  have e := pH hxy (by simpa using h)
  rw [e] at hz
  exact h' hz
theorem od (x y : aa) : ∃ c : Int, dV x y = some c ∧ (c < 0 ↔ ltT x y) := by
 unfold dV eV et ltT
 simp only [bSq, BEq.rfl, Bool.not_true, Bool.false_eq_true, if_false]
 cases Op.bytesLess x.name y.name with
 | true => exact ⟨-1, rfl, by simp⟩
 | false =>
  simp only [Bool.false_eq_true, if_false, Bool.false_or]
  by_cases e : (x.name == y.name) = true
  ·rw [iP e]; exact ⟨0, rfl, by simp⟩
  ·rw [iN e]; exact ⟨1, rfl, by simp⟩
def tm (L : List aa) (i : Nat) : aa := L.getD i default
def srt (L : List aa) (a b : Nat) : Prop := ∀ p q, a ≤ p → p < q → q < b → leT (tm L p) (tm L q)
structure Pin (L L' : List aa) (a b : Nat) : Prop where
 len : L'.length = L.length
 out : ∀ i, i < a ∨ b ≤ i → tm L' i = tm L i
 cl : ∀ P : aa → Prop, (∀ i, a ≤ i → i < b → P (tm L i)) → ∀ i, a ≤ i → i < b → P (tm L' i)
 perm : L'.Perm L
theorem Pin.refl (L : List aa) (a b : Nat) : Pin L L a b := ⟨rfl, fun _ _ => rfl, fun _ h => h, List.Perm.refl _⟩
theorem Pin.trans {L L' L'' : List aa} {a b : Nat} (h : Pin L L' a b) (h' : Pin L' L'' a b) : Pin L L'' a b :=
 ⟨h'.len.trans h.len, fun i hi => (h'.out i hi).trans (h.out i hi), fun P hp => h'.cl P (h.cl P hp), h'.perm.trans h.perm⟩
theorem Pin.wide {L L' : List aa} {a b c d : Nat} (h : Pin L L' a b) (h1 : c ≤ a) (h2 : b ≤ d) : Pin L L' c d := by
 refine ⟨h.len, fun i hi => h.out i (by omega), fun P hp i h3 h4 => ?_, h.perm⟩
 by_cases hi : a ≤ i ∧ i < b
 ·exact h.cl P (fun j h5 h6 => hp j (by omega) (by omega)) i hi.1 hi.2
 ·rw [h.out i (by omega)]; exact hp i h3 h4
def swp (L : List aa) (i j : Nat) : List aa := (L.set i (L.getD j default)).set j (L.getD i default)
theorem qd (L : List aa) (i j : Nat) : (swp L i j).length = L.length := by simp [swp]
theorem lJ {L : List aa} {i j : Nat} (hi : i < L.length) (hj : j < L.length) (q : Nat) : tm (swp L i j) q = if q = j then tm L i else if q = i then tm L j else tm L q := by
 unfold swp tm
 simp only [List.getD_eq_getElem?_getD, List.getElem?_set, List.length_set]
 by_cases e : q = j
 ·subst e; simp [hj]
 ·by_cases e2 : q = i
  ·subst e2
   rw [iN e, iP rfl]
   simp [hi, Ne.symm e]
  ·rw [iN e, iN e2]
   simp [Ne.symm e, Ne.symm e2]
theorem rG {L : List aa} {i j : Nat} (hi : i < L.length) (hj : j < L.length) : (swp L i j).Perm L := by
 unfold swp
 rw [List.getD_eq_getElem?_getD, List.getD_eq_getElem?_getD, List.getElem?_eq_getElem hi, List.getElem?_eq_getElem hj]
 exact List.set_set_perm hi hj
theorem mm {L : List aa} {i j a b : Nat} (hi : i < L.length) (hj : j < L.length) (h1 : a ≤ i ∧ i < b) (h2 : a ≤ j ∧ j < b) : Pin L (swp L i j) a b := by
 refine ⟨qd _ _ _, fun q hq => ?_, fun P hp q h3 h4 => ?_, rG hi hj⟩
 ·rw [lJ hi hj, iN (by omega), iN (by omega)]
 ·rw [lJ hi hj]
  split
  ·exact hp i h1.1 h1.2
  ·split
   ·exact hp j h2.1 h2.2
   ·exact hp q h3 h4
structure uy (L0 L : List aa) (a i j : Nat) : Prop where
 pin : Pin L0 L a (i + 1)
 ha : a ≤ j
 hj : j ≤ i
 oth : ∀ p q, a ≤ p → p < q → q ≤ i → p ≠ j → q ≠ j → leT (tm L p) (tm L q)
 beh : ∀ q, j < q → q ≤ i → leT (tm L j) (tm L q)
theorem nG (N a i : Nat) (L0 : List aa) (hN : N = L0.length) (hi : i < N) (hb : N ≤ 1000000) : ∀ (k j : Nat) (L : List aa), j = a + k → uy L0 L a i j →
  ∃ L', aW (fun (x : List aa × Int) => ay N (a : Int) x.1 x.2) (L, (j : Int)) = some L' ∧ Pin L0 L' a (i + 1) ∧ srt L' a (i + 1)
 | 0, j, L, hj, h => by
  refine ⟨L, bb ?_, h.pin, fun p q h1 h2 h3 => ?_⟩
  ·show ay N (a : Int) L (j : Int) = _
   unfold ay
   rw [iN (by omega)]
  ·by_cases e : p = j
   ·rw [e]; exact h.beh q (by omega) (by omega)
   ·exact h.oth p q h1 h2 (by omega) e (by omega)
 | k + 1, j, L, hj, h => by
  have hlen : L.length = N := by rw [h.pin.len]; exact hN.symm
  have hji := h.hj
  have wj : IntKind.wrap .i64 ((j : Int) - 1) = ((j - 1 : Nat) : Int) := by rw [wr (by omega) (by omega)]; omega
  obtain ⟨c, hc, hcl⟩ := od (tm L j) (tm L (j - 1))
  unfold tm at hc
  have hstep : ay N (a : Int) L (j : Int) = if c < 0 then some (.inl (swp L j (j - 1), ((j - 1 : Nat) : Int))) else some (.inr L) := by
   unfold ay
   rw [iP (by omega), wj]
   simp only [tN]
   rw [iP ⟨by omega, by omega, by omega, by omega⟩, hc]
   rfl
  by_cases hlt : c < 0
  ·rw [iP hlt] at hstep
   rw [bu (s := (L, (j : Int))) hstep]
   have hltT := hcl.1 hlt
   have hat := fun q => lJ (L := L) (i := j) (j := j - 1) (by omega) (by omega) q
   refine nG N a i L0 hN hi hb k (j - 1) (swp L j (j - 1)) (by omega) ⟨h.pin.trans (mm (by omega) (by omega) (by omega) (by omega)), by omega, by omega, fun p q h1 h2 h3 h4 h5 => ?_, fun q h1 h2 => ?_⟩
   ·rw [hat, hat, iN h4, iN h5]
    by_cases e1 : p = j
    ·rw [iP e1, iN (by omega)]
     exact h.oth (j - 1) q (by omega) (by omega) h3 (by omega) (by omega)
    ·rw [iN e1]
     by_cases e2 : q = j
     ·rw [iP e2]
      exact h.oth p (j - 1) h1 (by omega) (by omega) e1 (by omega)
     ·rw [iN e2]
      exact h.oth p q h1 h2 h3 e1 e2
   ·rw [hat, hat, iP rfl, iN (by omega)]
    by_cases e2 : q = j
    ·rw [iP e2]
     exact lI hltT
    ·rw [iN e2]
     exact h.beh q (by omega) h2
  ·rw [iN hlt] at hstep
   refine ⟨L, bb (s := (L, (j : Int))) hstep, h.pin, fun p q h1 h2 h3 => ?_⟩
   have hle : leT (tm L (j - 1)) (tm L j) := fun hh => hlt (hcl.2 hh)
   by_cases e1 : p = j
   ·rw [e1]; exact h.beh q (by omega) (by omega)
   ·by_cases e2 : q = j
    ·rw [e2]
     by_cases e3 : p = j - 1
     ·rw [e3]; exact hle
     ·exact eJ (h.oth p (j - 1) h1 (by omega) (by omega) e1 (by omega)) hle
    ·exact h.oth p q h1 h2 (by omega) e1 e2
theorem nH (N a b : Nat) (hb : b ≤ N) (hN : N ≤ 1000000) : ∀ (k i : Nat) (L : List aa), i + k = max b (a + 1) → a + 1 ≤ i → N = L.length → srt L a i →
  ∃ L', aW (fun (x : List aa × Int) => an N (a : Int) (b : Int) x.1 x.2) (L, (i : Int)) = some L' ∧ Pin L L' a (max b (a + 1)) ∧ srt L' a b
 | 0, i, L, hk, hi, hl, hs => by
  refine ⟨L, bb ?_, Pin.refl _ _ _, fun p q h1 h2 h3 => hs p q h1 h2 (by omega)⟩
  show an N (a : Int) (b : Int) L (i : Int) = _
  unfold an
  rw [iN (by omega)]
 | k + 1, i, L, hk, hi, hl, hs => by
  have hib : i < b := by omega
  obtain ⟨L1, e1, p1, s1⟩ := nG N a i L hl (by omega) hN (i - a) i L (by omega) ⟨Pin.refl _ _ _, by omega, Nat.le_refl _, fun p q h1 h2 h3 h4 h5 => hs p q h1 h2 (by omega), fun q h1 h2 => by omega⟩
  have hstep : an N (a : Int) (b : Int) L (i : Int) = some (.inl (L1, ((i + 1 : Nat) : Int))) := by
   unfold an
   rw [iP (by omega)]
   show (aW (fun (x : List aa × Int) => ay N (a : Int) x.1 x.2) (L, (i : Int))).bind _ = _
   rw [e1]
   simp only [bSq]
   unfold aT
   rw [wrs i (by omega)]
  rw [bu (s := (L, (i : Int))) hstep]
  obtain ⟨L', e2, p2, s2⟩ := nH N a b hb hN k (i + 1) L1 (by omega) (by omega) (by rw [p1.len]; exact hl) s1
  exact ⟨L', e2, (p1.wide (Nat.le_refl _) (by omega)).trans p2, s2⟩
theorem rH (N a b : Nat) (L : List aa) (hab : a ≤ b) (hb : b ≤ N) (hN : N ≤ 1000000) (hl : N = L.length) : ∃ L', bj N (a : Int) (b : Int) L = some L' ∧ Pin L L' a b ∧ srt L' a b := by
 have h : ∃ L', aW (fun (x : List aa × Int) => an N (a : Int) (b : Int) x.1 x.2) (L, ((a + 1 : Nat) : Int)) = some L' ∧ Pin L L' a b ∧ srt L' a b := by
  by_cases e : a = b
  ·subst e
   refine ⟨L, bb ?_, Pin.refl _ _ _, fun p q h1 h2 h3 => by omega⟩
   show an N (a : Int) (a : Int) L ((a + 1 : Nat) : Int) = _
   unfold an
   rw [iN (by omega)]
  ·have := nH N a b hb hN (max b (a + 1) - (a + 1)) (a + 1) L (by omega) (Nat.le_refl _) hl (fun p q h1 h2 h3 => by omega)
   rwa [show max b (a + 1) = b by omega] at this
 obtain ⟨L', e, p, s⟩ := h
 refine ⟨L', ?_, p, s⟩
 unfold bj
 rw [wrs a (by omega)]
 show (aW (fun (x : List aa × Int) => an N (a : Int) (b : Int) x.1 x.2) (L, ((a + 1 : Nat) : Int))).bind _ = _
 rw [e]
 rfl
theorem mn (x : aa) : ¬ ltT x x := by unfold ltT; rw [iA]; decide
theorem lK {x y z : aa} (h : ltT x y) (h' : ltT y z) : ltT x z := lj h h'
theorem lL {x y : aa} (h : ltT x y) : ¬ ltT y x := fun h' => mn x (lK h h')
theorem oe {x y : aa} (h : ¬ ltT x y) (h' : ¬ ltT y x) : x.name = y.name := pH (by simpa [ltT] using h) (by simpa [ltT] using h')
theorem kP {x y : aa} (h : ltT x y) : x.name ≠ y.name := fun e => by
 unfold ltT at h
 rw [e, iA] at h
 cases h
theorem pI {x y z : aa} (e : x.name = y.name) : ltT x z ↔ ltT y z := by unfold ltT; rw [e]
theorem lM {x y z : aa} (e : x.name = y.name) : ltT z x ↔ ltT z y := by unfold ltT; rw [e]
def db (L : List aa) (s : List UInt8) : Int := (L.map fun t => if t.name = s then t.n else 0).sum
theorem gR (s : List UInt8) : db [] s = 0 := rfl
theorem cq (t : aa) (L : List aa) (s : List UInt8) : db (t :: L) s = (if t.name = s then t.n else 0) + db L s := by
 unfold db; rw [List.map_cons, List.sum_cons]
theorem oS (L L' : List aa) (s : List UInt8) : db (L ++ L') s = db L s + db L' s := by
 induction L with
 | nil => rw [List.nil_append, gR, Int.zero_add]
 | cons t L ih => rw [List.cons_append, cq, cq, ih, Int.add_assoc]
theorem oT (t : aa) (s : List UInt8) : db [t] s = if t.name = s then t.n else 0 := by rw [cq, gR, Int.add_zero]
theorem lN {L L' : List aa} (h : L.Perm L') (s : List UInt8) : db L s = db L' s := by
 induction h with
 | nil => rfl
 | cons x _ ih => rw [cq, cq, ih]
 | swap x y l => rw [cq, cq, cq, cq]; omega
 | trans _ _ h1 h2 => rw [h1, h2]
theorem jD {L : List aa} {s : List UInt8} (h : ∀ u ∈ L, u.name ≠ s) : db L s = 0 := by
 induction L with
 | nil => rfl
 | cons t L ih => rw [cq, iN (h t (by simp)), ih (fun u hu => h u (by simp [hu]))]; rfl
theorem lk {L : List aa} {s : List UInt8} (h : db L s ≠ 0) : ∃ u ∈ L, u.name = s :=
 Classical.byContradiction fun hn => h (jD fun u hu e => hn ⟨u, hu, e⟩)
def gc (L : List aa) : Prop := ∀ t ∈ L, -1000000 ≤ t.n ∧ t.n ≤ 1000000
theorem sF {L : List aa} (h : gc L) (s : List UInt8) : -1000000 * (L.length : Int) ≤ db L s ∧ db L s ≤ 1000000 * (L.length : Int) := by
 induction L with
 | nil => rw [gR]; exact ⟨by simp, by simp⟩
 | cons t L ih =>
  obtain ⟨i1, i2⟩ := ih (fun u hu => h u (by simp [hu]))
  obtain ⟨h1, h2⟩ := h t (by simp)
  rw [cq, List.length_cons]
  split <;> omega
theorem oU {L : List aa} (h : gc L) (i : Nat) : gc (L.take i) := fun t ht => h t (List.mem_of_mem_take ht)
theorem oV {L L' : List aa} (h : L'.Perm L) (hs : gc L) : gc L' := fun t ht => hs t (h.mem_iff.1 ht)
structure fv (L N : List aa) : Prop where
 srtd : N.Pairwise ltT
 mem : ∀ t, t ∈ N ↔ t.n ≠ 0 ∧ t.n = db L t.name
theorem j1 : ∀ {l l' : List aa}, l.Pairwise ltT → l'.Pairwise ltT → (∀ t, t ∈ l ↔ t ∈ l') → l = l'
 | [], [], _, _, _ => rfl
 | [], b :: l', _, _, h => by have := (h b).2 (by simp); simp at this
 | a :: l, [], _, _, h => by have := (h a).1 (by simp); simp at this
 | a :: l, b :: l', h1, h2, h => by
  rw [List.pairwise_cons] at h1 h2
  have e : a = b := by
   have ha := (h a).1 (by simp)
   have hb := (h b).2 (by simp)
   rw [List.mem_cons] at ha hb
   rcases ha with ha | ha
   ·exact ha
   ·rcases hb with hb | hb
    ·exact hb.symm
    ·exact absurd (h2.1 a ha) (lL (h1.1 b hb))
  subst e
  rw [j1 h1.2 h2.2 fun t => ?_]
  constructor
  ·intro ht
   have := (h t).1 (by simp [ht])
   rw [List.mem_cons] at this
   rcases this with e | e
   ·subst e; exact absurd (h1.1 _ ht) (mn _)
   ·exact e
  ·intro ht
   have := (h t).2 (by simp [ht])
   rw [List.mem_cons] at this
   rcases this with e | e
   ·subst e; exact absurd (h2.1 _ ht) (mn _)
   ·exact e
theorem fv.uniq {L N N' : List aa} (h : fv L N) (h' : fv L N') : N = N' := j1 h.srtd h'.srtd fun t => by rw [h.mem, h'.mem]
theorem fv.perm {L L' N : List aa} (h : fv L N) (hp : L.Perm L') : fv L' N := ⟨h.srtd, fun t => by rw [h.mem, lN hp]⟩
theorem fv.same {L L' N N' : List aa} (h : fv L N) (h' : fv L' N') (e : ∀ s, db L s = db L' s) : N = N' := j1 h.srtd h'.srtd fun t => by rw [h.mem, h'.mem, e]
theorem fv.sum {L N : List aa} (h : fv L N) (s : List UInt8) : db N s = db L s := by
 have hone : ∀ {M : List aa}, M.Pairwise ltT → ∀ t ∈ M, db M t.name = t.n := by
  intro M hM
  induction M with
  | nil => intro t ht; simp at ht
  | cons a M ih =>
   rw [List.pairwise_cons] at hM
   intro t ht
   rw [List.mem_cons] at ht
   rw [cq]
   rcases ht with e | ht
   ·subst e
    rw [iP rfl, jD (fun u hu e => kP (hM.1 u hu) e.symm), Int.add_zero]
   ·rw [iN (kP (hM.1 t ht)), ih hM.2 t ht, Int.zero_add]
 by_cases c : db L s = 0
 ·rw [c]
  refine jD fun u hu e => ?_
  have := (h.mem u).1 hu
  rw [e] at this
  omega
 ·have := (h.mem ⟨db L s, s⟩).2 ⟨c, rfl⟩
  exact hone h.srtd _ this
theorem fv.inj {L L' N : List aa} (h : fv L N) (h' : fv L' N) (s : List UInt8) : db L s = db L' s := by rw [← h.sum, h'.sum]
structure Grp (S R : List aa) : Prop where
 srtd : R.Pairwise ltT
 mem : ∀ t, t ∈ R ↔ (∃ u ∈ S, u.name = t.name) ∧ t.n = db S t.name
theorem Grp.nil : Grp [] [] := ⟨List.Pairwise.nil, fun t => by simp⟩
theorem Grp.app {S R : List aa} (h : Grp S R) {t : aa} (hlt : ∀ u ∈ S, ltT u t) : Grp (S ++ [t]) (R ++ [t]) := by
 have hR : ∀ r ∈ R, ltT r t := fun r hr => by
  obtain ⟨⟨u, hu, e⟩, _⟩ := (h.mem r).1 hr
  exact (pI e).1 (hlt u hu)
 refine ⟨List.pairwise_append.2 ⟨h.srtd, by simp, fun a ha b hb => by simp only [List.mem_singleton] at hb; subst hb; exact hR a ha⟩, fun x => ?_⟩
 rw [List.mem_append, List.mem_singleton, oS, oT, h.mem]
 constructor
 ·rintro (⟨⟨u, hu, e⟩, hx⟩ | e)
  ·have : ¬ t.name = x.name := fun e' => kP (hlt u hu) (e.trans e'.symm)
   rw [iN this, Int.add_zero]
   exact ⟨⟨u, by simp [hu], e⟩, hx⟩
  ·subst e
   rw [iP rfl, jD (fun u hu => kP (hlt u hu)), Int.zero_add]
   exact ⟨⟨x, by simp, rfl⟩, rfl⟩
 ·rintro ⟨⟨u, hu, e⟩, hx⟩
  by_cases c : t.name = x.name
  ·right
   rw [iP c, ← c, jD (fun u hu => kP (hlt u hu)), Int.zero_add] at hx
   cases x; cases t; simp only at hx c; rw [hx, c]
  ·left
   rw [iN c, Int.add_zero] at hx
   rw [List.mem_append, List.mem_singleton] at hu
   rcases hu with hu | hu
   ·exact ⟨⟨u, hu, e⟩, hx⟩
   ·subst hu; exact absurd e c
theorem Grp.add {S R : List aa} {x t : aa} (h : Grp S (R ++ [x])) (e : x.name = t.name) : Grp (S ++ [t]) (R ++ [⟨x.n + t.n, x.name⟩]) := by
 obtain ⟨h1, h2, h3⟩ := List.pairwise_append.1 h.srtd
 have hx := (h.mem x).1 (by simp)
 have hR : ∀ r ∈ R, ltT r x := fun r hr => h3 r hr x (by simp)
 refine ⟨List.pairwise_append.2 ⟨h1, by simp, fun a ha b hb => ?_⟩, fun y => ?_⟩
 ·simp only [List.mem_singleton] at hb
  subst hb
  exact (lM (x := ⟨x.n + t.n, x.name⟩) (y := x) rfl).2 (hR a ha)
 rw [List.mem_append, List.mem_singleton, oS, oT]
 by_cases c : y.name = x.name
 ·rw [iP (by rw [c, e]), c, ← hx.2]
  have hn : y ∉ R := fun hy => kP (hR y hy) c
  constructor
  ·rintro (hy | hy)
   ·exact absurd hy hn
   ·subst hy
    obtain ⟨⟨u, hu, e'⟩, _⟩ := hx
    exact ⟨⟨u, by simp [hu], e'⟩, rfl⟩
  ·rintro ⟨_, hy⟩
   right
   cases y; simp only at hy c; rw [hy, c]
 ·rw [iN (fun e' => c (by rw [e, e'])), Int.add_zero]
  have := h.mem y
  rw [List.mem_append, List.mem_singleton] at this
  have n1 : ¬ y = x := fun e' => c (by rw [e'])
  have n2 : ¬ y = ⟨x.n + t.n, x.name⟩ := fun e' => c (by rw [e'])
  simp only [n1, n2, or_false] at this ⊢
  rw [this]
  constructor
  ·rintro ⟨⟨u, hu, e'⟩, hy⟩; exact ⟨⟨u, by simp [hu], e'⟩, hy⟩
  ·rintro ⟨⟨u, hu, e'⟩, hy⟩
   rw [List.mem_append, List.mem_singleton] at hu
   rcases hu with hu | hu
   ·exact ⟨⟨u, hu, e'⟩, hy⟩
   ·subst hu; exact absurd (by rw [← e', e]) c
theorem Grp.new {S R : List aa} {x t : aa} (h : Grp S (R ++ [x])) (hle : ∀ u ∈ S, leT u t) (e : x.name ≠ t.name) : ∀ u ∈ S, ltT u t := by
 obtain ⟨h1, h2, h3⟩ := List.pairwise_append.1 h.srtd
 have hxt : ltT x t := by
  obtain ⟨⟨u, hu, e'⟩, _⟩ := (h.mem x).1 (by simp)
  have : ¬ ltT t x := fun hh => hle u hu ((lM e').2 hh)
  exact Classical.byContradiction fun hn => e (oe hn this)
 intro u hu
 have hr := (h.mem ⟨db S u.name, u.name⟩).2 ⟨⟨u, hu, rfl⟩, rfl⟩
 rw [List.mem_append, List.mem_singleton] at hr
 rcases hr with hr | hr
 ·exact lK ((pI (y := u) rfl).1 (h3 _ hr x (by simp))) hxt
 ·exact (pI (x := ⟨db S u.name, u.name⟩) (y := u) rfl).1 (by rw [hr]; exact hxt)
theorem Grp.canon {S R : List aa} (h : Grp S R) : fv S (R.filter fun t => !(t.n == 0)) := by
 refine ⟨h.srtd.filter _, fun t => ?_⟩
 rw [List.mem_filter, h.mem]
 simp only [Bool.not_eq_eq_eq_not, Bool.not_true, beq_eq_false_iff_ne, ne_eq]
 constructor
 ·rintro ⟨⟨_, h1⟩, h2⟩; exact ⟨h2, h1⟩
 ·rintro ⟨h1, h2⟩; exact ⟨⟨lk (by rw [← h2]; exact h1), h2⟩, h1⟩
def swF (a b n q : Nat) : Nat := if a ≤ q ∧ q < a + n then q - a + b else if b ≤ q ∧ q < b + n then q - b + a else q
theorem oW (N a b n : Nat) (L0 : List aa) (hl : N = L0.length) (hN : N ≤ 1000000) (hab : a + n ≤ b) (hb : b + n ≤ N) : ∀ (k i : Nat) (L : List aa), i + k = n → L.length = N → (∀ q, tm L q = tm L0 (swF a b i q)) → Pin L0 L a (b + n) →
  ∃ L', aW (fun (x : List aa × Int) => aJ N (a : Int) (b : Int) (n : Int) x.1 x.2) (L, (i : Int)) = some L' ∧ (∀ q, tm L' q = tm L0 (swF a b n q)) ∧ Pin L0 L' a (b + n)
 | 0, i, L, hk, hlen, h, hp => by
  obtain rfl : i = n := by omega
  refine ⟨L, bb ?_, h, hp⟩
  show aJ N (a : Int) (b : Int) (i : Int) L (i : Int) = _
  unfold aJ
  rw [iN (by omega)]
 | k + 1, i, L, hk, hlen, h, hp => by
  have wa : IntKind.wrap .i64 ((a : Int) + (i : Int)) = ((a + i : Nat) : Int) := by rw [wr (by omega) (by omega)]; omega
  have wb : IntKind.wrap .i64 ((b : Int) + (i : Int)) = ((b + i : Nat) : Int) := by rw [wr (by omega) (by omega)]; omega
  have hstep : aJ N (a : Int) (b : Int) (n : Int) L (i : Int) = some (.inl (swp L (a + i) (b + i), ((i + 1 : Nat) : Int))) := by
   unfold aJ
   rw [iP (by omega), wa, wb]
   simp only [tN]
   rw [iP ⟨by omega, by omega, by omega, by omega⟩, wrs i (by omega)]
   rfl
  rw [bu (s := (L, (i : Int))) hstep]
  refine oW N a b n L0 hl hN hab hb k (i + 1) _ (by omega) (by rw [qd]; exact hlen) (fun q => ?_) (hp.trans (mm (by omega) (by omega) (by omega) (by omega)))
  rw [lJ (by omega) (by omega)]
  by_cases e1 : q = b + i
  ·rw [iP e1, h]
   congr 1
   unfold swF
   subst e1
   (repeat' split) <;> omega
  ·rw [iN e1]
   by_cases e2 : q = a + i
   ·rw [iP e2, h]
    congr 1
    unfold swF
    subst e2
    (repeat' split) <;> omega
   ·rw [iN e2, h]
    congr 1
    unfold swF
    (repeat' split) <;> omega
theorem pJ (N a b n : Nat) (L : List aa) (hl : N = L.length) (hN : N ≤ 1000000) (hab : a + n ≤ b) (hb : b + n ≤ N) :
  ∃ L', bo N (a : Int) (b : Int) (n : Int) L = some L' ∧ (∀ q, tm L' q = tm L (swF a b n q)) ∧ Pin L L' a (b + n) := by
 have h0 : ∀ q, swF a b 0 q = q := fun q => by unfold swF; (repeat' split) <;> omega
 obtain ⟨L', e, h, p⟩ := oW N a b n L hl hN hab hb n 0 L (by omega) hl.symm (fun q => by rw [h0]) (Pin.refl _ _ _)
 refine ⟨L', ?_, h, p⟩
 unfold bo
 show (aW (fun (x : List aa × Int) => aJ N (a : Int) (b : Int) (n : Int) x.1 x.2) (L, ((0 : Nat) : Int))).bind _ = _
 rw [e]
 rfl
def roF (s m e q : Nat) : Nat := if s ≤ q ∧ q < s + (e - m) then q - s + m else if s + (e - m) ≤ q ∧ q < e then q - (e - m) else q
theorem mW (N m : Nat) (hN : N ≤ 1000000) : ∀ (k i j : Nat) (L : List aa), i + j ≤ k → 0 < i → 0 < j → i ≤ m → m + j ≤ N → N = L.length →
  ∃ z : List aa × Int, aW (fun (x : List aa × Int × Int) => aD N (m : Int) x.1 x.2.1 x.2.2) (L, (i : Int), (j : Int)) = some z ∧
   ∃ L', bp N (m : Int) z.1 z.2 = some L' ∧ (∀ q, tm L' q = tm L (roF (m - i) m (m + j) q)) ∧ Pin L L' (m - i) (m + j)
 | 0, i, j, L, h, _, _, _, _, _ => by omega
 | k + 1, i, j, L, h, hi, hj, hm, hmj, hl => by
  by_cases e : i = j
  ·subst e
   refine ⟨(L, (i : Int)), bb ?_, ?_⟩
   ·show aD N (m : Int) L (i : Int) (i : Int) = _
    unfold aD
    rw [iN (by omega)]
   ·obtain ⟨L', e', hq, hp⟩ := pJ N (m - i) m i L hl hN (by omega) (by omega)
    refine ⟨L', ?_, fun q => ?_, hp⟩
    ·unfold bp
     have w : IntKind.wrap .i64 ((m : Int) - (i : Int)) = ((m - i : Nat) : Int) := by rw [wr (by omega) (by omega)]; omega
     simp only
     rw [w, e']
     rfl
    ·rw [hq]
     congr 1
     unfold swF roF
     (repeat' split) <;> omega
  ·by_cases g : i > j
   ·obtain ⟨L1, e1, hq1, hp1⟩ := pJ N (m - i) m j L hl hN (by omega) (by omega)
    have hstep : aD N (m : Int) L (i : Int) (j : Int) = some (.inl (L1, ((i - j : Nat) : Int), (j : Int))) := by
     unfold aD
     have w : IntKind.wrap .i64 ((m : Int) - (i : Int)) = ((m - i : Nat) : Int) := by rw [wr (by omega) (by omega)]; omega
     have w2 : IntKind.wrap .i64 ((i : Int) - (j : Int)) = ((i - j : Nat) : Int) := by rw [wr (by omega) (by omega)]; omega
     rw [iP (by omega), iP (by omega), w, e1]
     simp only [bSq]
     rw [w2]
    rw [bu (s := (L, (i : Int), (j : Int))) hstep]
    obtain ⟨z, ez, L', e2, hq2, hp2⟩ := mW N m hN k (i - j) j L1 (by omega) (by omega) hj (by omega) hmj (by rw [hp1.len]; exact hl)
    refine ⟨z, ez, L', e2, fun q => ?_, hp1.trans (hp2.wide (by omega) (by omega))⟩
    rw [hq2, hq1]
    congr 1
    unfold swF roF
    (repeat' split) <;> omega
   ·obtain ⟨L1, e1, hq1, hp1⟩ := pJ N (m - i) (m + j - i) i L hl hN (by omega) (by omega)
    have hstep : aD N (m : Int) L (i : Int) (j : Int) = some (.inl (L1, (i : Int), ((j - i : Nat) : Int))) := by
     unfold aD
     have w : IntKind.wrap .i64 ((m : Int) - (i : Int)) = ((m - i : Nat) : Int) := by rw [wr (by omega) (by omega)]; omega
     have w2 : IntKind.wrap .i64 ((j : Int) - (i : Int)) = ((j - i : Nat) : Int) := by rw [wr (by omega) (by omega)]; omega
     have w3 : IntKind.wrap .i64 (IntKind.wrap .i64 ((m : Int) + (j : Int)) - (i : Int)) = ((m + j - i : Nat) : Int) := by rw [wr (n := (m : Int) + (j : Int)) (by omega) (by omega), wr (by omega) (by omega)]; omega
     rw [iP (by omega), iN (by omega), w, w3, e1]
     simp only [bSq]
     rw [w2]
    rw [bu (s := (L, (i : Int), (j : Int))) hstep]
    obtain ⟨z, ez, L', e2, hq2, hp2⟩ := mW N m hN k i (j - i) L1 (by omega) hi (by omega) hm (by omega) (by rw [hp1.len]; exact hl)
    refine ⟨z, ez, L', e2, fun q => ?_, (hp1.wide (Nat.le_refl _) (by omega)).trans (hp2.wide (by omega) (by omega))⟩
    rw [hq2, hq1]
    congr 1
    unfold swF roF
    (repeat' split) <;> omega
theorem tq (N s m e : Nat) (L : List aa) (hl : N = L.length) (hN : N ≤ 1000000) (h1 : s < m) (h2 : m < e) (h3 : e ≤ N) :
  ∃ L', cg N (s : Int) (m : Int) (e : Int) L = some L' ∧ (∀ q, tm L' q = tm L (roF s m e q)) ∧ Pin L L' s e := by
 obtain ⟨z, ez, L', e2, hq, hp⟩ := mW N m hN (m - s + (e - m)) (m - s) (e - m) L (Nat.le_refl _) (by omega) (by omega) (by omega) (by omega) hl
 rw [show m - (m - s) = s by omega, show m + (e - m) = e by omega] at hp
 refine ⟨L', ?_, fun q => ?_, hp⟩
 ·unfold cg
  have w : IntKind.wrap .i64 ((m : Int) - (s : Int)) = ((m - s : Nat) : Int) := by rw [wr (by omega) (by omega)]; omega
  have w2 : IntKind.wrap .i64 ((e : Int) - (m : Int)) = ((e - m : Nat) : Int) := by rw [wr (by omega) (by omega)]; omega
  rw [w, w2]
  show (aW (fun (x : List aa × Int × Int) => aD N (m : Int) x.1 x.2.1 x.2.2) (L, ((m - s : Nat) : Int), ((e - m : Nat) : Int))).bind _ = _
  rw [ez]
  exact e2
 ·rw [hq, show m - (m - s) = s by omega, show m + (e - m) = e by omega]
theorem ll (i j : Nat) (h : i + j ≤ 9000000) : IntKind.wrap .i64 ((IntKind.wrap .u64 (IntKind.wrap .i64 ((i : Int) + (j : Int)))).fdiv (2 ^ (min 1 (IntKind.bits .u64)))) = (((i + j) / 2 : Nat) : Int) := by
 have e1 : IntKind.wrap .u64 (IntKind.wrap .i64 ((i : Int) + (j : Int))) = ((i + j : Nat) : Int) := by rw [wr (by omega) (by omega), IntKind.wrap_u64]; omega
 have e2 : ((i + j : Nat) : Int).fdiv (2 ^ (min 1 (IntKind.bits .u64))) = (((i + j) / 2 : Nat) : Int) := by
  show ((i + j : Nat) : Int).fdiv (2 ^ 1) = _
  rw [Int.fdiv_eq_ediv_of_nonneg _ (by decide)]
  omega
 rw [e1, e2, wr (by omega) (by omega)]
theorem lm {body : Int × Int → Option ((Int × Int) ⊕ Int)} (P : Nat → Prop) (lo hi : Nat)
  (hs : ∀ i j : Nat, lo ≤ i → i < j → j ≤ hi → (P ((i + j) / 2) ∧ body ((i : Int), (j : Int)) = some (.inl ((((i + j) / 2 + 1 : Nat) : Int), (j : Int)))) ∨ (¬ P ((i + j) / 2) ∧ body ((i : Int), (j : Int)) = some (.inl ((i : Int), (((i + j) / 2 : Nat) : Int)))))
  (he : ∀ i : Nat, body ((i : Int), (i : Int)) = some (.inr (i : Int))) : ∀ (k i j : Nat), j - i ≤ k → lo ≤ i → i ≤ j → j ≤ hi → (i = lo ∨ P (i - 1)) → (j = hi ∨ ¬ P j) →
  ∃ s : Nat, aW body ((i : Int), (j : Int)) = some (s : Int) ∧ lo ≤ s ∧ s ≤ hi ∧ (s = lo ∨ P (s - 1)) ∧ (s = hi ∨ ¬ P s)
 | 0, i, j, hk, h1, h2, h3, h4, h5 => by
  obtain rfl : i = j := by omega
  exact ⟨i, bb (he i), h1, h3, h4, h5⟩
 | k + 1, i, j, hk, h1, h2, h3, h4, h5 => by
  by_cases e : i = j
  ·subst e
   exact ⟨i, bb (he i), h1, h3, h4, h5⟩
  ·rcases hs i j h1 (by omega) h3 with ⟨hp, hb⟩ | ⟨hp, hb⟩
   ·rw [bu hb]
    exact lm P lo hi hs he k _ j (by omega) (by omega) (by omega) h3 (.inr (by rw [Nat.add_sub_cancel]; exact hp)) h5
   ·rw [bu hb]
    exact lm P lo hi hs he k i _ (by omega) h1 (by omega) (by omega) h4 (.inr hp)
def Mrg (N : Nat) (rcf : Nat → Int → Int → Int → List aa → Option (List aa)) (d : Nat) : Prop :=
 ∀ (a m b : Nat) (L : List aa), b - a ≤ d → a < m → m < b → b ≤ N → N = L.length → srt L a m → srt L m b → ∃ L', rcf N (a : Int) (m : Int) (b : Int) L = some L' ∧ Pin L L' a b ∧ srt L' a b
theorem sG (N a b : Nat) (hN : N ≤ 1000000) (L : List aa) (hab : a + 1 < b) (hb : b ≤ N) (hl : N = L.length) (hs : srt L (a + 1) b) :
  ∃ L', ((aW (fun (x : Int × Int) => aQ N (a : Int) L x.1 x.2) (((a + 1 : Nat) : Int), (b : Int))).bind (fun z60 => bi N (a : Int) L z60)) = some L' ∧ Pin L L' a b ∧ srt L' a b := by
 obtain ⟨s, e1, s1, s2, s3, s4⟩ := lm (body := fun x => aQ N (a : Int) L x.1 x.2) (fun h => ltT (tm L h) (tm L a)) (a + 1) b
  (fun i j h1 h2 h3 => by
   obtain ⟨c, hc, hcl⟩ := od (tm L ((i + j) / 2)) (tm L a)
   unfold tm at hc
   have hstep : aQ N (a : Int) L (i : Int) (j : Int) = if c < 0 then some (.inl ((((i + j) / 2 + 1 : Nat) : Int), (j : Int))) else some (.inl ((i : Int), (((i + j) / 2 : Nat) : Int))) := by
    unfold aQ
    rw [iP (by omega), ll i j (by omega)]
    simp only [tN]
    rw [iP ⟨by omega, by omega, by omega, by omega⟩, hc]
    simp only [bSq]
    rw [wrs _ (by omega)]
   by_cases hlt : c < 0
   ·rw [iP hlt] at hstep; exact .inl ⟨hcl.1 hlt, hstep⟩
   ·rw [iN hlt] at hstep; exact .inr ⟨fun h => hlt (hcl.2 h), hstep⟩)
  (fun i => by
   show aQ N (a : Int) L (i : Int) (i : Int) = _
   unfold aQ
   rw [iN (by omega)]) (b - (a + 1)) (a + 1) b (Nat.le_refl _) (Nat.le_refl _) (by omega) (Nat.le_refl _) (.inl rfl) (.inl rfl)
 rw [e1]
 simp only [bSq]
 unfold bi
 have walk : ∀ (k i : Nat) (L1 : List aa), i + k = s - 1 → a ≤ i → Pin L L1 a b → (∀ q, tm L1 q = if a ≤ q ∧ q < i then tm L (q + 1) else if q = i then tm L a else tm L q) →
   ∃ L2, aW (fun (x : List aa × Int) => aP N (s : Int) x.1 x.2) (L1, (i : Int)) = some L2 ∧ Pin L L2 a b ∧ (∀ q, tm L2 q = if a ≤ q ∧ q < s - 1 then tm L (q + 1) else if q = s - 1 then tm L a else tm L q) := by
  intro k
  induction k with
  | zero =>
   intro i L1 hk ha hp hq
   obtain rfl : i = s - 1 := by omega
   refine ⟨L1, bb ?_, hp, hq⟩
   show aP N (s : Int) L1 ((s - 1 : Nat) : Int) = _
   unfold aP
   rw [wr (by omega) (by omega), iN (by omega)]
  | succ k ih =>
   intro i L1 hk ha hp hq
   have hl1 : L1.length = N := by rw [hp.len]; exact hl.symm
   have hstep : aP N (s : Int) L1 (i : Int) = some (.inl (swp L1 i (i + 1), ((i + 1 : Nat) : Int))) := by
    unfold aP
    rw [wr (n := (s : Int) - 1) (by omega) (by omega), iP (by omega), wrs i (by omega)]
    simp only [tN]
    rw [iP ⟨by omega, by omega, by omega, by omega⟩]
    rfl
   rw [bu (s := (L1, (i : Int))) hstep]
   refine ih (i + 1) _ (by omega) (by omega) (hp.trans (mm (by omega) (by omega) (by omega) (by omega))) fun q => ?_
   rw [lJ (by omega) (by omega), hq i, hq (i + 1), hq q]
   by_cases c1 : q = i + 1
   ·rw [iP c1, iN (by omega), iP rfl, iN (by omega), iP c1]
   ·rw [iN c1]
    by_cases c2 : q = i
    ·rw [iP c2, iN (by omega), iN (by omega), iP (by omega), c2]
    ·rw [iN c2]
     by_cases c3 : a ≤ q ∧ q < i
     ·rw [iP c3, iP (by omega)]
     ·rw [iN c3, iN c2, iN (by omega), iN c1]
 obtain ⟨L2, e2, p2, q2⟩ := walk (s - 1 - a) a L (by omega) (Nat.le_refl _) (Pin.refl _ _ _) (fun q => by
  rw [iN (by omega)]
  by_cases c : q = a
  ·rw [iP c, c]
  ·rw [iN c])
 refine ⟨L2, ?_, p2, fun p q h1 h2 h3 => ?_⟩
 ·show (aW (fun (x : List aa × Int) => aP N (s : Int) x.1 x.2) (L, (a : Int))).bind _ = _
  rw [e2]
  rfl
 ·have below : ∀ q, a + 1 ≤ q → q < s → leT (tm L q) (tm L a) := fun q h1 h2 => by
   rcases s3 with h | h
   ·omega
   ·by_cases e : q = s - 1
    ·rw [e]; exact lI h
    ·exact eJ (hs q (s - 1) h1 (by omega) (by omega)) (lI h)
  have above : ∀ q, s ≤ q → q < b → leT (tm L a) (tm L q) := fun q h1 h2 => by
   rcases s4 with h | h
   ·omega
   ·by_cases e : q = s
    ·rw [e]; exact h
    ·exact eJ h (hs s q s1 (by omega) h2)
  rw [q2 p, q2 q]
  by_cases c1 : a ≤ p ∧ p < s - 1
  ·rw [iP c1]
   by_cases c2 : a ≤ q ∧ q < s - 1
   ·rw [iP c2]; exact hs _ _ (by omega) (by omega) (by omega)
   ·rw [iN c2]
    by_cases c3 : q = s - 1
    ·rw [iP c3]; exact below _ (by omega) (by omega)
    ·rw [iN c3]; exact hs _ _ (by omega) (by omega) h3
  ·rw [iN c1]
   by_cases c3 : p = s - 1
   ·rw [iP c3, iN (by omega), iN (by omega)]; exact above _ (by omega) h3
   ·rw [iN c3, iN (by omega), iN (by omega)]; exact hs _ _ (by omega) h2 h3
theorem rI (N a m : Nat) (hN : N ≤ 1000000) (L : List aa) (ham : a < m) (hb : m + 1 ≤ N) (hl : N = L.length) (hs : srt L a m) :
  ∃ L', ((aW (fun (x : Int × Int) => aO N (m : Int) L x.1 x.2) ((a : Int), (m : Int))).bind (fun z39 => bh N (m : Int) L z39)) = some L' ∧ Pin L L' a (m + 1) ∧ srt L' a (m + 1) := by
 obtain ⟨s, e1, s1, s2, s3, s4⟩ := lm (body := fun x => aO N (m : Int) L x.1 x.2) (fun h => ¬ ltT (tm L m) (tm L h)) a m
  (fun i j h1 h2 h3 => by
   obtain ⟨c, hc, hcl⟩ := od (tm L m) (tm L ((i + j) / 2))
   unfold tm at hc
   have hstep : aO N (m : Int) L (i : Int) (j : Int) = if c < 0 then some (.inl ((i : Int), (((i + j) / 2 : Nat) : Int))) else some (.inl ((((i + j) / 2 + 1 : Nat) : Int), (j : Int))) := by
    unfold aO
    rw [iP (by omega), ll i j (by omega)]
    simp only [tN]
    rw [iP ⟨by omega, by omega, by omega, by omega⟩, hc]
    simp only [bSq]
    rw [wrs _ (by omega)]
   by_cases hlt : c < 0
   ·rw [iP hlt] at hstep; exact .inr ⟨not_not_intro (hcl.1 hlt), hstep⟩
   ·rw [iN hlt] at hstep; exact .inl ⟨fun h => hlt (hcl.2 h), hstep⟩)
  (fun i => by
   show aO N (m : Int) L (i : Int) (i : Int) = _
   unfold aO
   rw [iN (by omega)]) (m - a) a m (Nat.le_refl _) (Nat.le_refl _) (by omega) (Nat.le_refl _) (.inl rfl) (.inl rfl)
 rw [e1]
 simp only [bSq]
 unfold bh
 have walk : ∀ (k i : Nat) (L1 : List aa), i = s + k → i ≤ m → Pin L L1 a (m + 1) → (∀ q, tm L1 q = if i < q ∧ q ≤ m then tm L (q - 1) else if q = i then tm L m else tm L q) →
   ∃ L2, aW (fun (x : List aa × Int) => aN N (s : Int) x.1 x.2) (L1, (i : Int)) = some L2 ∧ Pin L L2 a (m + 1) ∧ (∀ q, tm L2 q = if s < q ∧ q ≤ m then tm L (q - 1) else if q = s then tm L m else tm L q) := by
  intro k
  induction k with
  | zero =>
   intro i L1 hk ha hp hq
   obtain rfl : i = s := by omega
   refine ⟨L1, bb ?_, hp, hq⟩
   show aN N (i : Int) L1 (i : Int) = _
   unfold aN
   rw [iN (by omega)]
  | succ k ih =>
   intro i L1 hk ha hp hq
   have hl1 : L1.length = N := by rw [hp.len]; exact hl.symm
   have w : IntKind.wrap .i64 ((i : Int) - 1) = ((i - 1 : Nat) : Int) := by rw [wr (by omega) (by omega)]; omega
   have hstep : aN N (s : Int) L1 (i : Int) = some (.inl (swp L1 i (i - 1), ((i - 1 : Nat) : Int))) := by
    unfold aN
    rw [iP (by omega), w]
    simp only [tN]
    rw [iP ⟨by omega, by omega, by omega, by omega⟩]
    rfl
   rw [bu (s := (L1, (i : Int))) hstep]
   refine ih (i - 1) _ (by omega) (by omega) (hp.trans (mm (by omega) (by omega) (by omega) (by omega))) fun q => ?_
   rw [lJ (by omega) (by omega), hq i, hq (i - 1), hq q]
   by_cases c1 : q = i - 1
   ·rw [iP c1, iN (by omega), iP rfl, iN (by omega), iP c1]
   ·rw [iN c1]
    by_cases c2 : q = i
    ·rw [iP c2, iN (by omega), iN (by omega), iP (by omega), c2]
    ·rw [iN c2]
     by_cases c3 : i < q ∧ q ≤ m
     ·rw [iP c3, iP (by omega)]
     ·rw [iN c3, iN c2, iN (by omega), iN c1]
 obtain ⟨L2, e2, p2, q2⟩ := walk (m - s) m L (by omega) (Nat.le_refl _) (Pin.refl _ _ _) (fun q => by
  rw [iN (by omega)]
  by_cases c : q = m
  ·rw [iP c, c]
  ·rw [iN c])
 refine ⟨L2, ?_, p2, fun p q h1 h2 h3 => ?_⟩
 ·show (aW (fun (x : List aa × Int) => aN N (s : Int) x.1 x.2) (L, (m : Int))).bind _ = _
  rw [e2]
  rfl
 ·have below : ∀ q, a ≤ q → q < s → leT (tm L q) (tm L m) := fun q h1 h2 => by
   rcases s3 with h | h
   ·omega
   ·by_cases e : q = s - 1
    ·rw [e]; exact h
    ·exact eJ (hs q (s - 1) h1 (by omega) (by omega)) h
  have above : ∀ q, s ≤ q → q < m → leT (tm L m) (tm L q) := fun q h1 h2 => by
   rcases s4 with h | h
   ·omega
   ·have h' : leT (tm L m) (tm L s) := lI (Classical.not_not.1 h)
    by_cases e : q = s
    ·rw [e]; exact h'
    ·exact eJ h' (hs s q s1 (by omega) h2)
  rw [q2 p, q2 q]
  by_cases c1 : s < q ∧ q ≤ m
  ·rw [iP c1]
   by_cases c2 : s < p ∧ p ≤ m
   ·rw [iP c2]; exact hs _ _ (by omega) (by omega) (by omega)
   ·rw [iN c2]
    by_cases c3 : p = s
    ·rw [iP c3]; exact above _ (by omega) (by omega)
    ·rw [iN c3]; exact hs _ _ h1 (by omega) (by omega)
  ·rw [iN c1]
   by_cases c3 : q = s
   ·rw [iP c3, iN (by omega), iN (by omega)]; exact below _ h1 (by omega)
   ·rw [iN c3, iN (by omega), iN (by omega)]; exact hs _ _ h1 h2 (by omega)
theorem sH (m e q : Nat) : roF m m e q = q := by unfold roF; (repeat' split) <;> omega
theorem sK (s m q : Nat) : roF s m m q = q := by unfold roF; (repeat' split) <;> omega
theorem rJ {N d : Nat} {rcf : Nat → Int → Int → Int → List aa → Option (List aa)} (hr : Mrg N rcf d) (hN : N ≤ 1000000) {a m b s M e : Nat} {L0 L : List aa}
  (hM : M = (a + b) / 2) (he : e + s = M + m) (ha : a ≤ s) (hsM : s ≤ M) (hMe : M ≤ e) (heb : e ≤ b) (haM : a < M) (hMb : M < b) (hb : b ≤ N) (hm : m ≤ N) (hd1 : M - a ≤ d) (hd2 : b - M ≤ d) (hl : N = L.length) (hp : Pin L0 L a b)
  (h1 : srt L a s) (h2 : srt L s M) (h3 : srt L M e) (h4 : srt L e b) (h5 : ∀ p q, a ≤ p → p < M → M ≤ q → q < b → leT (tm L p) (tm L q)) :
  ∃ L', aL rcf N (a : Int) (m : Int) (b : Int) (s : Int) L = some L' ∧ Pin L0 L' a b ∧ srt L' a b := by
 have eM : IntKind.wrap .i64 ((IntKind.wrap .u64 (IntKind.wrap .i64 ((a : Int) + (b : Int)))).fdiv (2 ^ (min 1 (IntKind.bits .u64)))) = (M : Int) := by rw [ll a b (by omega), hM]
 have ee : IntKind.wrap .i64 (IntKind.wrap .i64 ((M : Int) + (m : Int)) - (s : Int)) = (e : Int) := by rw [wr (n := (M : Int) + (m : Int)) (by omega) (by omega), wr (by omega) (by omega)]; omega
 have right : ∀ L2, N = L2.length → Pin L0 L2 a b → srt L2 a M → (∀ q, M ≤ q → q < b → tm L2 q = tm L q) → (∀ p q, a ≤ p → p < M → M ≤ q → q < b → leT (tm L2 p) (tm L q)) →
   ∃ L', aZ rcf N (a : Int) (m : Int) (b : Int) (s : Int) L2 = some L' ∧ Pin L0 L' a b ∧ srt L' a b := by
  intro L2 hl2 hp2 hs2 heq hcr
  have g3 : srt L2 M e := fun p q k1 k2 k3 => by rw [heq p k1 (by omega), heq q (by omega) (by omega)]; exact h3 p q k1 k2 k3
  have g4 : srt L2 e b := fun p q k1 k2 k3 => by rw [heq p (by omega) (by omega), heq q (by omega) k3]; exact h4 p q k1 k2 k3
  have fin : ∀ L3, Pin L2 L3 M b → srt L3 M b → Pin L0 L3 a b ∧ srt L3 a b := by
   intro L3 hp3 hs3
   refine ⟨hp2.trans (hp3.wide (by omega) (Nat.le_refl _)), fun p q k1 k2 k3 => ?_⟩
   by_cases c1 : q < M
   ·rw [hp3.out p (.inl (by omega)), hp3.out q (.inl c1)]
    exact hs2 p q k1 k2 c1
   ·by_cases c2 : p < M
    ·rw [hp3.out p (.inl c2)]
     exact hp3.cl (fun x => leT (tm L2 p) x) (fun i k4 k5 => by rw [heq i k4 k5]; exact hcr p i k1 c2 k4 k5) q (by omega) k3
    ·exact hs3 p q (by omega) k2 k3
  unfold aZ
  rw [eM, ee]
  by_cases c1 : M < e
  ·rw [iP (by omega)]
   by_cases c2 : e < b
   ·rw [iP (by omega)]
    obtain ⟨L3, e3, p3, s3⟩ := hr M e b L2 hd2 c1 c2 hb hl2 g3 g4
    rw [e3]
    exact ⟨L3, rfl, fin L3 p3 s3⟩
   ·rw [iN (by omega)]
    obtain rfl : e = b := by omega
    exact ⟨L2, rfl, fin L2 (Pin.refl _ _ _) g3⟩
  ·rw [iN (by omega)]
   obtain rfl : M = e := by omega
   exact ⟨L2, rfl, fin L2 (Pin.refl _ _ _) g4⟩
 unfold aL
 rw [eM]
 by_cases c1 : a < s
 ·rw [iP (by omega)]
  by_cases c2 : s < M
  ·rw [iP (by omega)]
   obtain ⟨L2, e2, p2, s2⟩ := hr a s M L hd1 c1 c2 (by omega) hl h1 h2
   rw [e2]
   simp only [bSq]
   exact right L2 (by rw [p2.len]; exact hl) (hp.trans (p2.wide (Nat.le_refl _) (by omega))) s2 (fun q k1 k2 => p2.out q (.inr k1))
    (fun p q k1 k2 k3 k4 => p2.cl (fun x => leT x (tm L q)) (fun i k5 k6 => h5 i q k5 k6 k3 k4) p k1 k2)
  ·rw [iN (by omega)]
   obtain rfl : s = M := by omega
   exact right L hl hp h1 (fun _ _ _ => rfl) h5
 ·rw [iN (by omega)]
  obtain rfl : a = s := by omega
  exact right L hl hp h2 (fun _ _ _ => rfl) h5
set_option maxHeartbeats 4000000 in
theorem rK (N d : Nat) (hN : N ≤ 1000000) (rcf : Nat → Int → Int → Int → List aa → Option (List aa)) (hr : Mrg N rcf d) : Mrg N (bP rcf) (d + 1) := by
 intro a m b L hd ham hmb hb hl hs1 hs2
 unfold bP
 have w1 : IntKind.wrap .i64 ((m : Int) - (a : Int)) = ((m - a : Nat) : Int) := by rw [wr (by omega) (by omega)]; omega
 rw [w1]
 by_cases c1 : m = a + 1
 ·subst c1
  rw [iP (by omega)]
  exact sG N a b hN L hmb hb hl hs2
 rw [iN (by omega)]
 unfold bK
 have w2 : IntKind.wrap .i64 ((b : Int) - (m : Int)) = ((b - m : Nat) : Int) := by rw [wr (by omega) (by omega)]; omega
 rw [w2]
 by_cases c2 : b = m + 1
 ·subst c2
  rw [iP (by omega)]
  exact rI N a m hN L ham hb hl hs1
 rw [iN (by omega)]
 unfold bI
 obtain ⟨M, hM⟩ : ∃ M, M = (a + b) / 2 := ⟨_, rfl⟩
 have eM : IntKind.wrap .i64 ((IntKind.wrap .u64 (IntKind.wrap .i64 ((a : Int) + (b : Int)))).fdiv (2 ^ (min 1 (IntKind.bits .u64)))) = (M : Int) := by rw [ll a b (by omega), hM]
 have en : IntKind.wrap .i64 ((M : Int) + (m : Int)) = ((M + m : Nat) : Int) := by rw [wr (by omega) (by omega)]; omega
 have j3 : ∀ lo hi : Nat, (lo = a ∧ hi = m ∧ m ≤ M) ∨ (lo + b = M + m ∧ hi = M ∧ M < m) → ∃ L', bg rcf N (a : Int) (m : Int) (b : Int) L (lo : Int) (hi : Int) = some L' ∧ Pin L L' a b ∧ srt L' a b := by
  intro lo hi hlh
  have ep : IntKind.wrap .i64 (((M + m : Nat) : Int) - 1) = ((M + m - 1 : Nat) : Int) := by rw [wr (by omega) (by omega)]; omega
  obtain ⟨s, e1, s1, s2, s3, s4⟩ := lm (body := fun x => aM N (a : Int) (m : Int) (b : Int) L x.1 x.2) (fun c => ¬ ltT (tm L (M + m - 1 - c)) (tm L c)) lo hi
   (fun i j h1 h2 h3 => by
    obtain ⟨c, hc, hcl⟩ := od (tm L (M + m - 1 - (i + j) / 2)) (tm L ((i + j) / 2))
    unfold tm at hc
    have epc : IntKind.wrap .i64 (((M + m - 1 : Nat) : Int) - (((i + j) / 2 : Nat) : Int)) = ((M + m - 1 - (i + j) / 2 : Nat) : Int) := by rw [wr (by omega) (by omega)]; omega
    have hstep : aM N (a : Int) (m : Int) (b : Int) L (i : Int) (j : Int) = if c < 0 then some (.inl ((i : Int), (((i + j) / 2 : Nat) : Int))) else some (.inl ((((i + j) / 2 + 1 : Nat) : Int), (j : Int))) := by
     unfold aM
     rw [iP (by omega), eM, en, ep, ll i j (by omega), epc]
     simp only [tN]
     rw [iP ⟨by omega, by omega, by omega, by omega⟩, hc]
     simp only [bSq]
     rw [wrs _ (by omega)]
    by_cases hlt : c < 0
    ·rw [iP hlt] at hstep; exact .inr ⟨not_not_intro (hcl.1 hlt), hstep⟩
    ·rw [iN hlt] at hstep; exact .inl ⟨fun h => hlt (hcl.2 h), hstep⟩)
   (fun i => by
    show aM N (a : Int) (m : Int) (b : Int) L (i : Int) (i : Int) = _
    unfold aM
    rw [iN (by omega)]) (hi - lo) lo hi (Nat.le_refl _) (Nat.le_refl _) (by omega) (Nat.le_refl _) (.inl rfl) (.inl rfl)
  unfold bg
  show ∃ L', (aW (fun (x : Int × Int) => aM N (a : Int) (m : Int) (b : Int) L x.1 x.2) ((lo : Int), (hi : Int))).bind _ = some L' ∧ _
  rw [e1]
  simp only [bSq]
  obtain ⟨e, he⟩ : ∃ e, e = M + m - s := ⟨_, rfl⟩
  have b1 : a ≤ s ∧ s ≤ m ∧ s ≤ M ∧ M ≤ e ∧ m ≤ e ∧ e ≤ b := by omega
  obtain ⟨b1, b2, b3, b4, b5, b6⟩ := b1
  have ee : IntKind.wrap .i64 (((M + m : Nat) : Int) - (s : Int)) = (e : Int) := by rw [wr (by omega) (by omega)]; omega
  have f1 : s = lo ∨ leT (tm L (s - 1)) (tm L e) := by
   rcases s3 with h | h
   ·exact .inl h
   ·by_cases c : s = lo
    ·exact .inl c
    ·right; rw [show M + m - 1 - (s - 1) = e by omega] at h; exact h
  have f2 : s = hi ∨ ltT (tm L (e - 1)) (tm L s) := by
   rcases s4 with h | h
   ·exact .inl h
   ·right; rw [show M + m - 1 - s = e - 1 by omega] at h; exact Classical.not_not.1 h
  have rot : ∃ L1, bf rcf N (a : Int) (m : Int) (b : Int) L (s : Int) = aL rcf N (a : Int) (m : Int) (b : Int) (s : Int) L1 ∧ (∀ q, tm L1 q = tm L (roF s m e q)) ∧ Pin L L1 a b := by
   unfold bf
   rw [eM, en, ee]
   by_cases d1 : s < m
   ·rw [iP (by omega)]
    by_cases d2 : m < e
    ·rw [iP (by omega)]
     obtain ⟨L1, e2, hq, hp⟩ := tq N s m e L hl hN d1 d2 (by omega)
     rw [e2]
     exact ⟨L1, rfl, hq, hp.wide (by omega) (by omega)⟩
    ·rw [iN (by omega)]
     obtain rfl : m = e := by omega
     exact ⟨L, rfl, fun q => by rw [sK], Pin.refl _ _ _⟩
   ·rw [iN (by omega)]
    obtain rfl : s = m := by omega
    exact ⟨L, rfl, fun q => by rw [sH], Pin.refl _ _ _⟩
  obtain ⟨L1, eL1, hq, hp⟩ := rot
  rw [eL1]
  have q1 : ∀ q, q < s → tm L1 q = tm L q := fun q h => by rw [hq]; congr 1; unfold roF; (repeat' split) <;> omega
  have q2 : ∀ q, s ≤ q → q < M → tm L1 q = tm L (q - s + m) := fun q h h' => by rw [hq]; congr 1; unfold roF; (repeat' split) <;> omega
  have q3 : ∀ q, M ≤ q → q < e → tm L1 q = tm L (q - (e - m)) := fun q h h' => by rw [hq]; congr 1; unfold roF; (repeat' split) <;> omega
  have q4 : ∀ q, e ≤ q → tm L1 q = tm L q := fun q h => by rw [hq]; congr 1; unfold roF; (repeat' split) <;> omega
  refine rJ hr hN hM (by omega) b1 b3 b4 b6 (by omega) (by omega) hb (by omega) (by omega) (by omega) (by rw [hp.len]; exact hl) hp
   (fun p q k1 k2 k3 => by rw [q1 p (by omega), q1 q k3]; exact hs1 p q k1 k2 (by omega))
   (fun p q k1 k2 k3 => by rw [q2 p k1 (by omega), q2 q (by omega) k3]; exact hs2 _ _ (by omega) (by omega) (by omega))
   (fun p q k1 k2 k3 => by rw [q3 p k1 (by omega), q3 q (by omega) k3]; exact hs1 _ _ (by omega) (by omega) (by omega))
   (fun p q k1 k2 k3 => by rw [q4 p k1, q4 q (by omega)]; exact hs2 _ _ (by omega) k2 k3) ?_
  have x1 : ∀ x y, a ≤ x → x < s → e ≤ y → y < b → leT (tm L x) (tm L y) := by
   intro x y k1 k2 k3 k4
   rcases f1 with h | h
   ·omega
   ·have g1 : leT (tm L x) (tm L (s - 1)) := by
     by_cases c : x = s - 1
     ·rw [c]; exact jZ _
     ·exact hs1 x (s - 1) k1 (by omega) (by omega)
    have g2 : leT (tm L e) (tm L y) := by
     by_cases c : y = e
     ·rw [c]; exact jZ _
     ·exact hs2 e y (by omega) (by omega) k4
    exact eJ g1 (eJ h g2)
  have x2 : ∀ x y, m ≤ x → x < e → s ≤ y → y < m → leT (tm L x) (tm L y) := by
   intro x y k1 k2 k3 k4
   rcases f2 with h | h
   ·omega
   ·have g1 : leT (tm L x) (tm L (e - 1)) := by
     by_cases c : x = e - 1
     ·rw [c]; exact jZ _
     ·exact hs2 x (e - 1) k1 (by omega) (by omega)
    have g2 : leT (tm L s) (tm L y) := by
     by_cases c : y = s
     ·rw [c]; exact jZ _
     ·exact hs1 s y (by omega) (by omega) k4
    exact eJ g1 (eJ (lI h) g2)
  intro p q k1 k2 k3 k4
  by_cases c3 : p < s
  ·rw [q1 p c3]
   by_cases c4 : q < e
   ·rw [q3 q k3 c4]; exact hs1 _ _ k1 (by omega) (by omega)
   ·rw [q4 q (by omega)]; exact x1 p q k1 c3 (by omega) k4
  ·rw [q2 p (by omega) k2]
   by_cases c4 : q < e
   ·rw [q3 q k3 c4]; exact x2 _ _ (by omega) (by omega) (by omega) (by omega)
   ·rw [q4 q (by omega)]; exact hs2 _ _ (by omega) (by omega) k4
 rw [eM, en]
 by_cases c3 : M < m
 ·rw [iP (by omega)]
  have es : IntKind.wrap .i64 (((M + m : Nat) : Int) - (b : Int)) = ((M + m - b : Nat) : Int) := by rw [wr (by omega) (by omega)]; omega
  rw [es]
  exact j3 _ _ (.inr ⟨by omega, rfl, c3⟩)
 ·rw [iN (by omega)]
  exact j3 _ _ (.inl ⟨rfl, rfl, by omega⟩)
theorem oh (N : Nat) (hN : N ≤ 1000000) : ∀ fuel, Mrg N (bl fuel) fuel
 | 0 => fun a m b L h1 h2 h3 => by omega
 | fuel + 1 => rK N fuel hN _ (oh N hN fuel)
theorem ln {L L' : List aa} {a b c d : Nat} (h : Pin L L' a b) (hd : d ≤ a ∨ b ≤ c) (hs : srt L c d) : srt L' c d := fun p q h1 h2 h3 => by
 rw [h.out p (by omega), h.out q (by omega)]
 exact hs p q h1 h2 h3
def bks (L : List aa) (B n j0 : Nat) : Prop := ∀ j, j0 ≤ j → srt L (j * B) (min (j * B + B) n)
def bkd (L : List aa) (B k : Nat) : Prop := ∀ j, j < k → srt L (j * B) (j * B + B)
theorem qO {j k B : Nat} (h : j < k) : j * B + B ≤ k * B := by
 have := Nat.mul_le_mul_right B (show j + 1 ≤ k from h)
 rw [Nat.add_mul, Nat.one_mul] at this
 exact this
theorem rL (N : Nat) (hN : N ≤ 1000000) (L0 : List aa) (hl0 : L0.length = N) : ∀ (t k : Nat) (L : List aa), N ≤ k * 20 + t → L.length = N → k * 20 ≤ N → bkd L 20 k →
  ∃ L' k', aW (fun (x : List aa × Int × Int) => aF (N : Int) L0 x.1 x.2.1 x.2.2) (L, ((k * 20 : Nat) : Int), ((k * 20 + 20 : Nat) : Int)) = some (L', ((k' * 20 : Nat) : Int)) ∧
   Pin L L' 0 N ∧ bkd L' 20 k' ∧ k' * 20 ≤ N ∧ N < k' * 20 + 20
 | 0, k, L, ht, hl, hk, hb => by
  refine ⟨L, k, bb ?_, Pin.refl _ _ _, hb, hk, by omega⟩
  show aF (N : Int) L0 L ((k * 20 : Nat) : Int) ((k * 20 + 20 : Nat) : Int) = _
  unfold aF
  rw [iN (by omega)]
 | t + 1, k, L, ht, hl, hk, hb => by
  by_cases c : k * 20 + 20 ≤ N
  ·obtain ⟨L1, e1, p1, s1⟩ := rH N (k * 20) (k * 20 + 20) L (by omega) c hN hl.symm
   have hstep : aF (N : Int) L0 L ((k * 20 : Nat) : Int) ((k * 20 + 20 : Nat) : Int) = some (.inl (L1, (((k + 1) * 20 : Nat) : Int), (((k + 1) * 20 + 20 : Nat) : Int))) := by
    unfold aF
    rw [iP (by omega), hl0, e1]
    simp only [bSq]
    rw [wr (by omega) (by omega), show (((k * 20 + 20 : Nat) : Int) + 20) = (((k + 1) * 20 + 20 : Nat) : Int) by omega, show k * 20 + 20 = (k + 1) * 20 by omega]
   rw [bu (s := (L, ((k * 20 : Nat) : Int), ((k * 20 + 20 : Nat) : Int))) hstep]
   have hb1 : bkd L1 20 (k + 1) := fun j hj => by
    by_cases e : j = k
    ·subst e; exact s1
    ·exact ln p1 (.inl (qO (by omega))) (hb j (by omega))
   obtain ⟨L', k', e2, p2, b2, n2⟩ := rL N hN L0 hl0 t (k + 1) L1 (by omega) (p1.len.trans hl) (by omega) hb1
   exact ⟨L', k', e2, (p1.wide (Nat.zero_le _) c).trans p2, b2, n2⟩
  ·refine ⟨L, k, bb ?_, Pin.refl _ _ _, hb, hk, by omega⟩
   show aF (N : Int) L0 L ((k * 20 : Nat) : Int) ((k * 20 + 20 : Nat) : Int) = _
   unfold aF
   rw [iN (by omega)]
theorem sY (fuel N B : Nat) (hN : N ≤ 1000000) (hf : N ≤ fuel) (hB : 0 < B) (hBN : B ≤ N) (L0 : List aa) (hl0 : L0.length = N) : ∀ (t k : Nat) (L : List aa), N ≤ k * (2 * B) + t → L.length = N → k * (2 * B) ≤ N →
  bkd L (2 * B) k → bks L B N (2 * k) →
  ∃ L' k', aW (fun (x : List aa × Int × Int) => aE fuel (N : Int) L0 (B : Int) x.1 x.2.1 x.2.2) (L, ((k * (2 * B) : Nat) : Int), ((k * (2 * B) + 2 * B : Nat) : Int)) = some (L', ((k' * (2 * B) : Nat) : Int)) ∧
   Pin L L' 0 N ∧ bkd L' (2 * B) k' ∧ bks L' B N (2 * k') ∧ k' * (2 * B) ≤ N ∧ N < k' * (2 * B) + 2 * B
 | 0, k, L, ht, hl, hk, hb, hs => by
  refine ⟨L, k, bb ?_, Pin.refl _ _ _, hb, hs, hk, by omega⟩
  show aE fuel (N : Int) L0 (B : Int) L ((k * (2 * B) : Nat) : Int) ((k * (2 * B) + 2 * B : Nat) : Int) = _
  unfold aE
  rw [iN (by omega)]
 | t + 1, k, L, ht, hl, hk, hb, hs => by
  by_cases c : k * (2 * B) + 2 * B ≤ N
  ·have ek : 2 * k * B = k * (2 * B) := by rw [Nat.mul_comm 2 k, Nat.mul_assoc]
   have s1 := hs (2 * k) (Nat.le_refl _)
   have s2 := hs (2 * k + 1) (by omega)
   rw [Nat.add_mul, Nat.one_mul] at s2
   rw [ek] at s1 s2
   rw [Nat.min_eq_left (by omega)] at s1 s2
   obtain ⟨L1, e1, p1, q1⟩ := oh N hN fuel (k * (2 * B)) (k * (2 * B) + B) (k * (2 * B) + 2 * B) L (by omega) (by omega) (by omega) c hl.symm s1 (by rw [show k * (2 * B) + 2 * B = k * (2 * B) + B + B by omega]; exact s2)
   have en : k * (2 * B) + 2 * B = (k + 1) * (2 * B) := by rw [Nat.add_mul, Nat.one_mul]
   have hstep : aE fuel (N : Int) L0 (B : Int) L ((k * (2 * B) : Nat) : Int) ((k * (2 * B) + 2 * B : Nat) : Int) = some (.inl (L1, (((k + 1) * (2 * B) : Nat) : Int), (((k + 1) * (2 * B) + 2 * B : Nat) : Int))) := by
    unfold aE
    rw [iP (by omega), hl0]
    have w1 : IntKind.wrap .i64 (((k * (2 * B) : Nat) : Int) + (B : Int)) = ((k * (2 * B) + B : Nat) : Int) := by rw [wr (by omega) (by omega)]; omega
    have w2 : IntKind.wrap .i64 (2 * (B : Int)) = ((2 * B : Nat) : Int) := by rw [wr (by omega) (by omega)]; omega
    have w3 : IntKind.wrap .i64 (((k * (2 * B) + 2 * B : Nat) : Int) + ((2 * B : Nat) : Int)) = (((k + 1) * (2 * B) + 2 * B : Nat) : Int) := by rw [wr (by omega) (by omega), ← en]; omega
    rw [w1, w2, w3]
    show (bl fuel N _ _ _ L).bind _ = _
    rw [e1, ← en]
    rfl
   rw [bu (s := (L, ((k * (2 * B) : Nat) : Int), ((k * (2 * B) + 2 * B : Nat) : Int))) hstep]
   have hb1 : bkd L1 (2 * B) (k + 1) := fun j hj => by
    by_cases e : j = k
    ·subst e; exact q1
    ·exact ln p1 (.inl (qO (by omega))) (hb j (by omega))
   have hs1 : bks L1 B N (2 * (k + 1)) := fun j hj => by
    refine ln p1 (.inr ?_) (hs j (by omega))
    have := Nat.mul_le_mul_right B hj
    rw [show 2 * (k + 1) * B = (k + 1) * (2 * B) by rw [Nat.mul_comm 2 (k + 1), Nat.mul_assoc], ← en] at this
    exact this
   obtain ⟨L', k', e2, p2, b2, n2⟩ := sY fuel N B hN hf hB hBN L0 hl0 t (k + 1) L1 (by rw [← en]; omega) (p1.len.trans hl) (by rw [← en]; exact c) hb1 hs1
   exact ⟨L', k', e2, (p1.wide (Nat.zero_le _) c).trans p2, b2, n2⟩
  ·refine ⟨L, k, bb ?_, Pin.refl _ _ _, hb, hs, hk, by omega⟩
   show aE fuel (N : Int) L0 (B : Int) L ((k * (2 * B) : Nat) : Int) ((k * (2 * B) + 2 * B : Nat) : Int) = _
   unfold aE
   rw [iN (by omega)]
theorem tt (fuel N B : Nat) (hN : N ≤ 1000000) (hf : N ≤ fuel) (hB : 0 < B) (hBN : B < N) (L0 L : List aa) (hl0 : L0.length = N) (hl : L.length = N) (hs : bks L B N 0) :
  ∃ L', aV fuel (N : Int) L0 L (B : Int) = some (.inl (L', ((2 * B : Nat) : Int))) ∧ Pin L L' 0 N ∧ bks L' (2 * B) N 0 := by
 unfold aV
 rw [iP (by omega)]
 obtain ⟨L1, k, e1, p1, b1, s1, h1, h2⟩ := sY fuel N B hN hf hB (by omega) L0 hl0 N 0 L (by omega) hl (by omega) (fun j hj => by omega) hs
 rw [Nat.zero_mul, Nat.zero_add] at e1
 have w2 : IntKind.wrap .i64 (2 * (B : Int)) = ((2 * B : Nat) : Int) := by rw [wr (by omega) (by omega)]; omega
 rw [w2]
 show ∃ L', (aW (fun (x : List aa × Int × Int) => aE fuel (N : Int) L0 (B : Int) x.1 x.2.1 x.2.2) (L, ((0 : Nat) : Int), ((2 * B : Nat) : Int))).bind _ = _ ∧ _
 rw [e1]
 simp only [bSq]
 unfold bz
 have w1 : IntKind.wrap .i64 (((k * (2 * B) : Nat) : Int) + (B : Int)) = ((k * (2 * B) + B : Nat) : Int) := by rw [wr (by omega) (by omega)]; omega
 have w3 : IntKind.wrap .i64 ((B : Int) * 2) = ((2 * B : Nat) : Int) := by rw [wr (by omega) (by omega)]; omega
 rw [w1, w3, hl0]
 have ek : 2 * k * B = k * (2 * B) := by rw [Nat.mul_comm 2 k, Nat.mul_assoc]
 have fin : ∀ L', Pin L1 L' (k * (2 * B)) N → srt L' (k * (2 * B)) N → bks L' (2 * B) N 0 := fun L' p s j _ => by
  by_cases c1 : j < k
  ·have := qO (B := 2 * B) c1
   rw [Nat.min_eq_left (by omega)]
   exact ln p (.inl this) (b1 j c1)
  ·by_cases c2 : j = k
   ·subst c2
    rw [Nat.min_eq_right (by omega)]
    exact s
   ·have := qO (B := 2 * B) (show k < j by omega)
    intro p q g1 g2 g3
    omega
 by_cases c : k * (2 * B) + B < N
 ·rw [iP (by omega)]
  have g1 := s1 (2 * k) (Nat.le_refl _)
  have g2 := s1 (2 * k + 1) (by omega)
  rw [Nat.add_mul, Nat.one_mul] at g2
  rw [ek] at g1 g2
  rw [Nat.min_eq_left (by omega)] at g1
  rw [Nat.min_eq_right (by omega)] at g2
  obtain ⟨L2, e2, p2, q2⟩ := oh N hN fuel (k * (2 * B)) (k * (2 * B) + B) N L1 (by omega) (by omega) c (Nat.le_refl _) (by rw [p1.len]; exact hl.symm) g1 g2
  have : cA fuel N ((k * (2 * B) : Nat) : Int) ((k * (2 * B) + B : Nat) : Int) (N : Int) L1 = some L2 := e2
  rw [this]
  exact ⟨L2, rfl, p1.trans (p2.wide (Nat.zero_le _) (Nat.le_refl _)), fin L2 p2 q2⟩
 ·rw [iN (by omega)]
  have g1 := s1 (2 * k) (Nat.le_refl _)
  rw [ek] at g1
  rw [Nat.min_eq_right (by omega)] at g1
  exact ⟨L1, rfl, p1, fin L1 (Pin.refl _ _ _) g1⟩
theorem qe (fuel N : Nat) (hN : N ≤ 1000000) (hf : N ≤ fuel) (L0 : List aa) (hl0 : L0.length = N) : ∀ (t B : Nat) (L : List aa), N ≤ B + t → 0 < B → B ≤ 2 * N + 20 → L.length = N → bks L B N 0 →
  ∃ L', aW (fun (x : List aa × Int) => aV fuel (N : Int) L0 x.1 x.2) (L, (B : Int)) = some L' ∧ Pin L L' 0 N ∧ srt L' 0 N
 | t, B, L, ht, hB, hB2, hl, hs => by
  by_cases c : B < N
  ·obtain ⟨L1, e1, p1, s1⟩ := tt fuel N B hN hf hB c L0 L hl0 hl hs
   rw [bu (s := (L, (B : Int))) e1]
   match t with
   | 0 => omega
   | t + 1 =>
    obtain ⟨L', e2, p2, s2⟩ := qe fuel N hN hf L0 hl0 t (2 * B) L1 (by omega) (by omega) (by omega) (p1.len.trans hl) s1
    exact ⟨L', e2, p1.trans p2, s2⟩
  ·refine ⟨L, bb ?_, Pin.refl _ _ _, ?_⟩
   ·show aV fuel (N : Int) L0 L (B : Int) = _
    unfold aV
    rw [iN (by omega)]
   ·have := hs 0 (Nat.le_refl _)
    rw [Nat.zero_mul, Nat.zero_add, Nat.min_eq_right (by omega)] at this
    exact this
theorem qP (fuel : Nat) (L : List aa) (hN : L.length ≤ 1000000) (hf : L.length ≤ fuel) : ∃ L', bW fuel L = some L' ∧ L'.Perm L ∧ srt L' 0 L.length := by
 obtain ⟨L1, k, e1, p1, b1, h1, h2⟩ := rL L.length hN L rfl L.length 0 L (by omega) rfl (by omega) (fun j hj => by omega)
 obtain ⟨L2, e2, p2, s2⟩ := rH L.length (k * 20) L.length L1 h1 (Nat.le_refl _) hN p1.len.symm
 have b2 : bks L2 20 L.length 0 := fun j _ => by
  by_cases c1 : j < k
  ·have := qO (B := 20) c1
   rw [Nat.min_eq_left (by omega)]
   exact ln p2 (.inl this) (b1 j c1)
  ·by_cases c2 : j = k
   ·subst c2
    rw [Nat.min_eq_right (by omega)]
    exact s2
   ·have := qO (B := 20) (show k < j by omega)
    intro p q g1 g2 g3
    omega
 obtain ⟨L3, e3, p3, s3⟩ := qe fuel L.length hN hf L rfl L.length 20 L2 (by omega) (by omega) (by omega) (p2.len.trans p1.len) b2
 have hs : ci fuel (L.length : Int) L = some L3 := by
  unfold ci
  show (aW (fun (x : List aa × Int × Int) => aF (L.length : Int) L x.1 x.2.1 x.2.2) (L, ((0 * 20 : Nat) : Int), ((0 * 20 + 20 : Nat) : Int))).bind _ = _
  rw [e1]
  simp only [bSq]
  unfold bB
  rw [e2]
  simp only [bSq]
  show (aW (fun (x : List aa × Int) => aV fuel (L.length : Int) L x.1 x.2) (L2, ((20 : Nat) : Int))).bind _ = _
  rw [e3]
  rfl
 have hp : L3.Perm L := p3.perm.trans (p2.perm.trans p1.perm)
 refine ⟨L3, ?_, hp, s3⟩
 unfold bW dh bV
 rw [iP hN, hs]
 simp only [bSq]
 rw [iP (by rw [hp.length_eq]; exact Nat.le_refl _), ← hp.length_eq, List.take_length]
def nz (t : aa) : Bool := !(t.n == 0)
theorem tu (L : List aa) (hL : L.length ≤ 1000000) : bN L = some (match (List.range L.length).findSome? (fun i => if (L.getD i default).n == 0 then some (i : Int) else none) with | some i => i | none => -1) := by
 unfold bN
 rw [fW (T := Unit) (Z := Int) L.length (fun i => if (L.getD i default).n == 0 then some (i : Int) else none) () (fun i hi => by
  unfold bD fP
  rw [iP (ltI hi), iP (inI hi)]
  simp only [bSq, tN]
  cases h : ((L.getD i default).n == 0) with
  | true => simp
  | false => simp only [Bool.false_eq_true, if_false]; rw [wrs i (by omega)]) (by
  unfold bD
  rw [iN (ft _)])]
 unfold iM
 simp only [bSq]
 cases (List.range L.length).findSome? (fun i => if (L.getD i default).n == 0 then some (i : Int) else none) <;> rfl
theorem kc (L : List aa) {i : Nat} (hi : i < L.length) : L.take (i + 1) = L.take i ++ [L.getD i default] := by
 rw [List.take_succ_eq_append_getElem hi]
 simp [List.getD, hi]
theorem mX (L0 : List aa) (hL : L0.length ≤ 1000000) : ∀ (k r w : Nat) (L : List aa), r + k = L0.length → L.length = L0.length → w < r → L.take w = (L0.take r).filter nz → L.drop r = L0.drop r →
  ∃ (L' : List aa) (w' : Nat), aW (fun (x : List aa × Int × Int) => aG x.1 x.2.1 x.2.2) (L, (w : Int), (r : Int)) = some (L', (w' : Int)) ∧ w' ≤ L'.length ∧ L'.take w' = L0.filter nz
 | 0, r, w, L, hr, hl, hw, h1, h2 => by
  refine ⟨L, w, bb ?_, by omega, ?_⟩
  ·show aG L (w : Int) (r : Int) = _
   unfold aG
   rw [iN (by omega)]
  ·rw [h1, List.take_of_length_le (by omega)]
 | k + 1, r, w, L, hr, hl, hw, h1, h2 => by
  have hrL : r < L.length := by omega
  have ea : L.getD r default = L0.getD r default := by
   have e1 := fX L r hrL
   have e2 := fX L0 r (by omega)
   rw [h2, e2] at e1
   exact (List.cons.inj e1).1.symm
  have ed : L.drop (r + 1) = L0.drop (r + 1) := by
   have e1 := fX L r hrL
   have e2 := fX L0 r (by omega)
   rw [h2, e2] at e1
   exact (List.cons.inj e1).2.symm
  have hstep : aG L (w : Int) (r : Int) = if (L0.getD r default).n == 0 then some (.inl (L, (w : Int), ((r + 1 : Nat) : Int))) else some (.inl (L.set w (L0.getD r default), ((w + 1 : Nat) : Int), ((r + 1 : Nat) : Int))) := by
   unfold aG fP
   rw [iP (by omega), iP (by omega)]
   simp only [bSq, tN]
   rw [ea, wrs r (by omega)]
   cases h : ((L0.getD r default).n == 0) with
   | true => simp
   | false =>
    simp only [Bool.false_eq_true, if_false]
    rw [iP (by omega), wrs w (by omega)]
  have ef : (L0.take (r + 1)).filter nz = (L0.take r).filter nz ++ (if (L0.getD r default).n == 0 then [] else [L0.getD r default]) := by
   rw [kc L0 (by omega), List.filter_append]
   congr 1
   rw [List.filter_cons, List.filter_nil]
   unfold nz
   cases ((L0.getD r default).n == 0) <;> rfl
  cases h : ((L0.getD r default).n == 0) with
  | true =>
   rw [h] at hstep ef
   simp only [if_true] at hstep ef
   rw [bu (s := (L, (w : Int), (r : Int))) hstep]
   exact mX L0 hL k (r + 1) w L (by omega) hl (by omega) (by rw [ef, h1]; simp) ed
  | false =>
   rw [h] at hstep ef
   simp only [Bool.false_eq_true, if_false] at hstep ef
   rw [bu (s := (L, (w : Int), (r : Int))) hstep]
   refine mX L0 hL k (r + 1) (w + 1) _ (by omega) (by simpa using hl) (by omega) ?_ ?_
   ·rw [ef, ← h1, kc _ (by simp; omega)]
    congr 1
    ·rw [List.take_set_of_le (Nat.le_refl _)]
    ·simp [List.getD, show w < L.length by omega]
   ·rw [List.drop_set_of_lt (by omega), ed]
theorem tv (L : List aa) (hL : L.length ≤ 1000000) : bH L = some (L.filter nz) := by
 unfold bH
 rw [tu L hL]
 simp only [bSq]
 rcases hK (T := Unit) L.length (fun i => if (L.getD i default).n == 0 then some (i : Int) else none) () with ⟨e, hn⟩ | ⟨i, z, hi, hz, e⟩
 ·have : (List.range L.length).findSome? (fun i => if (L.getD i default).n == 0 then some (i : Int) else none) = none := by
   unfold iM at e
   cases h : (List.range L.length).findSome? (fun i => if (L.getD i default).n == 0 then some (i : Int) else none) with
   | none => rfl
   | some z => rw [h] at e; cases e
  rw [this]
  simp only [if_true]
  rw [List.filter_eq_self.2]
  intro t ht
  obtain ⟨j, hj, rfl⟩ := List.getElem_of_mem ht
  have h := hn j hj
  rw [show L.getD j default = L[j] by simp [List.getD, hj]] at h
  unfold nz
  cases hh : (L[j].n == 0) with
  | true => rw [hh] at h; simp at h
  | false => rfl
 ·have hfs : (List.range L.length).findSome? (fun i => if (L.getD i default).n == 0 then some (i : Int) else none) = some z := by
   unfold iM at e
   cases h : (List.range L.length).findSome? (fun i => if (L.getD i default).n == 0 then some (i : Int) else none) with
   | none => rw [h] at e; cases e
   | some z' => rw [h] at e; simp only [Sum.inr.injEq] at e; rw [e]
  rw [hfs]
  simp only
  have hb : (L.getD i default).n == 0 := by
   cases hh : ((L.getD i default).n == 0) with
   | true => rfl
   | false => rw [hh] at hz; simp at hz
  rw [hb] at hz
  simp only [if_true, sJ] at hz
  subst hz
  have hfirst : ∀ j, j < i → (L.getD j default).n ≠ 0 := by
   intro j hj hz0
   have key : ∀ (k a : Nat), a ≤ j → j < a + k → i < a + k → ∀ y, (List.range' a k).findSome? (fun i => if (L.getD i default).n == 0 then some (i : Int) else none) = some y → y ≤ (j : Int) := by
    intro k
    induction k with
    | zero => intro a h1 h2; omega
    | succ k ih =>
     intro a h1 h2 h3 y hy
     rw [List.range'_succ, List.findSome?_cons] at hy
     cases hh : ((L.getD a default).n == 0) with
     | true => rw [hh] at hy; simp only [if_true, sJ] at hy; omega
     | false =>
      rw [hh] at hy
      simp only [Bool.false_eq_true, if_false] at hy
      by_cases c : a = j
      ·subst c; rw [hz0] at hh; simp at hh
      ·exact ih (a + 1) (by omega) (by omega) (by omega) y hy
   have := key L.length 0 (by omega) (by omega) (by omega) (i : Int) (by rw [← List.range_eq_range']; exact hfs)
   omega
  rw [iN (by omega), wrs i (by omega)]
  have ht : L.take i = (L.take (i + 1)).filter nz := by
   rw [kc L hi, List.filter_append]
   have e1 : (L.take i).filter nz = L.take i := by
    rw [List.filter_eq_self]
    intro t htt
    obtain ⟨j, hj, rfl⟩ := List.getElem_of_mem htt
    rw [List.length_take] at hj
    have h := hfirst j (by omega)
    rw [show L.getD j default = L[j] by simp [List.getD, show j < L.length by omega]] at h
    unfold nz
    rw [List.getElem_take]
    simpa using h
   have e2 : [L.getD i default].filter nz = [] := by
    unfold nz
    rw [List.filter_cons, hb]
    rfl
   rw [e1, e2, List.append_nil]
  obtain ⟨L', w', e', h1, h2⟩ := mX L hL (L.length - (i + 1)) (i + 1) i L (by omega) rfl (by omega) ht rfl
  show (aW (fun (x : List aa × Int × Int) => aG x.1 x.2.1 x.2.2) (L, (i : Int), ((i + 1 : Nat) : Int))).bind _ = _
  rw [e']
  simp only [bSq]
  unfold bk
  rw [iP (by omega)]
  simp only [tN]
  rw [show clr (aa.mk 0 []) L' w' (L'.length - w') = L'.take w' ++ List.replicate (L'.length - w') (aa.mk 0 []) by
   unfold clr
   rw [iP (by omega), show w' + (L'.length - w') = L'.length by omega, List.drop_length, List.append_nil]]
  rw [List.take_append_of_le_length (by rw [List.length_take]; omega), List.take_take, Nat.min_self, h2]
theorem e9 {n : Nat} (h : n ≤ 1000000) : gn n 24 := by
 unfold gn maxLen
 omega
theorem rM (R : List aa) (x : aa) : (R ++ [x]).getD R.length default = x := by simp [List.getD]
theorem mY (S : List aa) (hl : S.length ≤ 1000) (hs : srt S 0 S.length) (hb : gc S) : ∀ (k i : Nat) (R : List aa), i + k = S.length → Grp (S.take i) R → (i = 0 ↔ R = []) → R.length ≤ i →
  ∃ R', aW (fun (x : List aa × Int) => cE S x.1 x.2) (R, (i : Int)) = some R' ∧ Grp S R' ∧ R'.length ≤ 1000
 | 0, i, R, hi, h, h0, hR => by
  refine ⟨R, bb ?_, ?_, by omega⟩
  ·show cE S R (i : Int) = _
   unfold cE
   rw [iN (by omega)]
  ·rw [List.take_of_length_le (by omega)] at h
   exact h
 | k + 1, i, R, hi, h, h0, hR => by
  have hiS : i < S.length := by omega
  have hts := kc S hiS
  have hle : ∀ u ∈ S.take i, leT u (S.getD i default) := by
   intro u hu
   obtain ⟨j, hj, rfl⟩ := List.getElem_of_mem hu
   rw [List.length_take] at hj
   have := hs j i (Nat.zero_le _) (by omega) hiS
   unfold tm at this
   rw [show S.getD j default = S[j] by simp [List.getD, show j < S.length by omega]] at this
   rwa [List.getElem_take]
  have newstep : (∀ u ∈ S.take i, ltT u (S.getD i default)) → cE S R (i : Int) = some (.inl (R ++ [S.getD i default], ((i + 1 : Nat) : Int))) → ∃ R', aW (fun (x : List aa × Int) => cE S x.1 x.2) (R, (i : Int)) = some R' ∧ Grp S R' ∧ R'.length ≤ 1000 := by
   intro hlt hst
   rw [bu (s := (R, (i : Int))) hst]
   refine mY S hl hs hb k (i + 1) _ (by omega) (by rw [hts]; exact h.app hlt) (by simp) (by simp; omega)
  rcases List.eq_nil_or_concat R with e | ⟨R1, x, e⟩
  ·subst e
   have i0 : i = 0 := h0.2 rfl
   refine newstep (fun u hu => by rw [i0] at hu; simp at hu) ?_
   unfold cE
   rw [iP (by omega), iP (by omega), iN (by simp)]
   simp only [tN, List.length_nil, Nat.zero_add]
   rw [iP (e9 (by omega)), wrs i (by omega)]
   rfl
  ·rw [List.concat_eq_append] at e
   subst e
   have hlen : (R1 ++ [x]).length = R1.length + 1 := by simp
   have wl : IntKind.wrap .i64 (((R1 ++ [x]).length : Int) - 1) = ((R1.length : Nat) : Int) := by rw [hlen, wr (by omega) (by omega)]; omega
   have hl1 : R1.length ≤ 1000 := by omega
   have base : cE S (R1 ++ [x]) (i : Int) = if x.name = (S.getD i default).name then some (.inl ((R1 ++ [x]).set R1.length (aa.mk (IntKind.wrap .i64 (x.n + (S.getD i default).n)) x.name), ((i + 1 : Nat) : Int))) else some (.inl ((R1 ++ [x]) ++ [S.getD i default], ((i + 1 : Nat) : Int))) := by
    unfold cE
    rw [wl, iP (by omega), iP (by omega), iP (by omega), iP (by omega)]
    simp only [tN, rM]
    rw [iP (e9 (by omega)), wrs i (by omega)]
    rfl
   by_cases c : x.name = (S.getD i default).name
   ·rw [iP c] at base
    have hx := ((h.mem x).1 (by simp)).2
    have b1 := sF (oU hb i) x.name
    rw [List.length_take, ← hx] at b1
    have b2 := hb (S.getD i default) (gQ hiS)
    have b1a : -1000000000 ≤ x.n ∧ x.n ≤ 1000000000 := by omega
    rw [wr (by omega) (by omega)] at base
    rw [show (R1 ++ [x]).set R1.length (aa.mk (x.n + (S.getD i default).n) x.name) = R1 ++ [aa.mk (x.n + (S.getD i default).n) x.name] by simp] at base
    rw [bu (s := (R1 ++ [x], (i : Int))) base]
    exact mY S hl hs hb k (i + 1) _ (by omega) (by rw [hts]; exact h.add c) (by simp) (by simp at hR ⊢; omega)
   ·rw [iN c] at base
    exact newstep (h.new hle c) base
def ovr (L : List aa) : Unit ⊕ (List aa × ag) := iM L.length (fun i => if (L.getD i default).n < -1000000 ∨ (L.getD i default).n > 1000000 then some (([] : List aa), ag.mk 16 (i : Int)) else none) ()
theorem lO {L : List aa} (h : ovr L = .inl ()) : gc L := by
 intro t ht
 obtain ⟨j, hj, rfl⟩ := List.getElem_of_mem ht
 rcases hK (T := Unit) L.length (fun i => if (L.getD i default).n < -1000000 ∨ (L.getD i default).n > 1000000 then some (([] : List aa), ag.mk 16 (i : Int)) else none) () with ⟨_, hn⟩ | ⟨i, z, _, _, e⟩
 ·have := hn j hj
  rw [show L.getD j default = L[j] by simp [List.getD, hj]] at this
  split at this
  ·cases this
  ·omega
 ·unfold ovr at h; rw [e] at h; cases h
theorem jE {L : List aa} (h : gc L) : ovr L = .inl () := by
 unfold ovr
 rw [qM]
 intro i hi
 have := h _ (gQ hi)
 rw [iN (by omega)]
theorem tw (L : List aa) (hL : L.length ≤ 1000000) : aW (fun x => fS L x) 0 = some (ovr L) := by
 refine fW (T := Unit) L.length _ () (fun i hi => ?_) ?_
 ·unfold fS
  rw [iP (ltI hi), iP (inI hi)]
  simp only [tN]
  rw [wrs i (by omega)]
  by_cases c1 : (L.getD i default).n < -1000000
  ·rw [iP c1, iP (.inl c1)]
  ·rw [iN c1]
   by_cases c2 : (L.getD i default).n > 1000000
   ·rw [iP c2, iP (.inr c2)]
   ·rw [iN c2, iN (by omega)]
 ·unfold fS
  rw [iN (ft _)]
theorem lp (fuel : Nat) (hf : 1000 ≤ fuel) (L : List aa) : ∃ r, eu fuel L = some r ∧
  ((L.length > 1000 ∧ r = ([], ag.mk 7 (-1))) ∨ (L.length ≤ 1000 ∧ (ovr L = .inr r ∨ (ovr L = .inl () ∧ ∃ N, r = (N, ag.mk 0 0) ∧ fv L N ∧ N.length ≤ 1000)))) := by
 unfold eu
 by_cases c : L.length > 1000
 ·rw [iP (by omega)]
  exact ⟨_, rfl, .inl ⟨c, rfl⟩⟩
 ·rw [iN (by omega), tw L (by omega)]
  simp only [bSq]
  cases ho : ovr L with
  | inr z => exact ⟨z, rfl, .inr ⟨by omega, .inl rfl⟩⟩
  | inl u =>
   simp only [Sum.elim_inl]
   have hb := lO ho
   unfold fR cz
   obtain ⟨S, e1, p1, s1⟩ := qP fuel L (by omega) (by omega)
   rw [← p1.length_eq] at s1
   obtain ⟨R, e2, g2, l2⟩ := mY S (by rw [p1.length_eq]; omega) s1 (oV p1 hb) S.length 0 [] (by omega) (by rw [List.take_zero]; exact Grp.nil) (by simp) (by simp)
   simp only [bSq]
   rw [e1]
   simp only [bSq]
   have e2' : aW (fun (x : List aa × Int) => cE S x.1 x.2) ([], 0) = some R := e2
   show ∃ r, (aW (fun (x : List aa × Int) => cE S x.1 x.2) ([], 0)).bind _ = _ ∧ _
   rw [e2']
   simp only [bSq]
   unfold fQ
   rw [tv R (by omega)]
   exact ⟨_, rfl, .inr ⟨by omega, .inr ⟨trivial, _, rfl, g2.canon.perm p1, Nat.le_trans (List.length_filter_le _ _) l2⟩⟩⟩
theorem hO (n : Int) : fI n = some (decide (-1000000 ≤ n ∧ n ≤ 1000000)) := by
 unfold fI
 by_cases c : n ≥ -1000000
 ·rw [iP c]; congr 1; rw [decide_eq_decide]; omega
 ·rw [iN c, dF (by omega)]
theorem tx (L : List aa) (hL : L.length ≤ 1000000) : aW (fun x => gy L x) 0 = some (ovr L) := by
 refine fW (T := Unit) L.length _ () (fun i hi => ?_) ?_
 ·unfold gy iq
  rw [iP (ltI hi), iP (inI hi)]
  simp only [tN, hO, bSq]
  rw [wrs i (by omega)]
  by_cases c : -1000000 ≤ (L.getD i default).n ∧ (L.getD i default).n ≤ 1000000
  ·rw [dT c, iP rfl, iN (by omega)]
  ·rw [dF c, iN (by decide), iP (by omega)]
 ·unfold gy
  rw [iN (ft _)]
def ab (L : List aa) (x : Int) (u : aa) : Prop := x < 0 ∨ ltT (L.getD x.toNat default) u
def abB (L : List aa) (x : Int) (u : aa) : Bool := decide (x < 0) || Op.bytesLess (L.getD x.toNat default).name u.name
theorem oi (L : List aa) (x : Int) (u : aa) : abB L x u = true ↔ ab L x u := by
 unfold abB ab ltT
 rw [Bool.or_eq_true, decide_eq_true_iff]
theorem qf (u v : aa) : (Op.bytesLess u.name v.name || u.name == v.name) = true ↔ ¬ ltT v u := by
 rw [Bool.or_eq_true, beq_iff_eq]
 constructor
 ·rintro (h | h)
  ·exact lL h
  ·unfold ltT; rw [h, iA]; decide
 ·intro h
  by_cases c : ltT u v
  ·exact .inl c
  ·exact .inr (oe c h)
def FI (L : List aa) (x : Int) (i : Nat) (b : Int) : Prop :=
 (b = -1 ∧ ∀ j, j < i → ¬ ab L x (L.getD j default)) ∨ ∃ m : Nat, b = (m : Int) ∧ m < i ∧ ab L x (L.getD m default) ∧ ∀ j, j < i → ab L x (L.getD j default) → leT (L.getD m default) (L.getD j default)
theorem qQ (L : List aa) (x : Int) (hx : x = -1 ∨ ∃ c : Nat, x = (c : Int) ∧ c < L.length) (hL : L.length ≤ 1000) (i : Nat) (hi : i < L.length) (b : Int) (h : FI L x i b) :
  ∃ b', dW L x b (i : Int) = some (.inl (b', ((i + 1 : Nat) : Int))) ∧ FI L x (i + 1) b' := by
 have stay : ¬ ab L x (L.getD i default) → FI L x (i + 1) b := by
  intro hn
  rcases h with ⟨e, h⟩ | ⟨m, e, hm, ha, h⟩
  ·refine .inl ⟨e, fun j hj => ?_⟩
   by_cases c : j = i
   ·rw [c]; exact hn
   ·exact h j (by omega)
  ·refine .inr ⟨m, e, by omega, ha, fun j hj hj' => ?_⟩
   by_cases c : j = i
   ·rw [c] at hj'; exact absurd hj' hn
   ·exact h j (by omega) hj'
 have take : ab L x (L.getD i default) → (b < 0 ∨ ltT (L.getD i default) (L.getD b.toNat default)) → FI L x (i + 1) (i : Int) := by
  intro hn hb
  refine .inr ⟨i, rfl, by omega, hn, fun j hj hj' => ?_⟩
  by_cases c : j = i
  ·rw [c]; exact jZ _
  ·rcases h with ⟨e, h⟩ | ⟨m, e, hm, ha, h⟩
   ·exact absurd hj' (h j (by omega))
   ·rw [e] at hb
    rcases hb with hb | hb
    ·omega
    ·rw [tN] at hb
     exact eJ (lI hb) (h j (by omega) hj')
 have keep : (∃ m : Nat, b = (m : Int)) → ¬ ltT (L.getD i default) (L.getD b.toNat default) → FI L x (i + 1) b := by
  rintro ⟨m', e'⟩ hb
  rcases h with ⟨e, h⟩ | ⟨m, e, hm, ha, h⟩
  ·omega
  ·refine .inr ⟨m, e, by omega, ha, fun j hj hj' => ?_⟩
   by_cases c : j = i
   ·rw [c]; rw [e, tN] at hb; exact hb
   ·exact h j (by omega) hj'
 have hbr : b = -1 ∨ ∃ m : Nat, b = (m : Int) ∧ m < L.length := by
  rcases h with ⟨e, _⟩ | ⟨m, e, hm, _⟩
  ·exact .inl e
  ·exact .inr ⟨m, e, by omega⟩
 unfold dW
 rw [iP (ltI hi), wrs i (by omega)]
 simp only [tN]
 have best : ab L x (L.getD i default) → ∃ b', (if b < 0 then some (Sum.inl ((i : Int), ((i + 1 : Nat) : Int))) else if 0 ≤ b ∧ b < (L.length : Int) then (if (Op.bytesLess (L.getD i default).name (L.getD b.toNat default).name) = true then some (Sum.inl ((i : Int), ((i + 1 : Nat) : Int))) else some (Sum.inl (b, ((i + 1 : Nat) : Int)))) else none : Option ((Int × Int) ⊕ Int)) = some (.inl (b', ((i + 1 : Nat) : Int))) ∧ FI L x (i + 1) b' := by
  intro ha
  by_cases c : b < 0
  ·rw [iP c]
   exact ⟨_, rfl, take ha (.inl c)⟩
  ·rw [iN c]
   rcases hbr with e | ⟨m, e, hm⟩
   ·omega
   rw [iP (by omega)]
   by_cases c2 : (Op.bytesLess (L.getD i default).name (L.getD b.toNat default).name) = true
   ·rw [iP c2]
    exact ⟨_, rfl, take ha (.inr c2)⟩
   ·rw [iN c2]
    exact ⟨_, rfl, keep ⟨m, e⟩ c2⟩
 rcases hx with e | ⟨c, e, hc⟩
 ·have := best (.inl (by omega))
  rw [iP (show x < 0 by omega)]
  by_cases c : b < 0
  ·rw [iP c] at this ⊢; exact this
  ·rw [iN c] at this ⊢
   rcases hbr with e | ⟨m, e, hm⟩
   ·omega
   rw [iP (by omega)] at this
   rw [iP (by omega)]
   exact this
 ·rw [iN (by omega), iP (by omega)]
  by_cases cc : (Op.bytesLess (L.getD i default).name (L.getD x.toNat default).name || (L.getD i default).name == (L.getD x.toNat default).name) = true
  ·rw [iP cc]
   rw [qf] at cc
   exact ⟨b, rfl, stay fun ha => ha.elim (fun h => by omega) cc⟩
  ·rw [iN cc]
   rw [qf, Classical.not_not] at cc
   exact best (.inr cc)
theorem nI (L : List aa) (x : Int) (hx : x = -1 ∨ ∃ c : Nat, x = (c : Int) ∧ c < L.length) (hL : L.length ≤ 1000) : ∀ (k i : Nat) (b : Int), i + k = L.length → FI L x i b →
  ∃ b', aW (fun (s : Int × Int) => dW L x s.1 s.2) (b, (i : Int)) = some b' ∧ FI L x L.length b'
 | 0, i, b, hi, h => by
  obtain rfl : i = L.length := by omega
  refine ⟨b, bb ?_, h⟩
  show dW L x b (L.length : Int) = _
  unfold dW
  rw [iN (ft _)]
 | k + 1, i, b, hi, h => by
  obtain ⟨b1, e1, h1⟩ := qQ L x hx hL i (by omega) b h
  rw [bu (s := (b, (i : Int))) e1]
  exact nI L x hx hL k (i + 1) b1 (by omega) h1
theorem nJ (s : List UInt8) : ∀ (L : List aa) (a : Int), L.foldl (fun a t => a + if t.name = s then t.n else 0) a = a + db L s
 | [], a => by rw [gR, Int.add_zero]; rfl
 | t :: L, a => by rw [List.foldl_cons, nJ s L, cq, Int.add_assoc]
theorem rN (L : List aa) (hL : L.length ≤ 1000) (hs : gc L) (m : Nat) (hm : m < L.length) : aW (fun (x : Int × Int) => dl L (m : Int) x.1 x.2) (0, 0) = some (db L (L.getD m default).name) := by
 have := (qN (A := Int) (T := aa) (O := Int) (fun a i => (a, i)) (body := fun (x : Int × Int) => dl L (m : Int) x.1 x.2) L (fun a t => a + if t.name = (L.getD m default).name then t.n else 0) (fun i a => -1000000 * (i : Int) ≤ a ∧ a ≤ 1000000 * (i : Int)) id 0 (by simp)
  (fun i a hi ha => by
   have hb := hs _ (gQ hi)
   refine ⟨?_, ?_⟩
   ·show dl L (m : Int) a (i : Int) = _
    unfold dl
    rw [iP (ltI hi), iP ⟨inI hi, inI hm⟩]
    simp only [tN]
    rw [wrs i (by omega), wr (by omega) (by omega)]
    by_cases c : (L.getD i default).name = (L.getD m default).name
    ·rw [iP c, iP c]
    ·rw [iN c, iN c, Int.add_zero]
   ·show -1000000 * ((i + 1 : Nat) : Int) ≤ a + (if (L.getD i default).name = (L.getD m default).name then (L.getD i default).n else 0) ∧ a + (if (L.getD i default).name = (L.getD m default).name then (L.getD i default).n else 0) ≤ 1000000 * ((i + 1 : Nat) : Int)
    split <;> omega)
  (fun a ha => by
   show dl L (m : Int) a (L.length : Int) = _
   unfold dl
   rw [iN (ft _)]
   rfl)).1
 rw [nJ, Int.zero_add] at this
 exact this
theorem nL {T : Type} {p q : T → Bool} : ∀ {l : List T}, (∀ x ∈ l, q x = true → p x = true) → (∃ x ∈ l, p x = true ∧ q x = false) → l.countP q < l.countP p
 | [], _, h => by obtain ⟨x, hx, _⟩ := h; simp at hx
 | a :: l, h, h' => by
  have hle : l.countP q ≤ l.countP p := List.countP_mono_left fun x hx => h x (by simp [hx])
  rw [List.countP_cons, List.countP_cons]
  obtain ⟨x, hx, h1, h2⟩ := h'
  rw [List.mem_cons] at hx
  rcases hx with e | hx
  ·subst e
   rw [h1, h2]
   simp only [if_true, Bool.false_eq_true, if_false]
   omega
  ·have := nL (l := l) (fun x hx => h x (by simp [hx])) ⟨x, hx, h1, h2⟩
   have ha := h a (by simp)
   cases hq : q a with
   | true => rw [ha hq]; simp only [if_true]; omega
   | false => simp only [Bool.false_eq_true, if_false]; omega
structure OI (L : List aa) (x : Int) (R : List aa) : Prop where
 srtd : R.Pairwise ltT
 mem : ∀ t, t ∈ R ↔ t.n ≠ 0 ∧ t.n = db L t.name ∧ 0 ≤ x ∧ ¬ ltT (L.getD x.toNat default) t
 few : R.length + L.countP (abB L x) ≤ L.length
theorem mZ (L : List aa) (hL : L.length ≤ 1000) (hs : gc L) : ∀ (k : Nat) (x : Int) (R : List aa), (x = -1 ∨ ∃ c : Nat, x = (c : Int) ∧ c < L.length) → L.countP (abB L x) ≤ k → OI L x R →
  ∃ N, aW (fun (s : List aa × Int) => dX L s.1 s.2) (R, x) = some (N, ag.mk 0 0) ∧ fv L N
 | k, x, R, hx, hk, h => by
  have hxx : x = -1 ∨ 0 ≤ x := by
   rcases hx with e | ⟨c, e, _⟩
   ·exact .inl e
   ·exact .inr (by omega)
  obtain ⟨b, e1, hb⟩ := nI L x hx hL L.length 0 (-1) (by omega) (.inl ⟨rfl, fun j hj => by omega⟩)
  have hfst : dX L R x = eP L R b := by
   unfold dX
   show (aW (fun (s : Int × Int) => dW L x s.1 s.2) (-1, ((0 : Nat) : Int))).bind _ = _
   rw [e1]
   rfl
  rcases hb with ⟨e, hb⟩ | ⟨m, e, hm, ha, hb⟩
  ·subst e
   have hstep : dX L R x = some (.inr (R, ag.mk 0 0)) := by
    rw [hfst]
    unfold eP
    rw [iP (by omega)]
   refine ⟨R, bb (s := (R, x)) hstep, h.srtd, fun t => ?_⟩
   rw [h.mem]
   refine ⟨fun hh => ⟨hh.1, hh.2.1⟩, fun hh => ⟨hh.1, hh.2, ?_⟩⟩
   obtain ⟨u, hu, en⟩ := lk (L := L) (s := t.name) (by rw [← hh.2]; exact hh.1)
   obtain ⟨j, hj, rfl⟩ := List.getElem_of_mem hu
   have := hb j hj
   rw [show L.getD j default = L[j] by simp [List.getD, hj]] at this
   refine ⟨?_, fun hlt => this (.inr ((lM en).2 hlt))⟩
   rcases hxx with e | e
   ·exact absurd (.inl (by omega)) this
   ·exact e
  ·subst e
   have hsum := rN L hL hs m hm
   obtain ⟨sm, hsm⟩ : ∃ sm, sm = db L (L.getD m default).name := ⟨_, rfl⟩
   have hstep : dX L R x = some (.inl (if sm ≠ 0 then R ++ [aa.mk sm (L.getD m default).name] else R, (m : Int))) := by
    rw [hfst]
    unfold eP
    rw [iN (by omega)]
    show (aW (fun (x : Int × Int) => dl L (m : Int) x.1 x.2) (0, 0)).bind _ = _
    rw [hsum, ← hsm]
    simp only [bSq]
    unfold gw
    have := h.few
    rw [iP (show (0 ≤ (m : Int) ∧ (m : Int) < (L.length : Int)) ∧ gn (R.length + 1) 24 from ⟨inI hm, e9 (by omega)⟩)]
    simp only [tN]
    by_cases c : sm = 0
    ·rw [iN (by simp [c]), iN (by simp [c])]
    ·rw [iP c, iP c]
     rfl
   rw [bu (s := (R, x)) hstep]
   have hcnt : L.countP (abB L (m : Int)) < L.countP (abB L x) := by
    refine nL (fun u hu hq => ?_) ⟨L.getD m default, gQ hm, (oi _ _ _).2 ha, ?_⟩
    ·rw [oi] at hq ⊢
     rcases hq with hq | hq
     ·omega
     ·rw [tN] at hq
      rcases ha with ha | ha
      ·exact .inl ha
      ·exact .inr (lK ha hq)
    ·cases hq : abB L (m : Int) (L.getD m default) with
     | false => rfl
     | true =>
      rw [oi] at hq
      rcases hq with hq | hq
      ·omega
      ·rw [tN] at hq
       exact absurd hq (mn _)
   have hR : ∀ r ∈ R, ltT r (L.getD m default) := by
    intro r hr
    obtain ⟨_, _, h0, hle⟩ := (h.mem r).1 hr
    rcases ha with ha | ha
    ·omega
    ·exact Classical.byContradiction fun hn => eJ (x := L.getD m default) (y := r) (z := L.getD x.toNat default) hn hle ha
   have hmem : ∀ t : aa, (t ∈ R ∨ (sm ≠ 0 ∧ t = aa.mk sm (L.getD m default).name)) ↔ t.n ≠ 0 ∧ t.n = db L t.name ∧ 0 ≤ (m : Int) ∧ ¬ ltT (L.getD m default) t := by
    intro t
    constructor
    ·rintro (hr | ⟨h0, hr⟩)
     ·obtain ⟨g1, g2, _⟩ := (h.mem t).1 hr
      exact ⟨g1, g2, by omega, lL (hR t hr)⟩
     ·subst hr
      exact ⟨h0, hsm, by omega, fun hh => kP hh rfl⟩
    ·rintro ⟨g1, g2, _, g3⟩
     by_cases c : 0 ≤ x ∧ ¬ ltT (L.getD x.toNat default) t
     ·exact .inl ((h.mem t).2 ⟨g1, g2, c⟩)
     ·right
      obtain ⟨u, hu, en⟩ := lk (L := L) (s := t.name) (by rw [← g2]; exact g1)
      obtain ⟨j, hj, rfl⟩ := List.getElem_of_mem hu
      have e1 : L.getD j default = L[j] := by simp [List.getD, hj]
      have hab : ab L x (L.getD j default) := by
       rcases hxx with e | e
       ·exact .inl (by omega)
       ·refine .inr ((lM (x := L.getD j default) (y := t) (by rw [e1]; exact en)).2 ?_)
        exact Classical.byContradiction fun hn => c ⟨e, hn⟩
      have hle := hb j hj hab
      have hn2 : ¬ ltT (L.getD m default) (L.getD j default) := fun hh => g3 ((lM (x := L.getD j default) (y := t) (by rw [e1]; exact en)).1 hh)
      have e2 : (L.getD m default).name = t.name := by
       have := oe hn2 hle
       rw [this, e1, en]
      have e3 : t.n = sm := by rw [g2, hsm, e2]
      refine ⟨fun h0 => g1 (e3.trans h0), ?_⟩
      rw [e2, ← e3]
   have key : OI L (m : Int) (if sm ≠ 0 then R ++ [aa.mk sm (L.getD m default).name] else R) := by
    have hfew := h.few
    by_cases c : sm = 0
    ·rw [iN (by simp [c])]
     refine ⟨h.srtd, fun t => ?_, by omega⟩
     have := hmem t
     simp only [c, ne_eq, not_true_eq_false, false_and, or_false] at this
     rw [this]
     rfl
    ·rw [iP c]
     refine ⟨List.pairwise_append.2 ⟨h.srtd, by simp, fun a ha b hb' => ?_⟩, fun t => ?_, by simp; omega⟩
     ·simp only [List.mem_singleton] at hb'
      subst hb'
      exact (lM (x := aa.mk sm (L.getD m default).name) (y := L.getD m default) rfl).2 (hR a ha)
     ·have := hmem t
      simp only [c, ne_eq, not_false_eq_true, true_and] at this
      rw [List.mem_append, List.mem_singleton, this]
      rfl
   match k with
   | 0 => omega
   | k + 1 => exact mZ L hL hs k (m : Int) _ (.inr ⟨m, rfl, hm⟩) (by omega) key
theorem i4 (L : List aa) : ∃ r, dj L = some r ∧
  ((L.length > 1000 ∧ r = ([], ag.mk 7 (-1))) ∨ (L.length ≤ 1000 ∧ (ovr L = .inr r ∨ (ovr L = .inl () ∧ ∃ N, r = (N, ag.mk 0 0) ∧ fv L N)))) := by
 unfold dj
 by_cases c : L.length > 1000
 ·rw [iP (by omega)]
  exact ⟨_, rfl, .inl ⟨c, rfl⟩⟩
 ·rw [iN (by omega), tx L (by omega)]
  simp only [bSq]
  cases ho : ovr L with
  | inr z => exact ⟨z, rfl, .inr ⟨by omega, .inl rfl⟩⟩
  | inl u =>
   simp only [Sum.elim_inl]
   have hb := lO ho
   unfold gx
   obtain ⟨N, e2, g2⟩ := mZ L (by omega) hb (L.countP (abB L (-1))) (-1) [] (.inl rfl) (Nat.le_refl _) ⟨List.Pairwise.nil, fun t => by simp, by rw [List.length_nil, Nat.zero_add]; exact List.countP_le_length⟩
   show ∃ r, (aW (fun (x : List aa × Int) => dX L x.1 x.2) ([], -1)).bind _ = _ ∧ _
   rw [e2]
   exact ⟨_, rfl, .inr ⟨by omega, .inr ⟨trivial, _, rfl, g2⟩⟩⟩
theorem iB (fuel : Nat) (hf : 1000 ≤ fuel) (L : List aa) : eu fuel L = dj L := by
 obtain ⟨r, e, h⟩ := lp fuel hf L
 obtain ⟨r', e', h'⟩ := i4 L
 rw [e, e']
 rcases h with ⟨h1, h2⟩ | ⟨h1, h2⟩
 ·rcases h' with ⟨_, h2'⟩ | ⟨h1', _⟩
  ·rw [h2, h2']
  ·omega
 ·rcases h' with ⟨h1', _⟩ | ⟨_, h2'⟩
  ·omega
  ·rcases h2 with h2 | ⟨h2, N, e1, c1, _⟩
   ·rcases h2' with h2' | ⟨h2', _⟩
    ·rw [h2] at h2'; simp only [Sum.inr.injEq] at h2'; rw [h2']
    ·rw [h2] at h2'; cases h2'
   ·rcases h2' with h2' | ⟨_, N', e2, c2⟩
    ·rw [h2] at h2'; cases h2'
    ·rw [e1, e2, c1.uniq c2]
def idx (L : List (List UInt8)) (s : List UInt8) : Int := Sum.elim (fun _ => -1) id (iM L.length (fun i => if L.getD i default = s then some (i : Int) else none) ())
theorem rO (L : List (List UInt8)) (s : List UInt8) (h : L.length ≤ 1000000) : bO L s = some (idx L s) := by
 unfold bO
 rw [fW (T := Unit) (Z := Int) L.length (fun i => if L.getD i default = s then some (i : Int) else none) () (fun i hi => by
  unfold ck
  rw [iP (ltI hi), iP (inI hi)]
  simp only [tN]
  rw [wrs i (by omega)]
  by_cases c : L.getD i default = s
  ·rw [iP c, iP c.symm]
  ·rw [iN c, iN (fun e => c e.symm)]) (by
  unfold ck
  rw [iN (ft _)])]
 unfold idx
 cases iM L.length (fun i => if L.getD i default = s then some (i : Int) else none) () <;> rfl
theorem kd (L : List (List UInt8)) (s : List UInt8) (h : L.length ≤ 1000000) : gz L s = some (idx L s) := by
 unfold gz
 rw [fW (T := Unit) (Z := Int) L.length (fun i => if L.getD i default = s then some (i : Int) else none) () (fun i hi => by
  unfold fK
  rw [iP (ltI hi), iP (inI hi)]
  simp only [tN]
  rw [wrs i (by omega)]
  by_cases c : L.getD i default = s
  ·rw [iP c, iP c]
  ·rw [iN c, iN c]) (by
  unfold fK
  rw [iN (ft _)])]
 unfold idx
 cases iM L.length (fun i => if L.getD i default = s then some (i : Int) else none) () <;> rfl
theorem rP {L L' : List aa} (hl : L.length = L'.length) (h : ∀ i, i < L.length → L.getD i default = L'.getD i default) : L = L' := by
 apply List.ext_getElem hl
 intro i h1 h2
 have := h i h1
 simpa [List.getD, h1, h2] using this
theorem nO (L L' : List aa) (hl : L.length = L'.length) : Sum.elim (fun _ => true) id (iM (T := Unit) (Z := Bool) L.length (fun i => if (L.getD i default).n = (L'.getD i default).n ∧ (L.getD i default).name = (L'.getD i default).name then none else some false) ()) = decide (L = L') := by
 rcases hK (T := Unit) (Z := Bool) L.length (fun i => if (L.getD i default).n = (L'.getD i default).n ∧ (L.getD i default).name = (L'.getD i default).name then none else some false) () with ⟨e, hn⟩ | ⟨i, z, hi, hz, e⟩
 ·rw [e]
  have : L = L' := rP hl fun i hi => by
   have := hn i hi
   by_cases c : (L.getD i default).n = (L'.getD i default).n ∧ (L.getD i default).name = (L'.getD i default).name
   ·cases hx : L.getD i default
    cases hy : L'.getD i default
    rw [hx, hy] at c
    obtain ⟨rfl, rfl⟩ := c
    rfl
   ·rw [iN c] at this; cases this
  rw [dT this]
  rfl
 ·rw [e]
  by_cases c : L = L'
  ·subst c
   simp at hz
  ·rw [dF c]
   split at hz
   ·cases hz
   ·simp only [sJ] at hz; rw [← hz]; rfl
theorem fY (L L' : List aa) (h : L.length ≤ 1000000) : da L L' = some (decide (L = L')) := by
 unfold da
 by_cases c : L.length = L'.length
 ·rw [iN (by omega), fW (T := Unit) (Z := Bool) L.length (fun i => if (L.getD i default).n = (L'.getD i default).n ∧ (L.getD i default).name = (L'.getD i default).name then none else some false) () (fun i hi => by
   unfold eA
   rw [iP (ltI hi), iP ⟨inI hi, by rw [← c]; exact inI hi⟩]
   simp only [tN]
   rw [wrs i (by omega)]
   split <;> simp_all) (by
   unfold eA
   rw [iN (ft _)]), ← nO L L' c]
  simp only [bSq]
  cases iM (T := Unit) (Z := Bool) L.length (fun i => if (L.getD i default).n = (L'.getD i default).n ∧ (L.getD i default).name = (L'.getD i default).name then none else some false) () <;> rfl
 ·rw [iP (by omega), dF (fun e => c (by rw [e]))]
theorem rQ (L L' : List aa) (h : L.length ≤ 1000000) : cd L L' = some (decide (L = L')) := by
 unfold cd
 by_cases c : L.length = L'.length
 ·rw [iN (by omega), fW (T := Unit) (Z := Bool) L.length (fun i => if (L.getD i default).n = (L'.getD i default).n ∧ (L.getD i default).name = (L'.getD i default).name then none else some false) () (fun i hi => by
   unfold bU
   rw [iP (ltI hi), iP ⟨inI hi, by rw [← c]; exact inI hi⟩]
   simp only [tN]
   rw [wrs i (by omega)]
   split <;> simp_all) (by
   unfold bU
   rw [iN (ft _)]), ← nO L L' c]
  simp only [bSq]
  cases iM (T := Unit) (Z := Bool) L.length (fun i => if (L.getD i default).n = (L'.getD i default).n ∧ (L.getD i default).name = (L'.getD i default).name then none else some false) () <;> rfl
 ·rw [iP (by omega), dF (fun e => c (by rw [e]))]
theorem i5 (L : List aa) : ∃ r, dj L = some r ∧ r.1.length ≤ 1000 ∧ ((r.2.code ≠ 0 ∧ r.1 = []) ∨ (r.2 = ag.mk 0 0 ∧ L.length ≤ 1000 ∧ gc L ∧ fv L r.1)) := by
 obtain ⟨r, e, h⟩ := lp 1000 (Nat.le_refl _) L
 rw [iB 1000 (Nat.le_refl _)] at e
 refine ⟨r, e, ?_⟩
 rcases h with ⟨_, h⟩ | ⟨hl, h | ⟨ho, N, h, hc, hn⟩⟩
 ·rw [h]; exact ⟨by simp, .inl ⟨by decide, rfl⟩⟩
 ·rcases hK (T := Unit) L.length (fun i => if (L.getD i default).n < -1000000 ∨ (L.getD i default).n > 1000000 then some (([] : List aa), ag.mk 16 (i : Int)) else none) () with ⟨e, _⟩ | ⟨i, z, _, hz, e⟩
  ·unfold ovr at h; rw [e] at h; cases h
  ·unfold ovr at h
   rw [e] at h
   simp only [Sum.inr.injEq] at h
   subst h
   split at hz
   ·simp only [sJ] at hz; rw [← hz]; exact ⟨by simp, .inl ⟨(by simp : (16 : Int) ≠ 0), rfl⟩⟩
   ·cases hz
 ·rw [h]; exact ⟨hn, .inr ⟨rfl, hl, lO ho, hc⟩⟩
theorem m0 {L : List aa} {r : List aa × ag} (h : dj L = some r) : r.1.length ≤ 1000 := by
 obtain ⟨r', e, h', _⟩ := i5 L
 rw [e] at h
 cases h
 exact h'
theorem lP (fuel : Nat) (hf : 1000 ≤ fuel) (L L' : List aa) : fT fuel L L' = e7 L L' ∧ ∃ b, e7 L L' = some b := by
 unfold fT e7
 rw [iB fuel hf, iB fuel hf]
 obtain ⟨r, e, hl, _⟩ := i5 L
 obtain ⟨r', e', hl', _⟩ := i5 L'
 rw [e, e']
 simp only [bSq]
 rw [rQ _ _ (by omega), fY _ _ (by omega)]
 refine ⟨rfl, ?_⟩
 split
 ·split
  ·exact ⟨_, rfl⟩
  ·exact ⟨_, rfl⟩
 ·exact ⟨_, rfl⟩
theorem ue (a b : Int) : IntKind.wrap .i64 (a + IntKind.wrap .i64 b) = IntKind.wrap .i64 (a + b) := by
 simp only [IntKind.wrap_i64]; omega
theorem rR (p2 : List (List UInt8)) (hp : p2.length ≤ 1000000) (p3 : List Int) (y : List aa × ag) (a i : Int) : d7 p2 p3 y a i = aX p2 p3 y a i := by
 unfold d7 aX iq
 rw [rO _ _ hp, kd _ _ hp]
 simp only [bSq, hO]
 unfold fm
 simp only [show ¬ ((1 : Int) < -1000000) by decide, show ¬ ((1 : Int) > 1000000) by decide, if_false, Int.mul_one, ue]
 obtain ⟨v, hv⟩ : ∃ v, v = p3.getD (idx p2 (y.1.getD i.toNat default).name).toNat default := ⟨_, rfl⟩
 rw [← hv]
 by_cases c : -1000000 ≤ v ∧ v ≤ 1000000
 ·rw [dT c, iN (show ¬ v < -1000000 by omega), iN (show ¬ v > 1000000 by omega), iP rfl]
 ·rw [dF c, iN (show ¬ false = true by decide)]
  by_cases c1 : v < -1000000
  ·rw [iP c1]
  ·rw [iN c1, iP (show v > 1000000 by omega)]
theorem dD (fuel : Nat) (hf : 1000 ≤ fuel) (L : List aa) (p2 : List (List UInt8)) (hp : p2.length ≤ 1000000) (p3 : List Int) : cb fuel L p2 p3 = di L p2 p3 := by
 unfold cb di
 rw [iB fuel hf]
 congr 1
 funext y
 have : (fun (x : Int × Int) => d7 p2 p3 y x.1 x.2) = (fun (x : Int × Int) => aX p2 p3 y x.1 x.2) := by
  funext x; exact rR p2 hp p3 y x.1 x.2
 show (if ¬ ((y.2).code) = 0 then (some (0, (y.2))) else ((aW (fun (x : Int × Int) => d7 p2 p3 y x.1 x.2) (0, 0)).bind (Sum.elim (fun z11 => fj z11) (fun z12 => some z12)))) = _
 rw [this]
 rfl
theorem qg (p2 : List (List UInt8)) (hp : p2.length ≤ 1000000) (p3 : List Int) (y : List aa × ag) (hy : y.1.length ≤ 1000) : ∀ (k i : Nat) (a : Int), i + k = y.1.length → ∃ r, aW (fun (x : Int × Int) => aX p2 p3 y x.1 x.2) (a, (i : Int)) = some r
 | 0, i, a, hi => by
  refine ⟨_, bb (o := .inl a) ?_⟩
  show aX p2 p3 y a (i : Int) = _
  unfold aX
  rw [iN (by omega)]
 | k + 1, i, a, hi => by
  have h : (∃ z, aX p2 p3 y a (i : Int) = some (.inr z)) ∨ ∃ a', aX p2 p3 y a (i : Int) = some (.inl (a', ((i + 1 : Nat) : Int))) := by
   unfold aX iq
   rw [iP (by omega), iP (by omega), kd _ _ hp, wrs i (by omega)]
   simp only [bSq, hO]
   split
   ·exact .inr ⟨_, rfl⟩
   ·split
    ·exact .inl ⟨_, rfl⟩
    ·split
     ·exact .inl ⟨_, rfl⟩
     ·rw [iP (by omega)]
      split
      ·exact .inr ⟨_, rfl⟩
      ·exact .inl ⟨_, rfl⟩
  rcases h with ⟨z, h⟩ | ⟨a', h⟩
  ·exact ⟨z, bb (s := (a, (i : Int))) h⟩
  ·rw [bu (s := (a, (i : Int))) h]
   exact qg p2 hp p3 y hy k (i + 1) a' (by omega)
theorem qR (L : List aa) (p2 : List (List UInt8)) (hp : p2.length ≤ 1000000) (p3 : List Int) : ∃ r, di L p2 p3 = some r := by
 unfold di
 obtain ⟨y, e, hl, _⟩ := i5 L
 rw [e]
 simp only [bSq]
 split
 ·exact ⟨_, rfl⟩
 ·obtain ⟨r, h⟩ := qg p2 hp p3 y hl y.1.length 0 0 (by omega)
  have h' : aW (fun (x : Int × Int) => aX p2 p3 y x.1 x.2) (0, 0) = some r := h
  show ∃ r, (aW (fun (x : Int × Int) => aX p2 p3 y x.1 x.2) (0, 0)).bind _ = _
  rw [h']
  cases r
  ·exact ⟨_, rfl⟩
  ·exact ⟨_, rfl⟩
theorem sL (p1 : List aa) (p3 : List (List aa)) (i j : Int) (hi : 0 ≤ i ∧ i < (p1.length : Int)) (hj : 0 ≤ j ∧ j < (p3.length : Int)) (l : List aa) (x : Int) : eY p1 p3 i j l x = cw p1 p3 i j l x := by
 unfold eY cw iq
 simp only [hi, hj, and_self, if_true, hO, bSq, true_and]
 obtain ⟨v, hv⟩ : ∃ v, v = ((p3.getD j.toNat default).getD x.toNat default).n := ⟨_, rfl⟩
 obtain ⟨w, hw⟩ : ∃ w, w = (p1.getD i.toNat default).n := ⟨_, rfl⟩
 rw [← hv, ← hw]
 by_cases c : -1000000 ≤ v ∧ v ≤ 1000000
 ·rw [dT c, iN (show ¬ v < -1000000 by omega), iN (show ¬ v > 1000000 by omega), iP rfl]
  by_cases d : -1000000 ≤ w ∧ w ≤ 1000000
  ·rw [dT d, iN (show ¬ w < -1000000 by omega), iN (show ¬ w > 1000000 by omega), iP rfl]
  ·rw [dF d, iN (show ¬ false = true by decide)]
   by_cases d1 : w < -1000000
   ·rw [iP d1]
   ·rw [iN d1, iP (show w > 1000000 by omega)]
 ·rw [dF c, iN (show ¬ false = true by decide)]
  have e : ∀ A : Option ((List aa × Int) ⊕ (List aa ⊕ List aa × ag)), (if v < -1000000 then some (Sum.inr (Sum.inr ([], ag.mk 16 (-1)))) else if v > 1000000 then some (Sum.inr (Sum.inr ([], ag.mk 16 (-1)))) else A) = some (Sum.inr (Sum.inr ([], ag.mk 16 (-1)))) := by
   intro A
   by_cases c1 : v < -1000000
   ·rw [iP c1]
   ·rw [iN c1, iP (show v > 1000000 by omega)]
  rw [e]
  by_cases d1 : w < -1000000
  ·rw [iP d1]
  ·rw [iN d1]
   by_cases d2 : w > 1000000
   ·rw [iP d2]
   ·rw [iN d2]
theorem sM (p1 : List aa) (p2 : List (List UInt8)) (hp : p2.length ≤ 1000000) (p3 : List (List aa)) (l : List aa) (x : Int) : eZ p1 p2 p3 l x = cB p1 p2 p3 l x := by
 unfold eZ cB
 by_cases c : x < (p1.length : Int)
 ·rw [iP c, iP c]
  by_cases d : 0 ≤ x ∧ x < (p1.length : Int)
  ·rw [iP d, iP d, rO _ _ hp, kd _ _ hp]
   simp only [bSq]
   by_cases e : (p1.getD x.toNat default).name = []
   ·rw [iP e, iP e]
    unfold dm
    simp only [d, and_self, true_and, show ((-1 : Int) < 0) by decide, if_true]
    rfl
   ·rw [iN e, iN e]
    unfold dm
    simp only [d, and_self, true_and]
    by_cases f : idx p2 (p1.getD x.toNat default).name < 0
    ·rw [iP f, iP f]; rfl
    ·rw [iN f, iN f]
     by_cases g : idx p2 (p1.getD x.toNat default).name ≥ (p3.length : Int)
     ·rw [iP g, iP g]; rfl
     ·rw [iN g, iN g, iP (by omega)]
      have : (fun (s : List aa × Int) => eY p1 p3 x (idx p2 (p1.getD x.toNat default).name) s.1 s.2) = (fun (s : List aa × Int) => cw p1 p3 x (idx p2 (p1.getD x.toNat default).name) s.1 s.2) := by
       funext s; exact sL p1 p3 _ _ d (by omega) s.1 s.2
      show (aW (fun (s : List aa × Int) => eY p1 p3 x (idx p2 (p1.getD x.toNat default).name) s.1 s.2) (l, 0)).bind _ = (aW (fun (s : List aa × Int) => cw p1 p3 x (idx p2 (p1.getD x.toNat default).name) s.1 s.2) (l, 0)).bind _
      rw [this]
      rfl
  ·rw [iN d, iN d]
 ·rw [iN c, iN c]
theorem qS (p1 : List aa) (p2 : List (List UInt8)) (hp : p2.length ≤ 1000000) (p3 : List (List aa)) : jk p1 p2 p3 = iJ p1 p2 p3 := by
 unfold jk iJ
 have : (fun (s : List aa × Int) => eZ p1 p2 p3 s.1 s.2) = (fun (s : List aa × Int) => cB p1 p2 p3 s.1 s.2) := by
  funext s; exact sM p1 p2 hp p3 s.1 s.2
 show (aW (fun (s : List aa × Int) => eZ p1 p2 p3 s.1 s.2) ([], 0)).bind _ = (aW (fun (s : List aa × Int) => cB p1 p2 p3 s.1 s.2) ([], 0)).bind _
 rw [this]
 rfl
theorem m4 {n : Nat} (h : n ≤ 2000000) : gn n 24 := by
 unfold gn maxLen
 omega
theorem qh (p1 : List aa) (p3 : List (List aa)) (i j : Nat) (hi : i < p1.length) (hj : j < p3.length) (hm : (p3.getD j default).length ≤ 1100) : ∀ (k x : Nat) (l : List aa), x + k = (p3.getD j default).length → l.length + k ≤ 1500000 →
  ∃ r, aW (fun (s : List aa × Int) => cw p1 p3 (i : Int) (j : Int) s.1 s.2) (l, (x : Int)) = some r ∧ (∀ l', r = .inl l' → l'.length ≤ l.length + k) ∧ (∀ z, r = .inr z → z.1 = [])
 | 0, x, l, hx, hl => by
  refine ⟨.inl l, bb ?_, fun l' h => by cases h; omega, fun z h => by cases h⟩
  show cw p1 p3 (i : Int) (j : Int) l (x : Int) = _
  unfold cw
  rw [iP (by omega)]
  simp only [tN]
  rw [iN (by omega)]
 | k + 1, x, l, hx, hl => by
  have h : (∃ z, cw p1 p3 (i : Int) (j : Int) l (x : Int) = some (.inr (.inr z)) ∧ z.1 = []) ∨ ∃ t, cw p1 p3 (i : Int) (j : Int) l (x : Int) = some (.inl (l ++ [t], ((x + 1 : Nat) : Int))) := by
   unfold cw iq
   rw [iP (by omega)]
   simp only [tN]
   rw [iP (by omega), iP (by omega)]
   simp only [hO, bSq]
   split
   ·rw [iP (by omega)]
    split
    ·rw [iP (m4 (by omega)), wrs x (by omega)]
     exact .inr ⟨_, rfl⟩
    ·exact .inl ⟨_, rfl, rfl⟩
   ·exact .inl ⟨_, rfl, rfl⟩
  rcases h with ⟨z, h, hz⟩ | ⟨t, h⟩
  ·exact ⟨_, bb (s := (l, (x : Int))) h, fun l' h => (by cases h), fun z' h => by cases h; exact hz⟩
  ·rw [bu (s := (l, (x : Int))) h]
   obtain ⟨r, e, h1, h2⟩ := qh p1 p3 i j hi hj hm k (x + 1) (l ++ [t]) (by omega) (by simp; omega)
   refine ⟨r, e, fun l' hl' => ?_, h2⟩
   have := h1 l' hl'
   simp at this
   omega
theorem oX (p1 : List aa) (hp1 : p1.length ≤ 1100) (p2 : List (List UInt8)) (hp : p2.length ≤ 1000000) (p3 : List (List aa)) (hm : ∀ x ∈ p3, x.length ≤ 1100) : ∀ (k x : Nat) (l : List aa), x + k = p1.length → l.length ≤ 1101 * x →
  ∃ r, aW (fun (s : List aa × Int) => cB p1 p2 p3 s.1 s.2) (l, (x : Int)) = some r ∧ (∀ z, r = .inr z → z.1 = [])
 | 0, x, l, hx, hl => by
  refine ⟨.inl l, bb ?_, fun z h => by cases h⟩
  show cB p1 p2 p3 l (x : Int) = _
  unfold cB
  rw [iN (by omega)]
 | k + 1, x, l, hx, hl => by
  have hj2 : ∀ l' : List aa, dZ (x : Int) l' = some (.inl (l', ((x + 1 : Nat) : Int))) := fun l' => by
   unfold dZ
   rw [wrs x (by omega)]
  have hroom : gn (l.length + 1) 24 := m4 (by omega)
  have hxx : 0 ≤ (x : Int) ∧ (x : Int) < (p1.length : Int) := by omega
  have hap : ∀ v : Int, (v < 0 ∨ v ≥ (p3.length : Int)) → dm p1 p3 l (x : Int) v = some (.inl (l ++ [p1.getD x default], ((x + 1 : Nat) : Int))) := by
   intro v hv
   unfold dm
   have hh : (0 ≤ (x : Int) ∧ (x : Int) < (p1.length : Int)) ∧ gn (l.length + 1) 24 := And.intro hxx hroom
   by_cases c : v < 0
   ·rw [iP c, iP hh, hj2, tN]; rfl
   ·rw [iN c, iP (show v ≥ (p3.length : Int) by omega), iP hh, hj2, tN]; rfl
  have h : (∃ z, cB p1 p2 p3 l (x : Int) = some (.inr (.inr z)) ∧ z.1 = []) ∨ ∃ l', cB p1 p2 p3 l (x : Int) = some (.inl (l', ((x + 1 : Nat) : Int))) ∧ l'.length ≤ l.length + 1100 := by
   unfold cB
   rw [iP (by omega), iP hxx, kd _ _ hp]
   simp only [bSq]
   split
   ·rw [hap _ (.inl (by decide))]
    exact .inr ⟨_, rfl, by simp⟩
   ·obtain ⟨v, hv⟩ : ∃ v, v = idx p2 (p1.getD (x : Int).toNat default).name := ⟨_, rfl⟩
    rw [← hv]
    by_cases c : v < 0 ∨ v ≥ (p3.length : Int)
    ·rw [hap v c]
     exact .inr ⟨_, rfl, by simp⟩
    ·obtain ⟨j, rfl⟩ : ∃ j : Nat, v = (j : Int) := ⟨v.toNat, by omega⟩
     have hj : j < p3.length := by omega
     have hmj := hm _ (gQ hj)
     obtain ⟨r, e, h1, h2⟩ := qh p1 p3 x j (by omega) hj hmj _ 0 l (Nat.zero_add _) (by omega)
     unfold dm
     rw [iN (by omega), iN (by omega)]
     have e' : aW (fun (s : List aa × Int) => cw p1 p3 (x : Int) (j : Int) s.1 s.2) (l, 0) = some r := e
     show (∃ z, (aW (fun (s : List aa × Int) => cw p1 p3 (x : Int) (j : Int) s.1 s.2) (l, 0)).bind _ = _ ∧ _) ∨ ∃ l', (aW (fun (s : List aa × Int) => cw p1 p3 (x : Int) (j : Int) s.1 s.2) (l, 0)).bind _ = _ ∧ _
     rw [e']
     cases r with
     | inl l' =>
      right
      refine ⟨l', hj2 l', ?_⟩
      have := h1 l' rfl
      omega
     | inr z => exact .inl ⟨z, rfl, h2 z rfl⟩
  rcases h with ⟨z, h, hz⟩ | ⟨l', h, hl'⟩
  ·exact ⟨_, bb (s := (l, (x : Int))) h, fun z' h => by cases h; exact hz⟩
  ·rw [bu (s := (l, (x : Int))) h]
   exact oX p1 hp1 p2 hp p3 hm k (x + 1) l' (by omega) (by omega)
theorem rS (p1 : List aa) (hp1 : p1.length ≤ 1100) (p2 : List (List UInt8)) (hp : p2.length ≤ 1000000) (p3 : List (List aa)) (hm : ∀ x ∈ p3, x.length ≤ 1100) : ∃ r, iJ p1 p2 p3 = some r ∧ r.1.length ≤ 1000 := by
 unfold iJ
 obtain ⟨r, e, h⟩ := oX p1 hp1 p2 hp p3 hm p1.length 0 [] (by omega) (by simp)
 have e' : aW (fun (s : List aa × Int) => cB p1 p2 p3 s.1 s.2) ([], 0) = some r := e
 show ∃ r, (aW (fun (s : List aa × Int) => cB p1 p2 p3 s.1 s.2) ([], 0)).bind _ = _ ∧ _
 rw [e']
 cases r with
 | inr z => exact ⟨z, rfl, by rw [h z rfl]; simp⟩
 | inl l =>
  simp only [bSq, Sum.elim_inl]
  unfold gA iq
  split
  ·exact ⟨_, rfl, by simp⟩
  ·exact ⟨_, rfl, by simp only; omega⟩
def nK : List UInt8 := [107]
def nM : List UInt8 := [109]
def nN : List UInt8 := [110]
def oj (s : List UInt8) : Prop := s = [] ∨ s = nK ∨ s = nM ∨ s = nN
def fc (v : List UInt8 → Int) (N : List aa) : Int := (N.map fun t => t.n * v t.name).sum
theorem du (v : List UInt8 → Int) (t : aa) (N : List aa) : fc v (t :: N) = t.n * v t.name + fc v N := by
 unfold fc; rw [List.map_cons, List.sum_cons]
theorem ke (v : List UInt8 → Int) : ∀ {N : List aa}, (∀ t ∈ N, oj t.name) → fc v N = db N [] * v [] + db N nK * v nK + db N nM * v nM + db N nN * v nN
 | [], _ => by simp [fc, gR]
 | t :: N, h => by
  rw [du, ke v (fun u hu => h u (by simp [hu])), cq, cq, cq, cq]
  simp only [Int.add_mul]
  rcases h t (by simp) with e | e | e | e <;> rw [e]
  ·rw [iP rfl, iN (by decide), iN (by decide), iN (by decide)]; omega
  ·rw [iN (by decide), iP rfl, iN (by decide), iN (by decide)]; omega
  ·rw [iN (by decide), iN (by decide), iP rfl, iN (by decide)]; omega
  ·rw [iN (by decide), iN (by decide), iN (by decide), iP rfl]; omega
def fa (p2 : List (List UInt8)) (p3 : List Int) (s : List UInt8) : Int := if s = [] then 1 else p3.getD (idx p2 s).toNat default
theorem lQ {a b A B : Int} (h1 : -A ≤ a ∧ a ≤ A) (h2 : 0 ≤ b ∧ b ≤ B) (hA : 0 ≤ A) : -(A * B) ≤ a * b ∧ a * b ≤ A * B := by
 have m1 : a * b ≤ A * b := Int.mul_le_mul_of_nonneg_right h1.2 h2.1
 have m2 : -A * b ≤ a * b := Int.mul_le_mul_of_nonneg_right h1.1 h2.1
 have m3 : A * b ≤ A * B := Int.mul_le_mul_of_nonneg_left h2.2 hA
 rw [Int.neg_mul] at m2
 omega
theorem oY (p2 : List (List UInt8)) (hp : p2.length ≤ 1000000) (p3 : List Int) (y : List aa × ag) (hy : y.1.length ≤ 1000) (hn : ∀ t ∈ y.1, -1000 ≤ t.n ∧ t.n ≤ 1000)
  (hv : ∀ t ∈ y.1, 0 ≤ fa p2 p3 t.name ∧ fa p2 p3 t.name ≤ 4) (hi : ∀ t ∈ y.1, t.name ≠ [] → 0 ≤ idx p2 t.name ∧ idx p2 t.name < (p3.length : Int)) :
  ∀ (k i : Nat) (a : Int), i + k = y.1.length → -4000 * (i : Int) ≤ a ∧ a ≤ 4000 * (i : Int) → aW (fun (x : Int × Int) => aX p2 p3 y x.1 x.2) (a, (i : Int)) = some (.inl (a + fc (fa p2 p3) (y.1.drop i)))
 | 0, i, a, hk, ha => by
  rw [show y.1.drop i = [] from List.drop_of_length_le (by omega)]
  refine bb ?_
  show aX p2 p3 y a (i : Int) = _
  unfold aX
  rw [iN (by omega)]
  simp [fc]
 | k + 1, i, a, hk, ha => by
  have hiy : i < y.1.length := by omega
  obtain ⟨t, ht⟩ : ∃ t, t = y.1.getD i default := ⟨_, rfl⟩
  have htm : t ∈ y.1 := by rw [ht]; exact gQ hiy
  have b1 := hn t htm
  have b2 := hv t htm
  have b3 := lQ (A := 1000) (B := 4) b1 b2 (by decide)
  have h : aX p2 p3 y a (i : Int) = some (.inl (a + t.n * fa p2 p3 t.name, ((i + 1 : Nat) : Int))) := by
   unfold aX
   rw [iP (by omega), iP (by omega), wrs i (by omega)]
   simp only [tN]
   rw [← ht]
   by_cases c : t.name = []
   ·have e1 : fa p2 p3 t.name = 1 := by unfold fa; rw [iP c]
    rw [iP c, e1, Int.mul_one, wr (by omega) (by omega)]
   ·have e1 : fa p2 p3 t.name = p3.getD (idx p2 t.name).toNat default := by unfold fa; rw [iN c]
    obtain ⟨g1, g2⟩ := hi t htm c
    rw [iN c, kd _ _ hp]
    simp only [bSq]
    rw [iN (by omega), iN (by omega), iP ⟨g1, g2⟩, hO, ← e1]
    simp only [bSq]
    rw [dT (by omega), iP rfl, wr (n := t.n * fa p2 p3 t.name) (by omega) (by omega), wr (by omega) (by omega)]
  rw [bu (s := (a, (i : Int))) h, oY p2 hp p3 y hy hn hv hi k (i + 1) _ (by omega) (by omega), fX y.1 i hiy, ← ht, du, Int.add_assoc]
theorem oZ (L N : List aa) (p2 : List (List UInt8)) (hp : p2.length ≤ 1000000) (p3 : List Int) (e : dj L = some (N, ag.mk 0 0)) (hn : ∀ t ∈ N, -1000 ≤ t.n ∧ t.n ≤ 1000)
  (hv : ∀ t ∈ N, 0 ≤ fa p2 p3 t.name ∧ fa p2 p3 t.name ≤ 4) (hi : ∀ t ∈ N, t.name ≠ [] → 0 ≤ idx p2 t.name ∧ idx p2 t.name < (p3.length : Int)) :
  di L p2 p3 = some (fc (fa p2 p3) N, ag.mk 0 0) := by
 unfold di
 rw [e]
 simp only [bSq]
 rw [iN (by simp)]
 have h := oY p2 hp p3 (N, ag.mk 0 0) (m0 e) hn hv hi N.length 0 0 (by simp) (by simp)
 have h' : aW (fun (x : Int × Int) => aX p2 p3 (N, ag.mk 0 0) x.1 x.2) (0, 0) = some (.inl (0 + fc (fa p2 p3) (N.drop 0))) := h
 show (aW (fun (x : Int × Int) => aX p2 p3 (N, ag.mk 0 0) x.1 x.2) (0, 0)).bind _ = _
 rw [h', List.drop_zero, Int.zero_add]
 rfl
theorem j2 (L N : List aa) (hl : L.length ≤ 1000) (hs : gc L) (hc : fv L N) : dj L = some (N, ag.mk 0 0) := by
 obtain ⟨r, e, _, h⟩ := i5 L
 obtain ⟨r', e', h'⟩ := i4 L
 rw [e'] at e
 cases e
 rw [e']
 rcases h' with ⟨h1, _⟩ | ⟨_, h1 | ⟨_, N', h2, h3⟩⟩
 ·omega
 ·rw [jE hs] at h1; cases h1
 ·rw [h2, hc.uniq h3]
def bg1 : List aa := [aa.mk 2 [110], aa.mk 3 [], aa.mk (-1) [110]]
def bg2 : List aa := [aa.mk 2 [110], aa.mk (-1) []]
theorem qT : fv bg1 [aa.mk 3 [], aa.mk 1 [110]] := by
 refine ⟨by simp [ltT, Op.bytesLess], fun t => ?_⟩
 obtain ⟨n, s⟩ := t
 unfold bg1
 simp only [cq, gR, List.mem_cons, List.not_mem_nil, or_false, aa.mk.injEq]
 by_cases c1 : s = []
 ·subst c1
  simp
  omega
 ·by_cases c2 : s = [110]
  ·subst c2
   simp
   omega
  ·have d1 : ¬ ([110] : List UInt8) = s := fun e => c2 e.symm
   have d2 : ¬ ([] : List UInt8) = s := fun e => c1 e.symm
   simp only [c1, c2, d1, d2, if_false, and_false, or_false, false_iff]
   omega
theorem qU : fv bg2 [aa.mk (-1) [], aa.mk 2 [110]] := by
 refine ⟨by simp [ltT, Op.bytesLess], fun t => ?_⟩
 obtain ⟨n, s⟩ := t
 unfold bg2
 simp only [cq, gR, List.mem_cons, List.not_mem_nil, or_false, aa.mk.injEq]
 by_cases c1 : s = []
 ·subst c1
  simp
  omega
 ·by_cases c2 : s = [110]
  ·subst c2
   simp
   omega
  ·have d1 : ¬ ([110] : List UInt8) = s := fun e => c2 e.symm
   have d2 : ¬ ([] : List UInt8) = s := fun e => c1 e.symm
   simp only [c1, c2, d1, d2, if_false, and_false, or_false, false_iff]
   omega
theorem iO (fuel : Nat) (hf : 1000 ≤ fuel) : d8 fuel = some true := by
 unfold d8
 rw [iB fuel hf, dD fuel hf _ _ (by decide)]
 have e1 : dj (lit ([(aa.mk 2 ([110] : List UInt8)), (aa.mk 3 []), (aa.mk (-1) ([110] : List UInt8))] : List aa)) = some ([aa.mk 3 [], aa.mk 1 [110]], ag.mk 0 0) :=
  j2 bg1 _ (by decide) (by unfold bg1 gc; simp) qT
 have e2 : dj (lit ([(aa.mk 2 ([110] : List UInt8)), (aa.mk (-1) [])] : List aa)) = some ([aa.mk (-1) [], aa.mk 2 [110]], ag.mk 0 0) :=
  j2 bg2 _ (by decide) (by unfold bg2 gc; simp) qU
 have ei : idx ([([110] : List UInt8)] : List (List UInt8)) [110] = 0 := by rfl
 have e3 := oZ _ _ (lit ([([110] : List UInt8)] : List (List UInt8))) (by decide) (lit ([4] : List Int)) e2 (by simp)
  (by intro t ht; simp only [List.mem_cons, List.not_mem_nil, or_false] at ht; rcases ht with rfl | rfl <;> simp [fa, ei, lit])
  (by intro t ht; simp only [List.mem_cons, List.not_mem_nil, or_false] at ht; rcases ht with rfl | rfl <;> simp [ei, lit])
 have e4 : fc (fa (lit ([([110] : List UInt8)] : List (List UInt8))) (lit ([4] : List Int))) [aa.mk (-1) [], aa.mk 2 [110]] = 7 := by
  simp [fc, fa, ei, lit]
 rw [e4] at e3
 rw [e1, e3]
 simp only [bSq, if_true]
 rw [fY _ _ (by decide)]
 rfl
end Pam
