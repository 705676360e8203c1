/- Tokens cover the text: plain laws. No program in sight. -/
import Derived.Test.YtmnbfnhdnloigaaDoorTabcPlain1
import Derived.Test.YtmnbfnhdnloigaaDoorTbFun1
import Derived.Test.YtmnbfnhdnloigaaDoorTWide1
set_option linter.all false
namespace Pam
open Go
def jx : Bool → List UInt8 → Nat → Bool
 | _, _, 0 => true
 | _, [], _ + 1 => false
 | r, c :: l, n + 1 =>
  let r2 := if c.toNat = 35 then true else if c.toNat = 10 then false else r
  (r2 || decide (tBl c ∨ c.toNat = 10)) && jx r2 l n
theorem mO (r : Bool) (s : List UInt8) : jx r s (s.length - (blk r s).length) = true := by
 induction s generalizing r with
 | nil => simp [blk, jx]
 | cons c l ih =>
  have e : blk r (c :: l) = if c.toNat = 10 then blk false l else if r = true ∨ tBl c then blk r l else if c.toNat = 35 then blk true l else c :: l := rfl
  have key : ∀ q, blk r (c :: l) = blk q l → (if c.toNat = 35 then true else if c.toNat = 10 then false else r) = q → (q || decide (tBl c ∨ c.toNat = 10)) = true → jx r (c :: l) ((c :: l).length - (blk r (c :: l)).length) = true := by
   intro q h1 h2 h3
   have hq := eq q l
   rw [h1, List.length_cons, show l.length + 1 - (blk q l).length = (l.length - (blk q l).length) + 1 by omega]
   unfold jx
   simp only
   rw [h2, h3, ih q]; rfl
  by_cases h1 : c.toNat = 10
  ·rw [iP h1] at e
   exact key false e (by rw [iN (by omega), iP h1]) (by simp [h1])
  ·rw [iN h1] at e
   by_cases h2 : r = true ∨ tBl c
   ·rw [iP h2] at e
    refine key r e ?_ ?_
    ·by_cases h3 : c.toNat = 35
     ·rw [iP h3]
      rcases h2 with h2 | h2
      ·exact h2.symm
      ·unfold tBl at h2; omega
     ·rw [iN h3, iN h1]
    ·rcases h2 with h2 | h2
     ·simp [h2]
     ·simp [h2]
   ·rw [iN h2] at e
    by_cases h3 : c.toNat = 35
    ·rw [iP h3] at e
     exact key true e (by rw [iP h3]) rfl
    ·rw [iN h3] at e
     rw [e]
     simp [jx]
def e7 (src : List UInt8) : Nat → List aa → Bool
 | p, [] => decide (p ≤ src.length) && jx false (src.drop p) (src.length - p)
 | p, t :: l => decide ((p : Int) ≤ t.at_) && jx false (src.drop p) (t.at_.toNat - p) && decide (t.text ≠ []) && decide (t.at_.toNat + t.text.length ≤ src.length) && decide ((src.drop t.at_.toNat).take t.text.length = t.text) && e7 src (t.at_.toNat + t.text.length) l
theorem kI (src : List UInt8) : ∀ (k p : Nat) (s : List UInt8) (l : List aa), p ≤ src.length → src.drop p = s → s.length < k → a8 k p s = .inl l → e7 src p l = true := by
 intro k
 induction k with
 | zero => intro p s l _ _ h; omega
 | succ k ih =>
  intro p s l hp hs hk h
  rw [bO] at h
  have hg := mO false s
  have hb := eq false s
  have hd := kD false s
  have hsl : s.length = src.length - p := by rw [← hs, List.length_drop]
  cases e : blk false s with
  | nil =>
   rw [e] at h hg
   simp only [Sum.inl.injEq] at h
   subst h
   unfold e7
   rw [hs, ← hsl]
   simp only [List.length_nil, Nat.sub_zero] at hg
   rw [hg]; simp [hp]
  | cons c m =>
   rw [e] at h hg hb hd
   simp only at h
   cases ht : dX (p + (s.length - (c :: m).length)) (c :: m) with
   | inr q => rw [ht] at h; cases h
   | inl t =>
    rw [ht] at h
    simp only at h
    obtain ⟨t1, t2, t3⟩ := cY ht
    have hpos : 0 < t.text.length := List.length_pos_iff.2 t2
    have hle := t3.length_le
    cases hr : a8 k (p + (s.length - (c :: m).length) + t.text.length) ((c :: m).drop t.text.length) with
    | inr q => rw [hr] at h; cases h
    | inl l2 =>
     rw [hr] at h
     simp only [Sum.inl.injEq] at h
     subst h
     have hat : t.at_.toNat = p + (s.length - (c :: m).length) := by rw [t1]; omega
     have hdr : src.drop (p + (s.length - (c :: m).length)) = c :: m := by
      rw [← List.drop_drop, hs]; exact hd.symm
     unfold e7
     rw [hat, hs, show p + (s.length - (c :: m).length) - p = s.length - (c :: m).length by omega, hg, hdr]
     rw [ih _ _ l2 (by omega) (by rw [← List.drop_drop, hdr]) (by rw [List.length_drop]; omega) hr]
     have h6 : (c :: m).take t.text.length = t.text := (List.prefix_iff_eq_take.1 t3).symm
     rw [h6]
     have hcm : (c :: m).length = m.length + 1 := rfl
     simp only [Bool.and_true, Bool.and_eq_true, decide_eq_true_eq]
     refine ⟨⟨⟨?_, t2⟩, by omega⟩, trivial⟩
     rw [t1]; omega
theorem jl (src : List UInt8) (hl : src.length ≤ 100000) (to : Nat) (hto : to ≤ src.length) : ∀ (k p : Nat) (r : Bool), p + k = to → jx r (src.drop p) k = true →
  cm (fun (x16, b17) => aZ src (to : Int) x16 b17) ((p : Int), r) = some (.inl (to : Int))
 | 0, p, r, h, _ => by
  have : p = to := by omega
  subst this
  refine aT ?_
  show aZ _ _ _ _ = _
  unfold aZ
  rw [iN (da _)]
 | k + 1, p, r, h, hg => by
  have hp : p < src.length := by omega
  obtain ⟨c, hc⟩ : ∃ c, src.getD p 0 = c := ⟨_, rfl⟩
  rw [ie src p hp, hc] at hg
  unfold jx at hg
  simp only [Bool.and_eq_true, Bool.or_eq_true, decide_eq_true_eq] at hg
  obtain ⟨g1, g2⟩ := hg
  obtain ⟨q, hq⟩ : ∃ q, q = (if c.toNat = 35 then true else if c.toNat = 10 then false else r) := ⟨_, rfl⟩
  rw [← hq] at g1 g2
  have j6 : bp src (p : Int) q = some (.inl (((p + 1 : Nat) : Int), q)) := by
   unfold bp
   rw [wr1 p (by omega)]
   by_cases hqt : q = true
   ·rw [iP hqt]
   rw [iN hqt, iP (inI hp), tN, hc]
   have := g1.resolve_left hqt
   unfold tBl at this
   by_cases h1 : (c.toNat : Int) = 32
   ·rw [iN (fun h => h h1)]
   rw [iP h1]
   by_cases h2 : (c.toNat : Int) = 9
   ·rw [iN (fun h => h h2)]
   rw [iP h2]
   by_cases h3 : (c.toNat : Int) = 10
   ·rw [iN (fun h => h h3)]
   rw [iP h3, iN (by omega)]
  have j5 : ∀ b, (if c.toNat = 35 then true else b) = q → bq src (p : Int) b = some (.inl (((p + 1 : Nat) : Int), q)) := fun b hb => by
   unfold bq
   rw [iP (inI hp), tN, hc]
   by_cases h1 : c.toNat = 35
   ·rw [iP h1] at hb
    rw [iP (by omega), hb, j6]
   ·rw [iN h1] at hb
    rw [iN (by omega), hb, j6]
  rw [bW (s' := (((p + 1 : Nat) : Int), q)) (by
   show aZ _ _ _ _ = _
   unfold aZ
   rw [iP (by omega), iP (inI hp), tN, hc]
   by_cases h1 : c.toNat = 10
   ·rw [iP (by omega)]
    exact j5 false (by rw [hq, iP h1])
   ·rw [iN (by omega)]
    exact j5 r (by rw [hq, iN h1]))]
  exact jl src hl to hto k (p + 1) q (by omega) g2
theorem iF (src : List UInt8) (hl : src.length ≤ 100000) (y2 : List aa × aA) (hy : y2.1.length ≤ 100000) : ∀ (k i p : Nat), i + k = y2.1.length → e7 src p (y2.1.drop i) = true →
  cm (fun (x7, x8) => aL src y2 x7 x8) ((p : Int), (i : Int)) = some (.inl ())
 | 0, i, p, h, hc => by
  have : i = y2.1.length := by omega
  subst this
  rw [List.drop_length] at hc
  unfold e7 at hc
  rw [Bool.and_eq_true, decide_eq_true_eq] at hc
  rw [bW (s' := ((src.length : Int), ((y2.1.length + 1 : Nat) : Int))) (by
   show aL _ _ _ _ = _
   unfold aL
   rw [iP (Int.le_refl _), iN (da _)]
   unfold br
   rw [iN (by omega), jl src hl src.length (Nat.le_refl _) (src.length - p) p false (by omega) hc.2]
   simp only [bSq, Sum.elim_inl]
   unfold bo bn
   rw [iN (da _), wr1 _ (by omega)])]
  refine aT ?_
  show aL _ _ _ _ = _
  unfold aL
  rw [iN (by omega)]
 | k + 1, i, p, h, hc => by
  have hi : i < y2.1.length := by omega
  rw [l6 y2.1 i hi] at hc
  obtain ⟨t, ht⟩ : ∃ t, y2.1.getD i default = t := ⟨_, rfl⟩
  rw [ht] at hc
  unfold e7 at hc
  simp only [Bool.and_eq_true, decide_eq_true_eq] at hc
  obtain ⟨⟨⟨⟨⟨c1, c2⟩, c3⟩, c4⟩, c5⟩, c6⟩ := hc
  obtain ⟨q, hq⟩ : ∃ q : Nat, t.at_ = q := ⟨t.at_.toNat, by omega⟩
  rw [hq] at c1 c2 c4 c5 c6
  rw [tN] at c2 c4 c5 c6
  have hpos : 0 < t.text.length := List.length_pos_iff.2 c3
  have hw : IntKind.wrap .i64 ((q : Int) + (t.text.length : Int)) = ((q + t.text.length : Nat) : Int) := by rw [wr (by omega) (by omega)]; omega
  have hw2 : IntKind.wrap .i64 ((src.length : Int) - (q : Int)) = (src.length : Int) - (q : Int) := wr (by omega) (by omega)
  rw [bW (s' := (((q + t.text.length : Nat) : Int), ((i + 1 : Nat) : Int))) (by
   show aL _ _ _ _ = _
   unfold aL
   rw [iP (by omega), iP (ltI hi), iP (inI hi), tN, ht, hq]
   unfold br
   rw [iN (by omega), jl src hl q (by omega) (q - p) p false (by omega) c2]
   simp only [bSq, Sum.elim_inl]
   unfold bo bn
   rw [iP (ltI hi), iP (inI hi)]
   simp only [tN, ht]
   rw [hw, hw2, iN (by omega), iN (by omega), iP ⟨by omega, by omega, by omega⟩, tN, List.drop_take, show q + t.text.length - q = t.text.length by omega, iP c5, wr1 i (by omega)])]
  exact iF src hl y2 hy k (i + 1) (q + t.text.length) (by omega) c6
theorem eT : ∀ (k p : Nat) (s : List UInt8) (f : aA), a8 k p s = .inr f → f.code ≠ 0 ∧ (p : Int) ≤ f.at_ ∧ f.at_ ≤ ((p + s.length : Nat) : Int) := by
 intro k
 induction k with
 | zero => intro p s f h; cases h
 | succ k ih =>
  intro p s f h
  rw [bO] at h
  have hb := eq false s
  cases e : blk false s with
  | nil => rw [e] at h; cases h
  | cons c m =>
   rw [e] at h hb
   simp only at h
   cases ht : dX (p + (s.length - (c :: m).length)) (c :: m) with
   | inr q =>
    rw [ht] at h
    simp only [Sum.inr.injEq] at h
    subst h
    refine ⟨?_, by simp only; omega, by simp only; omega⟩
    show q ≠ 0
    unfold dX at ht
    simp only at ht
    intro hq
    subst hq
    repeat' split at ht
    all_goals cases ht
   | inl t =>
    rw [ht] at h
    simp only at h
    obtain ⟨_, t2, t3⟩ := cY ht
    have hle := t3.length_le
    cases hr : a8 k (p + (s.length - (c :: m).length) + t.text.length) ((c :: m).drop t.text.length) with
    | inl l => rw [hr] at h; cases h
    | inr f2 =>
     rw [hr] at h
     simp only [Sum.inr.injEq] at h
     subst h
     have := ih _ _ _ hr
     rw [List.length_drop] at this
     refine ⟨this.1, by omega, by omega⟩
theorem gc (src : List UInt8) (_ : okT src) (_ : szS src ≤ 1048576) : dy src = some true := by
 unfold dy
 rw [et]
 simp only [bSq, if_true]
 by_cases h : (src.length : Int) > 12000
 ·rw [iP h]
 rw [iN h, gj src (by omega)]
 simp only [bSq]
 have hR : gb src = match a8 (src.length + 1) 0 src with
  | .inl m => (m, aA.mk 0 0)
  | .inr f => ([], f) := by unfold gb; rw [iN (by omega)]; rfl
 cases hs : a8 (src.length + 1) 0 src with
 | inr f =>
  rw [hs] at hR
  obtain ⟨f1, f2, f3⟩ := eT _ _ _ _ hs
  rw [hR]
  simp only
  rw [iP f1, iP (show ((([] : List aa).length : Nat) : Int) = 0 from rfl), iP (by omega)]
  congr 1
  rw [decide_eq_true_iff]; omega
 | inl m =>
  rw [hs] at hR
  have hc := kI src (src.length + 1) 0 src m (by omega) (by simp) (by omega) hs
  have hlen : m.length ≤ 100000 := by
   have key : ∀ (l : List aa) (p : Nat), e7 src p l = true → l.length + p ≤ src.length := by
    intro l
    induction l with
    | nil => intro p h; unfold e7 at h; rw [Bool.and_eq_true, decide_eq_true_eq] at h; simp; exact h.1
    | cons t l ih =>
     intro p h
     unfold e7 at h
     simp only [Bool.and_eq_true, decide_eq_true_eq] at h
     obtain ⟨⟨⟨⟨⟨c1, _⟩, c3⟩, c4⟩, _⟩, c6⟩ := h
     have := ih _ c6
     have hpos : 0 < t.text.length := List.length_pos_iff.2 c3
     simp only [List.length_cons]
     omega
   have := key m 0 hc
   omega
  rw [hR]
  simp only
  rw [iN (by simp)]
  have := iF src (by omega) (m, aA.mk 0 0) hlen m.length 0 0 (by simp) (by simpa using hc)
  simp only [Int.natCast_zero] at this
  rw [this]
  rfl
end Pam
