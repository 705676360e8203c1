/- THE SAME SIZES, THE SAME NUMBERS. -/
import Derived.Test.YtphpneddmkickaaHabcPlain1
import Derived.Test.YtphpneddmkickaaHbcFun1
set_option linter.all false
namespace Pam
open Go
def T4 (L : List aa) : Prop := ∀ t ∈ L, (-3 ≤ t.n ∧ t.n ≤ 3) ∧ oj t.name
theorem uw (p : Int) : 0 ≤ IntKind.wrap .u64 p ∧ IntKind.wrap .u64 p < 18446744073709551616 := by
  simp only [IntKind.wrap_u64]; omega
theorem uwi {n : Int} (h : 0 ≤ n ∧ n < 18446744073709551616) : IntKind.wrap .u64 n = n := by
  simp only [IntKind.wrap_u64]; omega
theorem lZ (p : Int) : ∃ t, dk p = some t ∧ (-3 ≤ t.n ∧ t.n ≤ 3) ∧ oj t.name := by
  unfold dk
  obtain ⟨w, hw⟩ : ∃ w, w = IntKind.wrap .u64 p := ⟨_, rfl⟩
  have hw2 := uw p
  rw [← hw] at hw2 ⊢
  rw [Int.tmod_eq_emod_of_nonneg hw2.1, Int.tdiv_eq_ediv_of_nonneg hw2.1]
  have h4 : 0 ≤ w % 4 ∧ w % 4 < 4 := by omega
  rw [wr (n := w % 4) (by omega) (by omega), iP h4, uwi (n := w / 4) (by omega), Int.tmod_eq_emod_of_nonneg (by omega : 0 ≤ w / 4), wr (n := w / 4 % 7) (by omega) (by omega), wr (by omega) (by omega)]
  refine ⟨_, rfl, by simp only; omega, ?_⟩
  simp only
  have : w % 4 = 0 ∨ w % 4 = 1 ∨ w % 4 = 2 ∨ w % 4 = 3 := by omega
  rcases this with e | e | e | e <;> rw [e]
  · exact .inl rfl
  · exact .inr (.inl rfl)
  · exact .inr (.inr (.inl rfl))
  · exact .inr (.inr (.inr rfl))
theorem m5 (p : List Int) (hp : p.length ≤ 100) : ∀ (k i : Nat) (L : List aa), i + k = p.length → L.length = i → T4 L →
    ∃ L', aW (fun (x : List aa × Int) => aH p x.1 x.2) (L, (i : Int)) = some L' ∧ L'.length ≤ 100 ∧ T4 L'
  | 0, i, L, hi, hl, h => by
    refine ⟨L, bb ?_, by omega, h⟩
    show aH p L (i : Int) = _
    unfold aH
    rw [iN (by omega)]
  | k + 1, i, L, hi, hl, h => by
    obtain ⟨t, e, h1⟩ := lZ (p.getD i default)
    have hst : aH p L (i : Int) = some (.inl (L ++ [t], ((i + 1 : Nat) : Int))) := by
      unfold aH
      rw [iP (by omega), iP (by omega), tN, e]
      simp only [bSq]
      rw [iP (e9 (by omega)), wrs i (by omega)]
      rfl
    rw [bu (s := (L, (i : Int))) hst]
    refine m5 p hp k (i + 1) _ (by omega) (by simp; omega) ?_
    intro u hu
    rw [List.mem_append, List.mem_singleton] at hu
    rcases hu with hu | rfl
    · exact h u hu
    · exact h1
theorem o6 (p : List Int) (hp : p.length ≤ 100) : ∃ L, aW (fun (x : List aa × Int) => aH p x.1 x.2) ([], 0) = some L ∧ L.length ≤ 100 ∧ T4 L :=
  m5 p hp p.length 0 [] (by omega) rfl (fun t ht => by simp at ht)
theorem uf : dx = aH := by
  funext p L x
  unfold dx aH
  rfl
def lin (L : List aa) (a b c : Int) : Int := db L [] + db L nK * a + db L nM * b + db L nN * c
theorem rT {L : List aa} (h : T4 L) : gc L := fun t ht => by have := (h t ht).1; omega
theorem tB {L : List aa} (h : T4 L) (s : List UInt8) : -3 * (L.length : Int) ≤ db L s ∧ db L s ≤ 3 * (L.length : Int) := by
  induction L with
  | nil => rw [gR]; exact ⟨by simp, by simp⟩
  | cons t L ih =>
    obtain ⟨i1, i2⟩ := ih (fun u hu => h u (by simp [hu]))
    obtain ⟨h1, h2⟩ := (h t (by simp)).1
    rw [cq, List.length_cons]
    split <;> omega
theorem om {L : List aa} (h : T4 L) (hl : L.length ≤ 100) : ∃ N, dj L = some (N, ag.mk 0 0) ∧ fv L N := by
  obtain ⟨r, e, _, hr⟩ := i5 L
  obtain ⟨r', e', hr'⟩ := i4 L
  rw [e'] at e
  cases e
  rcases hr' with ⟨h1, _⟩ | ⟨_, h1 | ⟨_, N, h2, h3⟩⟩
  · omega
  · rw [jE (rT h)] at h1; cases h1
  · exact ⟨N, by rw [e', h2], h3⟩
def nms : List (List UInt8) := [nK, nM, nN]
theorem m6 {L : List aa} (h : T4 L) (hl : L.length ≤ 100) (a b c : Int) (ha : 0 ≤ a ∧ a ≤ 3) (hb : 0 ≤ b ∧ b ≤ 3) (hc : 0 ≤ c ∧ c ≤ 3) : di L nms [a, b, c] = some (lin L a b c, ag.mk 0 0) := by
  obtain ⟨N, e, hN⟩ := om h hl
  have h4 : ∀ t ∈ N, oj t.name := by
    intro t ht
    obtain ⟨g1, g2⟩ := (hN.mem t).1 ht
    obtain ⟨u, hu, en⟩ := lk (L := L) (s := t.name) (by rw [← g2]; exact g1)
    rw [← en]
    exact (h u hu).2
  have i1 : idx nms nK = 0 := by rfl
  have i2 : idx nms nM = 1 := by rfl
  have i3 : idx nms nN = 2 := by rfl
  have v0 : fa nms [a, b, c] [] = 1 := by simp [fa]
  have v1 : fa nms [a, b, c] nK = a := by unfold fa; rw [iN (by decide), i1]; rfl
  have v2 : fa nms [a, b, c] nM = b := by unfold fa; rw [iN (by decide), i2]; rfl
  have v3 : fa nms [a, b, c] nN = c := by unfold fa; rw [iN (by decide), i3]; rfl
  rw [oZ L N nms (by decide) [a, b, c] e (fun t ht => by
      obtain ⟨g1, g2⟩ := (hN.mem t).1 ht
      have := tB h t.name
      omega) (fun t ht => by
      rcases h4 t ht with e | e | e | e <;> rw [e]
      · rw [v0]; decide
      · rw [v1]; omega
      · rw [v2]; omega
      · rw [v3]; omega) (fun t ht hne => by
      rcases h4 t ht with e | e | e | e <;> rw [e]
      · exact absurd e hne
      · rw [i1]; exact ⟨by omega, by simp⟩
      · rw [i2]; exact ⟨by omega, by simp⟩
      · rw [i3]; exact ⟨by omega, by simp⟩)]
  rw [ke _ h4, v0, v1, v2, v3, hN.sum, hN.sum, hN.sum, hN.sum, Int.mul_one]
  rfl
theorem qi (fuel : Nat) (hf : 1000 ≤ fuel) {L L' : List aa} (h : T4 L) (hl : L.length ≤ 100) (h' : T4 L') (hl' : L'.length ≤ 100) : ∃ b, fT fuel L L' = some b ∧ (b = true ↔ ∀ s, db L s = db L' s) := by
  rw [(lP fuel hf L L').1]
  unfold e7
  obtain ⟨N, e, hN⟩ := om h hl
  obtain ⟨N', e', hN'⟩ := om h' hl'
  have hl1 := m0 e
  rw [e, e']
  simp only [bSq, if_true]
  rw [fY _ _ (by have : N.length ≤ 1000 := hl1; omega)]
  refine ⟨_, rfl, ?_⟩
  rw [decide_eq_true_iff]
  exact ⟨fun e s => fv.inj hN (by rw [e]; exact hN') s, fun hs => hN.same hN' hs⟩
theorem lS {L L' : List aa} (h : ∀ s, db L s = db L' s) (a b c : Int) : lin L a b c = lin L' a b c := by unfold lin; rw [h, h, h, h]
theorem qV {L L' : List aa} (h : T4 L) (h' : T4 L') (e0 : lin L 0 0 0 = lin L' 0 0 0) (e1 : lin L 1 0 0 = lin L' 1 0 0) (e2 : lin L 0 1 0 = lin L' 0 1 0) (e3 : lin L 0 0 1 = lin L' 0 0 1) (s : List UInt8) : db L s = db L' s := by
  unfold lin at e0 e1 e2 e3
  simp only [Int.mul_zero, Int.mul_one, Int.add_zero] at e0 e1 e2 e3
  by_cases c : oj s
  · rcases c with e | e | e | e <;> subst e <;> omega
  · rw [jD (fun u hu e => c (by rw [← e]; exact (h u hu).2)), jD (fun u hu e => c (by rw [← e]; exact (h' u hu).2))]
def pt (L : List aa) (x : Nat) : Int := lin L ((x % 4 : Nat) : Int) ((x / 4 % 4 : Nat) : Int) ((x / 16 : Nat) : Int)
def tl (L : List aa) (r : Nat) : List aa := (L.drop r).take (L.length - r) ++ L.take r
theorem lr (L : List aa) (r : Nat) : (tl L r).Perm L := by
  unfold tl
  rw [List.take_of_length_le (by rw [List.length_drop]; exact Nat.le_refl _)]
  exact List.perm_append_comm.trans (by rw [List.take_append_drop])
theorem sZ {L : List aa} (h : T4 L) (r : Nat) : T4 (tl L r) := fun t ht => h t ((lr L r).mem_iff.1 ht)
theorem pK (fuel : Nat) (hf : 1000 ≤ fuel) (p3 : Int) (L L' : List aa) (h : T4 L) (hl : L.length ≤ 100) (h' : T4 L') (hl' : L'.length ≤ 100) (r : Nat) (hr : (IntKind.wrap .i64 ((IntKind.wrap .u64 p3).tmod (IntKind.wrap .u64 (IntKind.wrap .i64 ((L.length : Int) + 1))))).toNat = r)
    (sm : Bool) (hsm : sm = true → ∀ s, db L s = db L' s) (b : Bool) (x : Nat) (hx : x < 64) : cr fuel p3 L L' sm b (x : Int) = some (.inl (b || (pt L x != pt L' x), ((x + 1 : Nat) : Int))) := by
  unfold cr
  rw [hr, iP (by omega)]
  have ex : (lit ([((x : Int).tmod 4), ((IntKind.wrap .i64 ((x : Int).tdiv 4)).tmod 4), (IntKind.wrap .i64 ((x : Int).tdiv 16))] : List Int)) = [((x % 4 : Nat) : Int), ((x / 4 % 4 : Nat) : Int), ((x / 16 : Nat) : Int)] := by
    unfold lit
    rw [Int.tmod_eq_emod_of_nonneg (by omega), Int.tdiv_eq_ediv_of_nonneg (by omega), Int.tdiv_eq_ediv_of_nonneg (by omega), wr (n := (x : Int) / 4) (by omega) (by omega), wr (n := (x : Int) / 16) (by omega) (by omega), Int.tmod_eq_emod_of_nonneg (by omega)]
    simp
  have en : (lit ([([107] : List UInt8), ([109] : List UInt8), ([110] : List UInt8)] : List (List UInt8))) = nms := rfl
  rw [ex, en]
  have r1 : 0 ≤ ((x % 4 : Nat) : Int) ∧ ((x % 4 : Nat) : Int) ≤ 3 := by omega
  have r2 : 0 ≤ ((x / 4 % 4 : Nat) : Int) ∧ ((x / 4 % 4 : Nat) : Int) ≤ 3 := by omega
  have r3 : 0 ≤ ((x / 16 : Nat) : Int) ∧ ((x / 16 : Nat) : Int) ≤ 3 := by omega
  have ht := sZ h r
  have htl : (tl L r).length ≤ 100 := by rw [(lr L r).length_eq]; exact hl
  rw [dD fuel hf _ _ (by decide), dD fuel hf _ _ (by decide), dD fuel hf _ _ (by decide)]
  show (di L nms _).bind _ = _
  rw [m6 h hl _ _ _ r1 r2 r3, m6 h' hl' _ _ _ r1 r2 r3]
  simp only [bSq]
  show (di (tl L r) nms _).bind _ = _
  rw [m6 ht htl _ _ _ r1 r2 r3]
  simp only [bSq]
  rw [iN (by simp), iN (by simp), iN (by simp), iN (not_not_intro (lS (fun s => (lN (lr L r) s).symm) _ _ _))]
  have hj : c9 b (x : Int) (lin L ((x % 4 : Nat) : Int) ((x / 4 % 4 : Nat) : Int) ((x / 16 : Nat) : Int), ag.mk 0 0) (lin L' ((x % 4 : Nat) : Int) ((x / 4 % 4 : Nat) : Int) ((x / 16 : Nat) : Int), ag.mk 0 0) = some (.inl (b || (pt L x != pt L' x), ((x + 1 : Nat) : Int))) := by
    unfold c9 pt
    rw [wrs x (by omega)]
    cases b <;> rfl
  by_cases c : sm = true
  · rw [iP c, iN (not_not_intro (lS (hsm c) _ _ _)), hj]
  · rw [iN c, hj]
theorem rU (fuel : Nat) (hf : 1000 ≤ fuel) (p3 : Int) (L L' : List aa) (h : T4 L) (hl : L.length ≤ 100) (h' : T4 L') (hl' : L'.length ≤ 100) (r : Nat) (hr : (IntKind.wrap .i64 ((IntKind.wrap .u64 p3).tmod (IntKind.wrap .u64 (IntKind.wrap .i64 ((L.length : Int) + 1))))).toNat = r)
    (sm : Bool) (hsm : sm = true → ∀ s, db L s = db L' s) : ∀ (k x : Nat) (b : Bool), x + k = 64 → (b = true ↔ ∃ y, y < x ∧ pt L y ≠ pt L' y) →
    ∃ b', aW (fun (s : Bool × Int) => cr fuel p3 L L' sm s.1 s.2) (b, (x : Int)) = some (.inl b') ∧ (b' = true ↔ ∃ y, y < 64 ∧ pt L y ≠ pt L' y)
  | 0, x, b, hx, hb => by
    obtain rfl : x = 64 := by omega
    refine ⟨b, bb ?_, hb⟩
    show cr fuel p3 L L' sm b ((64 : Nat) : Int) = _
    unfold cr
    rw [iN (by omega)]
  | k + 1, x, b, hx, hb => by
    rw [bu (s := (b, (x : Int))) (pK fuel hf p3 L L' h hl h' hl' r hr sm hsm b x (by omega))]
    refine rU fuel hf p3 L L' h hl h' hl' r hr sm hsm k (x + 1) _ (by omega) ?_
    rw [Bool.or_eq_true, hb, bne_iff_ne]
    constructor
    · rintro (⟨y, h1, h2⟩ | h2)
      · exact ⟨y, by omega, h2⟩
      · exact ⟨x, by omega, h2⟩
    · rintro ⟨y, h1, h2⟩
      by_cases c : y = x
      · subst c; exact .inr h2
      · exact .inl ⟨y, by omega, h2⟩
theorem kQ (p1 p2 : List Int) (p3 : Int) (_ : okL (okI .i64) p1) (_ : okL (okI .i64) p2) (_ : okI .i64 p3) (_ : szL szI p1 + szL szI p2 + szI p3 ≤ 1048576) : ∃ fuel, hZ fuel p1 p2 p3 = some true := by
  refine ⟨1000, ?_⟩
  unfold hZ
  rw [iO 1000 (Nat.le_refl _)]
  simp only [bSq, if_true]
  by_cases c1 : (p1.length : Int) > 100
  · rw [iP c1]
  rw [iN c1]
  by_cases c2 : (p2.length : Int) > 100
  · rw [iP c2]
  rw [iN c2]
  obtain ⟨L, e1, hl, h⟩ := o6 p1 (by omega)
  obtain ⟨L', e2, hl', h'⟩ := o6 p2 (by omega)
  show (aW (fun (x : List aa × Int) => aH p1 x.1 x.2) ([], 0)).bind _ = _
  rw [e1]
  simp only [bSq]
  unfold dy
  show (aW (fun (x : List aa × Int) => dx p2 x.1 x.2) ([], 0)).bind _ = _
  rw [uf, e2]
  simp only [bSq]
  unfold dw
  have ew : IntKind.wrap .u64 (IntKind.wrap .i64 ((L.length : Int) + 1)) = ((L.length + 1 : Nat) : Int) := by rw [wr (by omega) (by omega), uwi (by omega)]; omega
  rw [iP (by rw [ew]; omega)]
  obtain ⟨r, hr⟩ : ∃ r : Nat, IntKind.wrap .i64 ((IntKind.wrap .u64 p3).tmod (IntKind.wrap .u64 (IntKind.wrap .i64 ((L.length : Int) + 1)))) = (r : Int) ∧ r ≤ L.length := by
    have hw := uw p3
    rw [ew, Int.tmod_eq_emod_of_nonneg hw.1]
    have m1 := Int.emod_nonneg (IntKind.wrap .u64 p3) (show ((L.length + 1 : Nat) : Int) ≠ 0 by omega)
    have m2 := Int.emod_lt_of_pos (IntKind.wrap .u64 p3) (show (0 : Int) < ((L.length + 1 : Nat) : Int) by omega)
    rw [wr (by omega) (by omega)]
    exact ⟨(IntKind.wrap .u64 p3 % ((L.length + 1 : Nat) : Int)).toNat, by omega, by omega⟩
  obtain ⟨hr, hrl⟩ := hr
  have hrt : (IntKind.wrap .i64 ((IntKind.wrap .u64 p3).tmod (IntKind.wrap .u64 (IntKind.wrap .i64 ((L.length : Int) + 1))))).toNat = r := by rw [hr, tN]
  have ht := sZ h r
  have htl : (tl L r).length ≤ 100 := by rw [(lr L r).length_eq]; exact hl
  obtain ⟨b1, g1, k1⟩ := qi 1000 (Nat.le_refl _) h hl ht htl
  obtain ⟨sm, g2, k2⟩ := qi 1000 (Nat.le_refl _) h hl h' hl'
  have b1t : b1 = true := k1.2 fun s => (lN (lr L r) s).symm
  subst b1t
  rw [hrt, hr, iP ⟨by omega, e9 (by omega), e9 (by omega)⟩]
  show (fT 1000 L (tl L r)).bind _ = _
  rw [g1]
  simp only [bSq, if_true]
  rw [g2]
  simp only [bSq]
  obtain ⟨b', e3, k3⟩ := rU 1000 (Nat.le_refl _) p3 L L' h hl h' hl' r hrt sm k2.1 64 0 false (by omega) (by simp)
  have e3' : aW (fun (s : Bool × Int) => cr 1000 p3 L L' sm s.1 s.2) (false, 0) = some (.inl b') := e3
  show (aW (fun (s : Bool × Int) => cr 1000 p3 L L' sm s.1 s.2) (false, 0)).bind _ = _
  rw [e3']
  simp only [bSq, Sum.elim_inl]
  unfold dv
  have key : b' = !sm := by
    cases sm with
    | true =>
      have hs := k2.1 rfl
      cases b' with
      | false => rfl
      | true =>
        obtain ⟨y, _, hy⟩ := k3.1 rfl
        exact absurd (lS hs _ _ _) hy
    | false =>
      cases b' with
      | true => rfl
      | false =>
        have hno : ∀ y, y < 64 → pt L y = pt L' y := fun y hy => Classical.byContradiction fun hn => by
          have := k3.2 ⟨y, hy, hn⟩
          cases this
        have := k2.2 (qV h h' (hno 0 (by decide)) (hno 1 (by decide)) (hno 4 (by decide)) (hno 16 (by decide)))
        cases this
  rw [key]
  cases sm <;> rfl
end Pam
