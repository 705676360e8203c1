/- WHAT IS PUT IN COUNTS AS ITS NUMBER. -/
import Derived.Test.YtphpneddmkickaaHbcPlain1
import Derived.Test.YtphpneddmkickaaHcFun1
set_option linter.all false
namespace Pam
open Go
def vv (a b c : Int) (s : List UInt8) : Int := if s = [] then 1 else if s = nK then a else if s = nM then b else c
theorem qj (a b c : Int) {s : List UInt8} (h : oj s) : fa nms [a, b, c] s = vv a b c s := by
 have i1 : idx nms nK = 0 := by rfl
 have i2 : idx nms nM = 1 := by rfl
 have i3 : idx nms nN = 2 := by rfl
 rcases h with e | e | e | e <;> subst e
 ·simp [fa, vv]
 ·unfold fa vv; rw [iN (by decide), iN (by decide), iP rfl, i1]; rfl
 ·unfold fa vv; rw [iN (by decide), iN (by decide), iN (by decide), iP rfl, i2]; rfl
 ·unfold fa vv; rw [iN (by decide), iN (by decide), iN (by decide), iN (by decide), i3]; rfl
theorem sN {a b : Int} (h1 : -10000 ≤ a ∧ a ≤ 10000) (h2 : -10000 ≤ b ∧ b ≤ 10000) : -100000000 ≤ a * b ∧ a * b ≤ 100000000 := by
 rcases Int.le_total 0 b with hb | hb
 ·have := lQ (A := 10000) (B := 10000) h1 ⟨hb, h2.2⟩ (by decide)
  omega
 ·have := lQ (A := 10000) (B := 10000) (a := a) (b := -b) h1 ⟨by omega, by omega⟩ (by decide)
  rw [Int.mul_neg] at this
  omega
theorem nP (p2 : List (List UInt8)) (hp : p2.length ≤ 1000000) (p3 : List Int) (y : List aa × ag) (hy : y.1.length ≤ 1000) (hn : ∀ t ∈ y.1, -10000 ≤ t.n ∧ t.n ≤ 10000)
  (hv : ∀ t ∈ y.1, -10000 ≤ fa p2 p3 t.name ∧ fa p2 p3 t.name ≤ 10000) (hi : ∀ t ∈ y.1, t.name ≠ [] → 0 ≤ idx p2 t.name ∧ idx p2 t.name < (p3.length : Int)) :
  ∀ (k i : Nat) (a : Int), i + k = y.1.length → -100000000 * (i : Int) ≤ a ∧ a ≤ 100000000 * (i : Int) → aW (fun (x : Int × Int) => aX p2 p3 y x.1 x.2) (a, (i : Int)) = some (.inl (a + fc (fa p2 p3) (y.1.drop i)))
 | 0, i, a, hk, ha => by
  rw [show y.1.drop i = [] from List.drop_of_length_le (by omega)]
  refine bb ?_
  show aX p2 p3 y a (i : Int) = _
  unfold aX
  rw [iN (by omega)]
  simp [fc]
 | k + 1, i, a, hk, ha => by
  have hiy : i < y.1.length := by omega
  obtain ⟨t, ht⟩ : ∃ t, t = y.1.getD i default := ⟨_, rfl⟩
  have htm : t ∈ y.1 := by rw [ht]; exact gQ hiy
  have b1 := hn t htm
  have b2 := hv t htm
  have b3 := sN b1 b2
  have h : aX p2 p3 y a (i : Int) = some (.inl (a + t.n * fa p2 p3 t.name, ((i + 1 : Nat) : Int))) := by
   unfold aX
   rw [iP (by omega), iP (by omega), wrs i (by omega)]
   simp only [tN]
   rw [← ht]
   by_cases c : t.name = []
   ·have e1 : fa p2 p3 t.name = 1 := by unfold fa; rw [iP c]
    rw [iP c, e1, Int.mul_one, wr (by omega) (by omega)]
   ·have e1 : fa p2 p3 t.name = p3.getD (idx p2 t.name).toNat default := by unfold fa; rw [iN c]
    obtain ⟨g1, g2⟩ := hi t htm c
    rw [iN c, kd _ _ hp]
    simp only [bSq]
    rw [iN (by omega), iN (by omega), iP ⟨g1, g2⟩, hO, ← e1]
    simp only [bSq]
    rw [dT (by omega), iP rfl, wr (n := t.n * fa p2 p3 t.name) (by omega) (by omega), wr (by omega) (by omega)]
  rw [bu (s := (a, (i : Int))) h, nP p2 hp p3 y hy hn hv hi k (i + 1) _ (by omega) (by omega), fX y.1 i hiy, ← ht, du, Int.add_assoc]
def T9 (L : List aa) : Prop := ∀ t ∈ L, (-9 ≤ t.n ∧ t.n ≤ 9) ∧ oj t.name
theorem tC {L : List aa} (h : T9 L) (s : List UInt8) : -9 * (L.length : Int) ≤ db L s ∧ db L s ≤ 9 * (L.length : Int) := by
 induction L with
 | nil => rw [gR]; exact ⟨by simp, by simp⟩
 | cons t L ih =>
  obtain ⟨i1, i2⟩ := ih (fun u hu => h u (by simp [hu]))
  obtain ⟨h1, h2⟩ := (h t (by simp)).1
  rw [cq, List.length_cons]
  split <;> omega
theorem m8 {v v' : List UInt8 → Int} : ∀ {L : List aa}, (∀ t ∈ L, v t.name = v' t.name) → fc v L = fc v' L
 | [], _ => rfl
 | t :: L, h => by rw [du, du, h t (by simp), m8 (fun u hu => h u (by simp [hu]))]
theorem kf {L : List aa} (h : T9 L) (hl : L.length ≤ 500) (a b c : Int) (ha : -10000 ≤ a ∧ a ≤ 10000) (hb : -10000 ≤ b ∧ b ≤ 10000) (hc : -10000 ≤ c ∧ c ≤ 10000) : di L nms [a, b, c] = some (fc (vv a b c) L, ag.mk 0 0) := by
 have hs : gc L := fun t ht => by have := (h t ht).1; omega
 obtain ⟨r, e, _, hr⟩ := i5 L
 obtain ⟨r', e', hr'⟩ := i4 L
 rw [e'] at e
 cases e
 rcases hr' with ⟨h1, _⟩ | ⟨_, h1 | ⟨_, N, h2, hN⟩⟩
 ·omega
 ·rw [jE hs] at h1; cases h1
 subst h2
 have hNl := m0 e'
 have h4 : ∀ t ∈ N, oj t.name := by
  intro t ht
  obtain ⟨g1, g2⟩ := (hN.mem t).1 ht
  obtain ⟨u, hu, en⟩ := lk (L := L) (s := t.name) (by rw [← g2]; exact g1)
  rw [← en]
  exact (h u hu).2
 have hvv : ∀ s, -10000 ≤ vv a b c s ∧ vv a b c s ≤ 10000 := by
  intro s
  unfold vv
  (repeat' split) <;> omega
 have hloop := nP nms (by decide) [a, b, c] (N, ag.mk 0 0) hNl (fun t ht => by
   obtain ⟨g1, g2⟩ := (hN.mem t).1 ht
   have := tC h t.name
   omega) (fun t ht => by rw [qj a b c (h4 t ht)]; exact hvv _) (fun t ht hne => by
   have i1 : idx nms nK = 0 := by rfl
   have i2 : idx nms nM = 1 := by rfl
   have i3 : idx nms nN = 2 := by rfl
   rcases h4 t ht with e | e | e | e <;> rw [e]
   ·exact absurd e hne
   ·rw [i1]; exact ⟨by omega, by simp⟩
   ·rw [i2]; exact ⟨by omega, by simp⟩
   ·rw [i3]; exact ⟨by omega, by simp⟩) N.length 0 0 (by simp) (by simp)
 have hloop' : aW (fun (x : Int × Int) => aX nms [a, b, c] (N, ag.mk 0 0) x.1 x.2) (0, 0) = some (.inl (0 + fc (fa nms [a, b, c]) (N.drop 0))) := hloop
 unfold di
 rw [e']
 simp only [bSq]
 rw [iN (by simp)]
 show (aW (fun (x : Int × Int) => aX nms [a, b, c] (N, ag.mk 0 0) x.1 x.2) (0, 0)).bind _ = _
 rw [hloop', List.drop_zero, Int.zero_add, m8 (fun t ht => qj a b c (h4 t ht)), ke _ h4, ke _ (fun t ht => (h t ht).2), hN.sum, hN.sum, hN.sum, hN.sum]
 rfl
theorem rW (v : List UInt8 → Int) (L L' : List aa) : fc v (L ++ L') = fc v L + fc v L' := by
 induction L with
 | nil => simp [fc]
 | cons t L ih => rw [List.cons_append, du, du, ih, Int.add_assoc]
theorem o7 (v : List UInt8 → Int) (n : Int) (L : List aa) : fc v (L.map fun u => ⟨n * u.n, u.name⟩) = n * fc v L := by
 induction L with
 | nil => simp [fc]
 | cons t L ih => rw [List.map_cons, du, du, ih, Int.mul_add, Int.mul_assoc]
def lu (l1 l2 : List aa) (t : aa) : List aa := if t.name = nK then l1.map (fun u => ⟨t.n * u.n, u.name⟩) else if t.name = nM then l2.map (fun u => ⟨t.n * u.n, u.name⟩) else [t]
theorem nQ (a b c : Int) (l1 l2 : List aa) : ∀ {L : List aa}, (∀ t ∈ L, oj t.name) → fc (vv a b c) (L.flatMap (lu l1 l2)) = fc (vv (fc (vv a b c) l1) (fc (vv a b c) l2) c) L
 | [], _ => rfl
 | t :: L, h => by
  rw [List.flatMap_cons, rW, du, nQ a b c l1 l2 (fun u hu => h u (by simp [hu]))]
  congr 1
  unfold lu
  rcases h t (by simp) with e | e | e | e
  ·rw [iN (by rw [e]; decide), iN (by rw [e]; decide), du, e]; simp [fc, vv]
  ·rw [iP e, o7, e]; congr 1
  ·rw [iN (by rw [e]; decide), iP e, o7, e]; congr 1
  ·rw [iN (by rw [e]; decide), iN (by rw [e]; decide), du, e]
   have : ∀ x y z : Int, vv x y z nN = z := fun x y z => by unfold vv; rw [iN (by decide), iN (by decide), iN (by decide)]
   rw [this, this]; simp [fc]
theorem tD {a b : Int} (h1 : -3 ≤ a ∧ a ≤ 3) (h2 : -3 ≤ b ∧ b ≤ 3) : -9 ≤ a * b ∧ a * b ≤ 9 := by
 rcases Int.le_total 0 b with hb | hb
 ·have := lQ (A := 3) (B := 3) h1 ⟨hb, h2.2⟩ (by decide)
  omega
 ·have := lQ (A := 3) (B := 3) (a := a) (b := -b) h1 ⟨by omega, by omega⟩ (by decide)
  rw [Int.mul_neg] at this
  omega
theorem sO {L l1 l2 : List aa} (h : T4 L) (h1 : T4 l1) (h2 : T4 l2) : T9 (L.flatMap (lu l1 l2)) := by
 intro u hu
 rw [List.mem_flatMap] at hu
 obtain ⟨t, ht, hu⟩ := hu
 have a := h t ht
 unfold lu at hu
 split at hu
 ·rw [List.mem_map] at hu
  obtain ⟨x, hx, rfl⟩ := hu
  exact ⟨tD a.1 (h1 x hx).1, (h1 x hx).2⟩
 ·split at hu
  ·rw [List.mem_map] at hu
   obtain ⟨x, hx, rfl⟩ := hu
   exact ⟨tD a.1 (h2 x hx).1, (h2 x hx).2⟩
  ·simp only [List.mem_singleton] at hu
   subst hu
   exact ⟨by omega, a.2⟩
theorem rX {L : List aa} (h : T4 L) : T9 L := fun t ht => ⟨by have := (h t ht).1; omega, (h t ht).2⟩
theorem o8 (l1 l2 : List aa) (h1 : l1.length ≤ 20) (h2 : l2.length ≤ 20) (t : aa) : (lu l1 l2 t).length ≤ 20 := by
 unfold lu
 split
 ·simpa using h1
 ·split
  ·simpa using h2
  ·simp
theorem lT (l1 l2 : List aa) (h1 : l1.length ≤ 20) (h2 : l2.length ≤ 20) : ∀ L : List aa, (L.flatMap (lu l1 l2)).length ≤ 20 * L.length
 | [] => by simp
 | t :: L => by
  rw [List.flatMap_cons, List.length_append, List.length_cons]
  have := o8 l1 l2 h1 h2 t
  have := lT l1 l2 h1 h2 L
  omega
theorem uz (s : List UInt8) : cn 2 s nms = some (if s = nK then 0 else if s = nM then 1 else -1) := by
 unfold cn
 rw [fW (T := Unit) (Z := Int) 2 (fun i => if s = nms.getD i default then some (i : Int) else none) () (fun i hi => by
  unfold b8
  rw [iP (by omega), iP ⟨by omega, by simp only [tN]; exact Nat.lt_of_lt_of_le hi (by decide)⟩]
  simp only [tN]
  rw [wrs i (by omega)]
  by_cases c : s = nms.getD i default
  ·rw [iP c, iP c]
  ·rw [iN c, iN c]) (by
  unfold b8
  rw [iN (by omega)])]
 have e0 : nms.getD 0 default = nK := rfl
 have e1 : nms.getD 1 default = nM := rfl
 unfold iM
 rw [show List.range 2 = [0, 1] from rfl, List.findSome?_cons, List.findSome?_cons, List.findSome?_nil, e0, e1]
 by_cases c : s = nK
 ·rw [iP c, iP c]; rfl
 ·rw [iN c, iN c]
  by_cases d : s = nM
  ·rw [iP d, iP d]; rfl
  ·rw [iN d, iN d]; rfl
theorem o9 (L : List aa) (ps : List (List aa)) (i j : Nat) (hi : (-3 ≤ (L.getD i default).n ∧ (L.getD i default).n ≤ 3)) (hm : T4 (ps.getD j default)) (hl : (ps.getD j default).length ≤ 20) :
  ∀ (k x : Nat) (l : List aa), x + k = (ps.getD j default).length → l.length + k ≤ 1000000 → aW (fun (s : List aa × Int) => cL L ps (i : Int) (j : Int) s.1 s.2) (l, (x : Int)) = some (.inl (l ++ ((ps.getD j default).drop x).map fun u => ⟨(L.getD i default).n * u.n, u.name⟩))
 | 0, x, l, hx, hr => by
  rw [show (ps.getD j default).drop x = [] from List.drop_of_length_le (by omega), List.map_nil, List.append_nil]
  refine bb ?_
  show cL L ps (i : Int) (j : Int) l (x : Int) = _
  unfold cL
  simp only [tN]
  rw [iN (by omega)]
 | k + 1, x, l, hx, hr => by
  have hxl : x < (ps.getD j default).length := by omega
  obtain ⟨u, hu⟩ : ∃ u, u = (ps.getD j default).getD x default := ⟨_, rfl⟩
  have hum := hm u (by rw [hu]; exact gQ hxl)
  have h9 := tD hi hum.1
  have h : cL L ps (i : Int) (j : Int) l (x : Int) = some (.inl (l ++ [⟨(L.getD i default).n * u.n, u.name⟩], ((x + 1 : Nat) : Int))) := by
   unfold cL
   simp only [tN]
   rw [iP (by omega), iP (by omega), ← hu, iN (by omega), iN (by omega), iN (by omega), iN (by omega), iP (e9 (by omega)), wrs x (by omega), wr (by omega) (by omega)]
   rfl
  rw [bu (s := (l, (x : Int))) h, o9 L ps i j hi hm hl k (x + 1) _ (by omega) (by simp; omega), fX _ x hxl, ← hu, List.map_cons, List.append_assoc]
  rfl
theorem nR (L l1 l2 : List aa) (h : T4 L) (h1 : T4 l1) (h2 : T4 l2) (hL : L.length ≤ 20) (hl1 : l1.length ≤ 20) (hl2 : l2.length ≤ 20) :
  ∀ (k x : Nat) (l : List aa), x + k = L.length → l.length ≤ 20 * x → aW (fun (s : List aa × Int) => cM L 2 [l1, l2] nms s.1 s.2) (l, (x : Int)) = some (.inl (l ++ (L.drop x).flatMap (lu l1 l2)))
 | 0, x, l, hx, hr => by
  rw [show L.drop x = [] from List.drop_of_length_le (by omega), List.flatMap_nil, List.append_nil]
  refine bb ?_
  show cM L 2 [l1, l2] nms l (x : Int) = _
  unfold cM
  rw [iN (by omega)]
 | k + 1, x, l, hx, hr => by
  have hxl : x < L.length := by omega
  obtain ⟨t, ht⟩ : ∃ t, t = L.getD x default := ⟨_, rfl⟩
  have htm := h t (by rw [ht]; exact gQ hxl)
  have hj2 : ∀ l' : List aa, cC (x : Int) l' = some (.inl (l', ((x + 1 : Nat) : Int))) := fun l' => by
   unfold cC
   rw [wrs x (by omega)]
  have step : cM L 2 [l1, l2] nms l (x : Int) = some (.inl (l ++ lu l1 l2 t, ((x + 1 : Nat) : Int))) := by
   unfold cM
   rw [iP (by omega), iP (by omega), tN, ← ht, uz]
   simp only [bSq]
   have hroom : gn (l.length + 1) 24 := e9 (by omega)
   have inner : ∀ j : Nat, j < 2 → T4 ([l1, l2].getD j default) → ([l1, l2].getD j default).length ≤ 20 →
     (aW (fun (s : List aa × Int) => cL L [l1, l2] (x : Int) (j : Int) s.1 s.2) (l, 0)).bind (Sum.elim (fun z42 => cC (x : Int) z42) (fun z43 => some (.inr (.inr z43)))) = some (.inl (l ++ ([l1, l2].getD j default).map (fun u => ⟨t.n * u.n, u.name⟩), ((x + 1 : Nat) : Int))) := by
    intro j hj hT hlj
    have := o9 L [l1, l2] x j (by rw [← ht]; exact htm.1) hT hlj _ 0 l (Nat.zero_add _) (by omega)
    rw [← ht, List.drop_zero] at this
    have e : aW (fun (s : List aa × Int) => cL L [l1, l2] (x : Int) (j : Int) s.1 s.2) (l, 0) = some (.inl (l ++ ([l1, l2].getD j default).map fun u => ⟨t.n * u.n, u.name⟩)) := this
    rw [e]
    exact hj2 _
   unfold lu
   rcases htm.2 with e | e | e | e
   ·rw [iP e, iP hroom, hj2, iN (by rw [e]; decide), iN (by rw [e]; decide)]; rfl
   ·have c0 : ¬ t.name = [] := by rw [e]; decide
    rw [iN c0, iP e, iP e, iN (by omega), iN (by simp), iP (by simp)]
    exact inner 0 (by decide) h1 hl1
   ·have c0 : ¬ t.name = [] := by rw [e]; decide
    have c1 : ¬ t.name = nK := by rw [e]; decide
    rw [iN c0, iN c1, iP e, iN c1, iP e, iN (by omega), iN (by simp), iP (by simp)]
    exact inner 1 (by decide) h2 hl2
   ·have c0 : ¬ t.name = [] := by rw [e]; decide
    have c1 : ¬ t.name = nK := by rw [e]; decide
    have c2 : ¬ t.name = nM := by rw [e]; decide
    rw [iN c0, iN c1, iN c2, iN c1, iN c2, iP (by omega), iP hroom, hj2]; rfl
  have hsl := o8 l1 l2 hl1 hl2 t
  rw [bu (s := (l, (x : Int))) step, nR L l1 l2 h h1 h2 hL hl1 hl2 k (x + 1) _ (by omega) (by rw [List.length_append]; omega), fX L x hxl, ← ht, List.flatMap_cons, List.append_assoc]
theorem rY (L l1 l2 : List aa) (h : T4 L) (h1 : T4 l1) (h2 : T4 l2) (hL : L.length ≤ 20) (hl1 : l1.length ≤ 20) (hl2 : l2.length ≤ 20) : gB L 2 [l1, l2] nms = some (L.flatMap (lu l1 l2), ag.mk 0 0) := by
 unfold gB
 have := nR L l1 l2 h h1 h2 hL hl1 hl2 L.length 0 [] (by omega) (by simp)
 rw [List.nil_append, List.drop_zero] at this
 have e : aW (fun (s : List aa × Int) => cM L 2 [l1, l2] nms s.1 s.2) ([], 0) = some (.inl (L.flatMap (lu l1 l2))) := this
 show (aW (fun (s : List aa × Int) => cM L 2 [l1, l2] nms s.1 s.2) ([], 0)).bind _ = _
 rw [e]
 simp only [bSq, Sum.elim_inl]
 unfold eN
 have := lT l1 l2 hl1 hl2 L
 rw [iN (by omega)]
theorem sP : gS = cb := by
 funext fuel L p2 p3
 unfold gS cb
 rfl
theorem qk {L : List aa} (h : T4 L) (v : List UInt8 → Int) (hv : ∀ s, 0 ≤ v s ∧ v s ≤ 4) : -12 * (L.length : Int) ≤ fc v L ∧ fc v L ≤ 12 * (L.length : Int) := by
 induction L with
 | nil => simp [fc]
 | cons t L ih =>
  obtain ⟨i1, i2⟩ := ih (fun u hu => h u (by simp [hu]))
  have := lQ (A := 3) (B := 4) (h t (by simp)).1 (hv t.name) (by decide)
  rw [du, List.length_cons]
  omega
theorem oq (p : List Int) (hp : p.length ≤ 20) : ∃ L, aW (fun (x : List aa × Int) => aH p x.1 x.2) ([], 0) = some L ∧ L.length ≤ 20 ∧ T4 L := by
 have key : ∀ (k i : Nat) (L : List aa), i + k = p.length → L.length = i → T4 L → ∃ L', aW (fun (x : List aa × Int) => aH p x.1 x.2) (L, (i : Int)) = some L' ∧ L'.length = p.length ∧ T4 L' := by
  intro k
  induction k with
  | zero =>
   intro i L hi hl h
   refine ⟨L, bb ?_, by omega, h⟩
   show aH p L (i : Int) = _
   unfold aH
   rw [iN (by omega)]
  | succ k ih =>
   intro i L hi hl h
   obtain ⟨t, e, h1⟩ := lZ (p.getD i default)
   have hst : aH p L (i : Int) = some (.inl (L ++ [t], ((i + 1 : Nat) : Int))) := by
    unfold aH
    rw [iP (by omega), iP (by omega), tN, e]
    simp only [bSq]
    rw [iP (e9 (by omega)), wrs i (by omega)]
    rfl
   rw [bu (s := (L, (i : Int))) hst]
   refine ih (i + 1) _ (by omega) (by simp; omega) ?_
   intro u hu
   rw [List.mem_append, List.mem_singleton] at hu
   rcases hu with hu | rfl
   ·exact h u hu
   ·exact h1
 obtain ⟨L, e, hl, h⟩ := key p.length 0 [] (by omega) rfl (fun t ht => by simp at ht)
 exact ⟨L, e, by omega, h⟩
theorem ug : dJ = aH := by funext p L x; unfold dJ aH; rfl
theorem uh : dL = aH := by funext p L x; unfold dL aH; rfl
theorem ui : dN = aH := by funext p L x; unfold dN aH; rfl
theorem tE (w : Int) (h : 0 ≤ w ∧ w < 18446744073709551616) : 0 ≤ IntKind.wrap .i64 (w.tmod 5) ∧ IntKind.wrap .i64 (w.tmod 5) ≤ 4 := by
 rw [Int.tmod_eq_emod_of_nonneg h.1, wr (by omega) (by omega)]; omega
theorem lv (p1 p2 p3 : List Int) (p4 : Int) (_ : okL (okI .i64) p1) (_ : okL (okI .i64) p2) (_ : okL (okI .i64) p3) (_ : okI .i64 p4) (_ : szL szI p1 + szL szI p2 + szL szI p3 + szI p4 ≤ 1048576) : ∃ fuel, iv fuel p1 p2 p3 p4 = some true := by
 refine ⟨1000, ?_⟩
 unfold iv
 rw [iO 1000 (Nat.le_refl _)]
 simp only [bSq, if_true]
 by_cases c1 : (p1.length : Int) > 20
 ·rw [iP c1]
 rw [iN c1]
 by_cases c2 : (p2.length : Int) > 20
 ·rw [iP c2]
 rw [iN c2]
 by_cases c3 : (p3.length : Int) > 20
 ·rw [iP c3]
 rw [iN c3]
 obtain ⟨L, e1, hl, h⟩ := oq p1 (by omega)
 obtain ⟨l1, e2, hl1, h1⟩ := oq p2 (by omega)
 obtain ⟨l2, e3, hl2, h2⟩ := oq p3 (by omega)
 show (aW (fun (x : List aa × Int) => dN p1 x.1 x.2) ([], 0)).bind _ = _
 rw [ui, e1]
 simp only [bSq]
 unfold dM
 show (aW (fun (x : List aa × Int) => dL p2 x.1 x.2) ([], 0)).bind _ = _
 rw [uh, e2]
 simp only [bSq]
 unfold dK
 show (aW (fun (x : List aa × Int) => dJ p3 x.1 x.2) ([], 0)).bind _ = _
 rw [ug, e3]
 simp only [bSq]
 unfold dI
 have hw := uw p4
 have d5 : (IntKind.wrap .u64 p4).tdiv 5 = IntKind.wrap .u64 p4 / 5 := Int.tdiv_eq_ediv_of_nonneg hw.1
 have d25 : (IntKind.wrap .u64 p4).tdiv 25 = IntKind.wrap .u64 p4 / 25 := Int.tdiv_eq_ediv_of_nonneg hw.1
 have n1 := tE _ hw
 have n2 := tE (IntKind.wrap .u64 ((IntKind.wrap .u64 p4).tdiv 5)) (uw _)
 have n3 := tE (IntKind.wrap .u64 ((IntKind.wrap .u64 p4).tdiv 25)) (uw _)
 generalize IntKind.wrap .i64 ((IntKind.wrap .u64 p4).tmod 5) = a at n1 ⊢
 generalize IntKind.wrap .i64 ((IntKind.wrap .u64 ((IntKind.wrap .u64 p4).tdiv 5)).tmod 5) = b at n2 ⊢
 generalize IntKind.wrap .i64 ((IntKind.wrap .u64 ((IntKind.wrap .u64 p4).tdiv 25)).tmod 5) = c at n3 ⊢
 have en : (lit ([([107] : List UInt8), ([109] : List UInt8), ([110] : List UInt8)] : List (List UInt8))) = nms := rfl
 rw [en, iP (by omega), sP]
 rw [dD 1000 (Nat.le_refl _) _ _ (by decide)]
 show (gB L 2 [l1, l2] nms).bind _ = _
 rw [rY L l1 l2 h h1 h2 hl hl1 hl2]
 simp only [bSq]
 have hvv : ∀ s, 0 ≤ vv a b c s ∧ vv a b c s ≤ 4 := by
  intro s
  unfold vv
  (repeat' split) <;> omega
 have hlen := lT l1 l2 hl1 hl2 L
 have v1 : cb 1000 (L.flatMap (lu l1 l2)) nms (lit ([a, b, c] : List Int)) = some (fc (vv a b c) (L.flatMap (lu l1 l2)), ag.mk 0 0) := by
  rw [dD 1000 (Nat.le_refl _) _ _ (by decide)]
  exact kf (sO h h1 h2) (by omega) a b c (by omega) (by omega) (by omega)
 have v2 : cb 1000 l1 nms (lit ([a, b, c] : List Int)) = some (fc (vv a b c) l1, ag.mk 0 0) := by
  rw [dD 1000 (Nat.le_refl _) _ _ (by decide)]
  exact kf (rX h1) (by omega) a b c (by omega) (by omega) (by omega)
 have v3 : cb 1000 l2 nms (lit ([a, b, c] : List Int)) = some (fc (vv a b c) l2, ag.mk 0 0) := by
  rw [dD 1000 (Nat.le_refl _) _ _ (by decide)]
  exact kf (rX h2) (by omega) a b c (by omega) (by omega) (by omega)
 have y1 := qk h1 (vv a b c) hvv
 have y2 := qk h2 (vv a b c) hvv
 rw [← dD 1000 (Nat.le_refl _) _ _ (by decide), v1]
 simp only [bSq]
 show (cb 1000 l1 nms (lit ([a, b, c] : List Int))).bind _ = _
 rw [v2]
 simp only [bSq]
 show (cb 1000 l2 nms (lit ([a, b, c] : List Int))).bind _ = _
 rw [v3]
 simp only [bSq]
 rw [iP (by simp [lit])]
 show (cb 1000 L nms [fc (vv a b c) l1, fc (vv a b c) l2, c]).bind _ = _
 rw [dD 1000 (Nat.le_refl _) _ _ (by decide), kf (rX h) (by omega) _ _ _ (by omega) (by omega) (by omega)]
 simp only [bSq, if_true]
 rw [nQ a b c l1 l2 (fun t ht => (h t ht).2)]
 simp
end Pam
