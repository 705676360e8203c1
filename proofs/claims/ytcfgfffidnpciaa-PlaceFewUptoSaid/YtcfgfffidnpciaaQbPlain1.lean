/- there are no more cells than needed be, and no fewer -/
import Derived.Test.YtcfgfffidnpciaaQabPlain1
import Derived.Test.YtcfgfffidnpciaaQbFun1
set_option linter.all false
namespace Pam
open Go
def mz (m a n : Int) : Int := if m ≤ a then 0 else if a + n ≤ m then n else m - a
def oy (A C : Nat → Int) (p : Nat → Bool) (m : Int) : Nat → Int
 | 0 => 0
 | k + 1 => oy A C p m k + if p k then mz m (A k) (C k) else 0
theorem s7 (A C : Nat → Int) (p : Nat → Bool) (m : Int) : ∀ k, (∀ v, v < k → p v = true → ¬ (A v ≤ m ∧ m < A v + C v)) → (∀ v, v < k → p v = true → 1 ≤ C v) → oy A C p (m + 1) k = oy A C p m k
 | 0, _, _ => rfl
 | k + 1, h, hc => by
  have ih := s7 A C p m k (fun v hv => h v (by omega)) (fun v hv => hc v (by omega))
  unfold oy
  rw [ih]
  by_cases hp : p k = true
  ·have h1 := h k (by omega) hp
   have h2 := hc k (by omega) hp
   rw [iP hp, iP hp]
   unfold mz
   split <;> split <;> (try split) <;> (try split) <;> omega
  ·rw [iN hp, iN hp]
theorem s8 (A C : Nat → Int) (p : Nat → Bool) (m : Int) : ∀ k, (∀ u v, u < k → v < k → u ≠ v → p u = true → p v = true → A u + C u ≤ A v ∨ A v + C v ≤ A u) → (∀ v, v < k → p v = true → 1 ≤ C v) → oy A C p (m + 1) k ≤ oy A C p m k + 1
 | 0, _, _ => by unfold oy; omega
 | k + 1, h, hc => by
  have ih := s8 A C p m k (fun u v hu hv => h u v (by omega) (by omega)) (fun v hv => hc v (by omega))
  unfold oy
  by_cases hp : p k = true
  ·have h2 := hc k (by omega) hp
   rw [iP hp, iP hp]
   by_cases hm : A k ≤ m ∧ m < A k + C k
   ·have e := s7 A C p m k (fun v hv hpv hcv => by
     have := h v k (by omega) (by omega) (by omega) hpv hp
     omega) (fun v hv => hc v (by omega))
    rw [e]
    unfold mz
    split <;> split <;> (try split) <;> (try split) <;> omega
   ·have : mz (m + 1) (A k) (C k) = mz m (A k) (C k) := by
     unfold mz
     split <;> split <;> (try split) <;> (try split) <;> omega
    rw [this]
    omega
  ·rw [iN hp, iN hp]
   omega
theorem s9 (A C : Nat → Int) (p : Nat → Bool) (fr : Int) : ∀ k, (∀ v, v < k → p v = true → fr ≤ A v) → oy A C p fr k = 0
 | 0, _ => rfl
 | k + 1, h => by
  unfold oy
  rw [s9 A C p fr k (fun v hv => h v (by omega))]
  by_cases hp : p k = true
  ·rw [iP hp]; unfold mz; rw [iP (h k (by omega) hp)]; rfl
  ·rw [iN hp]; rfl
theorem wC (A C : Nat → Int) (p : Nat → Bool) (fr : Int) (k : Nat) (hd : ∀ u v, u < k → v < k → u ≠ v → p u = true → p v = true → A u + C u ≤ A v ∨ A v + C v ≤ A u) (hc : ∀ v, v < k → p v = true → 1 ≤ C v)
  (hf : ∀ v, v < k → p v = true → fr ≤ A v) : ∀ j : Nat, oy A C p (fr + (j : Int)) k ≤ (j : Int)
 | 0 => by
  have e : fr + ((0 : Nat) : Int) = fr := by omega
  rw [e, s9 A C p fr k hf]
  omega
 | j + 1 => by
  have ih := wC A C p fr k hd hc hf j
  have h1 := s8 A C p (fr + (j : Int)) k hd hc
  have e : fr + ((j + 1 : Nat) : Int) = fr + (j : Int) + 1 := by omega
  rw [e]
  omega
def ta (C : Nat → Int) (p : Nat → Bool) : Nat → Int
 | 0 => 0
 | k + 1 => ta C p k + if p k then C k else 0
theorem uA (A C : Nat → Int) (p : Nat → Bool) (c : Int) : ∀ k, (∀ v, v < k → p v = true → A v + C v ≤ c ∧ 1 ≤ C v) → oy A C p c k = ta C p k
 | 0, _ => rfl
 | k + 1, h => by
  unfold oy ta
  rw [uA A C p c k (fun v hv => h v (by omega))]
  by_cases hp : p k = true
  ·have := h k (by omega) hp
   rw [iP hp, iP hp]
   unfold mz
   rw [iN (by omega), iP (by omega)]
  ·rw [iN hp, iN hp]
theorem vn (A C : Nat → Int) (p : Nat → Bool) (fr c : Int) (k : Nat) (hfc : fr ≤ c) (hd : ∀ u v, u < k → v < k → u ≠ v → p u = true → p v = true → A u + C u ≤ A v ∨ A v + C v ≤ A u)
  (h : ∀ v, v < k → p v = true → fr ≤ A v ∧ A v + C v ≤ c ∧ 1 ≤ C v) : ta C p k ≤ c - fr := by
 have h1 := wC A C p fr k hd (fun v hv hp => (h v hv hp).2.2) (fun v hv hp => (h v hv hp).1) (c - fr).toNat
 have e : fr + ((c - fr).toNat : Int) = c := by omega
 rw [e, uA A C p c k (fun v hv hp => (h v hv hp).2)] at h1
 omega
def ki (s : ab) : Nat → Int
 | 0 => 0
 | i + 1 => ki s i + bm s (s.rules.getD i default).out_
def fM (s : ab) : Nat → Int
 | 0 => 0
 | i + 1 => if bm s (s.rules.getD i default).out_ > fM s i then bm s (s.rules.getD i default).out_ else fM s i
theorem rM {s : ab} (g : eq s) : ∀ i, i ≤ s.rules.length → 0 ≤ ki s i ∧ ki s i ≤ 300 * (i : Int)
 | 0, _ => by unfold ki; omega
 | i + 1, hi => by
  have := rM g i (by omega)
  have := et g.h (g.rule (i := i) (by omega)).1.o
  unfold ki
  omega
theorem oz {s : ab} (g : eq s) : ∀ i, i ≤ s.rules.length → 0 ≤ fM s i ∧ fM s i ≤ 300 ∧ ∀ k, k < i → bm s (s.rules.getD k default).out_ ≤ fM s i
 | 0, _ => by unfold fM; exact ⟨by omega, by omega, fun k hk => by omega⟩
 | i + 1, hi => by
  obtain ⟨h1, h2, h3⟩ := oz g i (by omega)
  have hc := et g.h (g.rule (i := i) (by omega)).1.o
  unfold fM
  refine ⟨by split <;> omega, by split <;> omega, fun k hk => ?_⟩
  by_cases e : k = i
  ·subst e; split <;> omega
  ·have := h3 k (by omega)
   split <;> omega
theorem rg (s : ab) : ∀ i, i ≤ s.rules.length → km s (bw s i) = km s s.in_ + ki s i
 | 0, _ => by unfold bw ki; simp
 | i + 1, hi => by
  rw [lJ s (by omega), mM, rg s i (by omega)]
  show _ = km s s.in_ + (ki s i + bm s (s.rules.getD i default).out_)
  unfold bm
  omega
theorem wD {s : ab} (g : eq s) {p : dk} (hp : tW s p) (t : Int) : kd s (aZ s) t s.vars.length ≤ p.cells - bQ s s.rules.length + fM s s.rules.length := by
 have hL := hp.lay
 have hgr := oz g s.rules.length (Nat.le_refl _)
 obtain ⟨y, hy⟩ : ∃ y : Int, y = if 0 ≤ t ∧ t < (s.rules.length : Int) then (s.rules.getD t.toNat default).out_ else -1 := ⟨_, rfl⟩
 let live : Nat → Bool := fun v => decide (((aZ s).getD v default).from_ ≤ t ∧ t ≤ ((aZ s).getD v default).to) && decide ((v : Int) ≠ y)
 let C : Nat → Int := fun v => dB (s.vars.getD v default).n
 let A : Nat → Int := fun v => atV p.at_ (v : Int)
 have hlive : ∀ v, live v = true ↔ (((aZ s).getD v default).from_ ≤ t ∧ t ≤ ((aZ s).getD v default).to) ∧ (v : Int) ≠ y := fun v => by
  show (decide _ && decide _) = true ↔ _
  rw [Bool.and_eq_true, decide_eq_true_iff, decide_eq_true_iff]
 have hsp : ∀ v : Nat, spV s (v : Int) = (aZ s).getD v default := fun v => by unfold spV; simp
 have hce : ∀ v : Nat, bm s (v : Int) = C v := fun v => by show bm s (v : Int) = dB _; unfold bm; simp
 have hmade : ∀ v, v < s.vars.length → (((aZ s).getD v default).from_ ≤ t ∧ t ≤ ((aZ s).getD v default).to) → (v : Int) ∈ bw s s.rules.length := fun v hv h =>
  Classical.byContradiction fun hc => sZ g (v := (v : Int)) (inI hv) hc (by rw [hsp]; omega)
 have key : ta C live s.vars.length ≤ p.cells - bQ s s.rules.length := by
  refine vn A C live _ _ _ hL.lo ?_ ?_
  ·intro u v hu hv huv hpu hpv
   have hu2 := (hlive u).1 hpu
   have hv2 := (hlive v).1 hpv
   have hum := hmade u hu hu2.1
   have hvm := hmade v hv hv2.1
   refine Classical.byContradiction fun hc => ?_
   have h1 : ¬ atV p.at_ (u : Int) + bm s (u : Int) ≤ atV p.at_ (v : Int) := fun h => hc (.inl (by rw [hce] at h; exact h))
   have h2 : ¬ atV p.at_ (v : Int) + bm s (v : Int) ≤ atV p.at_ (u : Int) := fun h => hc (.inr (by rw [hce] at h; exact h))
   have fin : ∀ a b : Nat, (((aZ s).getD a default).from_ ≤ t ∧ t ≤ ((aZ s).getD a default).to) → (((aZ s).getD b default).from_ ≤ t ∧ t ≤ ((aZ s).getD b default).to) ∧ (b : Int) ≠ y → tY s p.at_ (a : Int) (b : Int) → False := by
    rintro a b ha ⟨hb, hby⟩ ⟨_, q2, q3⟩
    rw [hsp, hsp] at q2 q3
    obtain ⟨_, k, hk, e1, _, e2⟩ := q3 (by omega)
    have : t = (k : Int) := by omega
    refine hby ?_
    rw [hy, this, iP (inI hk)]
    simp only [tN]
    exact e2.symm
   rcases uz hL.pair hum hvm (by omega) with hr | hr
   ·exact fin u v hu2.1 hv2 (n9 g (inI hu) (inI hv) hum hr h1 h2)
   ·exact fin v u hv2.1 hu2 (n9 g (inI hv) (inI hu) hvm hr h2 h1)
  ·intro v hv hpv
   have hm := hmade v hv ((hlive v).1 hpv).1
   obtain ⟨h1, h2, h3⟩ := hL.ins _ hm
   have h4 := et g.h h1
   rw [hce] at h3 h4
   exact ⟨h2, h3, h4.1⟩
 have split : ∀ k, k ≤ s.vars.length → kd s (aZ s) t k ≤ ta C live k + (if ∃ v, v < k ∧ (v : Int) = y then fM s s.rules.length else 0) := by
  intro k
  induction k with
  | zero => intro _; unfold kd ta; rw [iN (by rintro ⟨v, h, _⟩; omega)]; omega
  | succ k ih =>
   intro hk
   have ih' := ih (by omega)
   have hck := lj g.h (v := k) (by omega)
   unfold kd ta
   by_cases e : (k : Int) = y
   ·have hn : ¬ ∃ v, v < k ∧ (v : Int) = y := by rintro ⟨v, h1, h2⟩; omega
    rw [iN hn] at ih'
    rw [iP (show ∃ v, v < k + 1 ∧ (v : Int) = y from ⟨k, by omega, e⟩)]
    have hl : ¬ live k = true := fun h => ((hlive k).1 h).2 e
    rw [iN hl]
    have hg : C k ≤ fM s s.rules.length := by
     by_cases ht : 0 ≤ t ∧ t < (s.rules.length : Int)
     ·rw [iP ht] at hy
      have := hgr.2.2 t.toNat (by omega)
      rw [← hy, ← e, hce] at this
      exact this
     ·rw [iN ht] at hy; omega
    have hC : C k = dB (s.vars.getD k default).n := rfl
    split <;> omega
   ·have hx : (if ∃ v, v < k + 1 ∧ (v : Int) = y then fM s s.rules.length else 0) = (if ∃ v, v < k ∧ (v : Int) = y then fM s s.rules.length else 0) := by
     by_cases h : ∃ v, v < k ∧ (v : Int) = y
     ·rw [iP h, iP (by obtain ⟨v, h1, h2⟩ := h; exact ⟨v, by omega, h2⟩)]
     ·rw [iN h, iN]
      rintro ⟨v, h1, h2⟩
      by_cases hv : v = k
      ·subst hv; exact e h2
      ·exact h ⟨v, by omega, h2⟩
    rw [hx]
    by_cases hl : ((aZ s).getD k default).from_ ≤ t ∧ t ≤ ((aZ s).getD k default).to
    ·rw [iP hl, iP ((hlive k).2 ⟨hl, e⟩)]
     have hC : C k = dB (s.vars.getD k default).n := rfl
     omega
    ·rw [iN hl, iN (fun h => hl ((hlive k).1 h).1)]
     omega
 have h1 := split s.vars.length (Nat.le_refl _)
 have h2 : (if ∃ v, v < s.vars.length ∧ (v : Int) = y then fM s s.rules.length else 0) ≤ fM s s.rules.length := by split <;> omega
 omega
theorem tb (s : ab) (l : List am) {B : Int} (h0 : 0 ≤ B) (h : ∀ t, kd s l t s.vars.length ≤ B) : ∀ k, 0 ≤ ke s l k ∧ ke s l k ≤ B
 | 0 => by unfold ke; omega
 | k + 1 => by
  have := tb s l h0 h k
  have := h (-1 + (k : Int))
  unfold ke
  split <;> omega
theorem oa (s : ab) (_ : s.ok) (_ : s.sz ≤ 1048576) : jM s = some true := by
 unfold jM
 rw [lR]
 simp only [bSq, if_true]
 obtain ⟨b, hb, _⟩ := sY s 150 (by omega)
 rw [show dz s 150 = some b from hb]
 simp only [bSq]
 cases b with
 | true => rfl
 | false =>
  rw [iN (by decide)]
  obtain ⟨p, f, hm, hf⟩ := uy s
  rw [hm]
  simp only [bSq]
  by_cases hfc : f.code = 0
  ·rcases hf with hf | ⟨g, hs, rfl, hp⟩
   ·exact absurd hfc hf
   rw [iN (not_not_intro hfc)]
   have nv := g.h.nv
   have nr := g.h.nr
   have ni := g.h.ni
   have hL := hp.lay
   have l2 := d3 (S := Int × Int × Int × Int) (T := Int × Int × Int) (fun i => (bQ s i, ki s i, fM s i, (i : Int))) (body := fun x => cQ s x.1 x.2.1 x.2.2.1 x.2.2.2) s.rules.length
    (bQ s s.rules.length, ki s s.rules.length, fM s s.rules.length)
    (by
     intro i hi
     have ho := (g.rule hi).1.o
     have ho' : 0 ≤ (s.rules.getD i default).out_ ∧ (s.rules.getD i default).out_ < (s.vars.length : Int) := ho
     have hk := kh g i (by omega)
     have hsu := rM g i (by omega)
     have hc := et g.h ho
     have ecell : dB (s.vars.getD (s.rules.getD i default).out_.toNat default).n = bm s (s.rules.getD i default).out_ := rfl
     show cQ s (bQ s i) (ki s i) (fM s i) (i : Int) = some (Sum.inl ((if (s.rules.getD i default).op = 13 then bQ s i + bm s (s.rules.getD i default).out_ else bQ s i), ki s i + bm s (s.rules.getD i default).out_,
      (if bm s (s.rules.getD i default).out_ > fM s i then bm s (s.rules.getD i default).out_ else fM s i), ((i + 1 : Nat) : Int)))
     unfold cQ
     rw [iP (ltI hi)]
     simp only [tN]
     rw [iP ⟨inI hi, ho'⟩, ex]
     simp only [bSq]
     unfold eU
     rw [ecell, wr (n := ki s i + bm s (s.rules.getD i default).out_) (by omega) (by omega), wrs i (by omega)]
     by_cases h13 : (s.rules.getD i default).op = 13
     ·rw [iP h13, iP h13, wr (by omega) (by omega)]
     ·rw [iN h13, iN h13])
    (by
     show cQ s _ _ _ (s.rules.length : Int) = _
     unfold cQ
     rw [iN (bi _)])
   show (aU (fun (x : Int × Int × Int × Int) => cQ s x.1 x.2.1 x.2.2.1 x.2.2.2) (bQ s 0, ki s 0, fM s 0, ((0 : Nat) : Int))).bind (fun z => ef s (p, au.mk 0 0) z.1 z.2.1 z.2.2) = _
   rw [l2]
   simp only [bSq]
   have hk := kh g s.rules.length (Nat.le_refl _)
   have hsu := rM g s.rules.length (Nat.le_refl _)
   have hgr := oz g s.rules.length (Nat.le_refl _)
   unfold ef
   have l1 := d3 (S := Int × Int) (T := Int) (fun i => (ki s s.rules.length + km s (s.in_.take i), (i : Int))) (body := fun x => cP s x.1 x.2) s.in_.length (ki s s.rules.length + km s s.in_)
    (by
     intro i hi
     have hv := g.h.i _ (br hi)
     have hv' : 0 ≤ s.in_.getD i default ∧ s.in_.getD i default < (s.vars.length : Int) := hv
     have hc := et g.h hv
     have hb := nA g.h (s.in_.take i) (fun x hx => g.h.i x (List.mem_of_mem_take hx))
     have hl : (s.in_.take i).length ≤ 400 := by simp; omega
     have ecell : dB (s.vars.getD (s.in_.getD i default).toNat default).n = bm s (s.in_.getD i default) := rfl
     show cP s (ki s s.rules.length + km s (s.in_.take i)) (i : Int) = some (Sum.inl (ki s s.rules.length + km s (s.in_.take (i + 1)), ((i + 1 : Nat) : Int)))
     unfold cP
     rw [iP (ltI hi)]
     simp only [tN]
     rw [iP ⟨inI hi, hv'⟩, ex]
     simp only [bSq]
     rw [cN _ hi, mM, ecell, wr (by omega) (by omega), wrs i (by omega), Int.add_assoc])
    (by
     show cP s _ (s.in_.length : Int) = _
     unfold cP
     rw [iN (bi _), List.take_length])
   have e0 : (ki s s.rules.length + km s (s.in_.take 0), ((0 : Nat) : Int)) = (ki s s.rules.length, 0) := by simp [km]
   rw [e0] at l1
   show (aU (fun (x : Int × Int) => cP s x.1 x.2) (ki s s.rules.length, 0)).bind _ = _
   rw [l1]
   simp only [bSq]
   unfold eT
   have hb := nA g.h s.in_ g.h.i
   have hsum := hL.sum
   rw [rg s _ (Nat.le_refl _)] at hsum
   have hhi := hL.hi
   have hlo := hL.lo
   rw [wr (n := bQ s s.rules.length + (ki s s.rules.length + km s s.in_)) (by omega) (by omega)]
   rw [iP (show p.cells ≤ bQ s s.rules.length + (ki s s.rules.length + km s s.in_) by omega), tS g]
   simp only [bSq]
   have hmost : 0 ≤ uu s ∧ uu s ≤ p.cells - bQ s s.rules.length + fM s s.rules.length := tb s (aZ s) (by omega) (fun t => wD g hp t) (s.rules.length + 2)
   rw [wr (n := bQ s s.rules.length + uu s) (by omega) (by omega), wr (by omega) (by omega)]
   congr 1
   rw [decide_eq_true_iff]
   show p.cells ≥ _
   omega
  ·rw [iP hfc]
end Pam
