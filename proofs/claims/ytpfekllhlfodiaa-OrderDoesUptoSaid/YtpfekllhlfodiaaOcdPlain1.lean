/- Rules in turns: what has been made, and what comes next. -/
import Derived.Test.YtpfekllhlfodiaaOabcdPlain1
import Derived.Test.YtpfekllhlfodiaaOcdWide1
import Derived.Test.YtpfekllhlfodiaaOcdFun1
set_option linter.all false
namespace Pam
open Go
theorem lB {s : af} (g : co s) {i : Nat} (hi : i < s.rules.length) : ¬ (s.rules.getD i default).out_ ∈ bz s i := fun h => (g.rule hi).2.2.2.1 (List.contains_iff_mem.2 h)
theorem tQ (s : af) (x : Int) {i : Nat} (hi : i ≤ s.rules.length) : x ∈ eP s i ↔ ∃ k, k < i ∧ (s.rules.getD k default).out_ = x := by
 induction i with
 | zero => simp [eP]
 | succ i ih =>
  have e2 : eP s (i + 1) = eP s i ++ [(s.rules.getD i default).out_] := by unfold eP; rw [bD _ (by omega), List.map_append]; rfl
  rw [e2, List.mem_append, ih (by omega), List.mem_singleton]
  constructor
  ·rintro (⟨k, hk, h⟩ | h)
   ·exact ⟨k, by omega, h⟩
   ·exact ⟨i, by omega, h.symm⟩
  ·rintro ⟨k, hk, h⟩
   by_cases e : k = i
   ·subst e; exact .inr h.symm
   ·exact .inl ⟨k, by omega, h⟩
theorem kk (s : af) (x : Int) {i : Nat} (hi : i ≤ s.rules.length) : x ∈ bz s i ↔ x ∈ s.in_ ∨ ∃ k, k < i ∧ (s.rules.getD k default).out_ = x := by
 rw [iX, List.mem_append, tQ s x hi]
theorem lX {s : af} (g : co s) {i k : Nat} (hi : i < s.rules.length) (hk : k < s.rules.length) (h : (s.rules.getD k default).out_ = (s.rules.getD i default).out_) : k = i := by
 rcases Nat.lt_trichotomy k i with hh | hh | hh
 ·exact absurd ((kk s _ (by omega)).2 (.inr ⟨k, hh, h⟩)) (lB g hi)
 ·exact hh
 ·exact absurd ((kk s _ (by omega)).2 (.inr ⟨i, hh, h.symm⟩)) (lB g hk)
theorem u6 {s : af} (g : co s) {i : Nat} (hi : i < s.rules.length) : ¬ (s.rules.getD i default).out_ ∈ s.in_ := fun h =>
 lB g hi ((kk s _ (by omega)).2 (.inl h))
theorem yH {s : af} (g : co s) {i : Nat} (hi : i < s.rules.length) {x : Int} (hx : x ∈ aM (s.rules.getD i default)) : x ∈ s.in_ ∨ ∃ k, k < s.rules.length ∧ (s.rules.getD k default).out_ = x :=
 (kk s x (Nat.le_refl _)).1 (g.u i hi x (iY hx))
theorem xZ {s : af} (g : co s) {i : Nat} (hi : i < s.rules.length) : ∀ x ∈ aM (s.rules.getD i default), inV s x := fun x hx => (g.rule hi).2.1 x (iY hx)
theorem my {α : Type} [Inhabited α] {l : List α} {i : Nat} (h : i < l.length) : l.getD i default = l[i] := by simp [List.getD, h]
def dI (d : List Nat) : List Int := d.map (fun (k : Nat) => (k : Int))
theorem i1 (d : List Nat) : (dI d).length = d.length := by unfold dI; simp
theorem nC {d : List Nat} {k : Nat} (h : k < d.length) : (dI d).getD k default = ((d.getD k default : Nat) : Int) := by simp [dI, List.getD, h]
theorem xt (d e : List Nat) : dI (d ++ e) = dI d ++ dI e := by simp [dI]
theorem tY {d : List Nat} {k : Nat} : (k : Int) ∈ dI d ↔ k ∈ d := by
 unfold dI
 rw [List.mem_map]
 constructor
 ·rintro ⟨a, h, e⟩
  have : a = k := by omega
  exact this ▸ h
 ·intro h; exact ⟨k, h, rfl⟩
def ee (s : af) (d : List Nat) : List Int := s.in_ ++ d.map (fun k => (s.rules.getD k default).out_)
theorem wy (s : af) (d : List Nat) (i : Nat) : ee s (d ++ [i]) = ee s d ++ [(s.rules.getD i default).out_] := by simp [ee]
theorem wz (s : af) : ee s [] = s.in_ := by simp [ee]
theorem km {s : af} {d : List Nat} {x : Int} : x ∈ ee s d ↔ x ∈ s.in_ ∨ ∃ k, k ∈ d ∧ (s.rules.getD k default).out_ = x := by
 unfold ee
 rw [List.mem_append, List.mem_map]
def pI (s : af) (d : List Nat) (i : Nat) : Bool := decide (kX (ee s d) (s.rules.getD i default))
def aU (s : af) : List Nat := la s.rules.length (pI s)
theorem zO (s : af) (y : Int) : ∀ d : List Nat, (dI d).any (fun x => (s.rules.getD x.toNat default).out_ == y) = (d.map (fun k => (s.rules.getD k default).out_)).contains y
 | [] => by simp [dI]
 | k :: d => by
  have ih := zO s y d
  unfold dI at ih ⊢
  rw [List.map_cons, List.any_cons, ih, List.map_cons, List.contains_cons, Int.toNat_natCast]
  congr 1
  exact Bool.beq_comm
theorem AR {s : af} {r : ae} {d : List Nat} (hd : ∀ k ∈ d, k < s.rules.length) (hl : d.length ≤ 100000) (hn : s.rules.length ≤ 100000) (hin : s.in_.length ≤ 100000) (ha : r.a.length ≤ 1000) (he : r.e.length ≤ 1000) :
  kC s r (dI d) = some (decide (kX (ee s d) r)) := by
 unfold kC
 rw [jJ r (by omega) (by omega)]
 simp only [Option.bind_some]
 have hnl := eX r
 have hbl : (dI d).length = d.length := i1 d
 have inner : ∀ (k : Nat) (b : Bool), aT (fun (x : Bool × Int) => cb s (dI d) (aM r) (k : Int) x.1 x.2) (b, 0) = some (b || (d.map (fun k => (s.rules.getD k default).out_)).contains ((aM r).getD k default)) := by
  intro k b
  obtain ⟨h1, _⟩ := lz (A := Bool) (T := Int) (O := Bool) (S := Bool × Int) (fun a i => (a, i)) (body := fun x => cb s (dI d) (aM r) (k : Int) x.1 x.2) (dI d)
   (fun b x => b || (s.rules.getD x.toNat default).out_ == (aM r).getD k default) (fun _ _ => True) (fun a => a) b trivial
   (by
    intro j a hj _
    refine ⟨?_, trivial⟩
    show cb s (dI d) (aM r) (k : Int) a (j : Int) = _
    unfold cb
    rw [if_pos (ltI hj), wrs j (by omega)]
    have hj2 : j < d.length := by omega
    cases a
    ·have e := nC hj2
     have hb := hd _ (bi hj2)
     simp only [Bool.false_eq_true, if_false, Int.toNat_natCast, e]
     rw [if_pos ⟨inI hj, by omega⟩]
     simp
    ·simp)
   (by
    intro a _
    show cb s (dI d) (aM r) (k : Int) a ((dI d).length : Int) = _
    unfold cb
    rw [if_neg (aX _)])
  rw [h1, tL, zO s _ d]
 rw [br (aM r).length (fun k => if (aM r).getD k default ∈ ee s d then none else some false) () (fun k hk => by
  unfold iT
  rw [if_pos (ltI hk), if_pos (inI hk)]
  simp only [Int.toNat_natCast]
  rw [d3 _ _ (by omega)]
  simp only [Option.bind_some]
  show (aT (fun (x : Bool × Int) => cb s (dI d) (aM r) (k : Int) x.1 x.2) (s.in_.contains ((aM r).getD k default), 0)).bind (fun z13 => fa (k : Int) z13) = _
  rw [inner]
  simp only [Option.bind_some]
  unfold fa j0
  rw [wrs k (by omega)]
  by_cases hc : (aM r).getD k default ∈ ee s d
  ·have : (s.in_.contains ((aM r).getD k default) || (d.map (fun k => (s.rules.getD k default).out_)).contains ((aM r).getD k default)) = true := by
    rcases List.mem_append.1 hc with h | h
    ·rw [List.contains_iff_mem.2 h]; rfl
    ·rw [List.contains_iff_mem.2 h, Bool.or_true]
   rw [this, if_pos hc]; rfl
  ·have : (s.in_.contains ((aM r).getD k default) || (d.map (fun k => (s.rules.getD k default).out_)).contains ((aM r).getD k default)) = false := by
    rw [Bool.or_eq_false_iff]
    constructor
    ·cases hq : s.in_.contains ((aM r).getD k default)
     ·rfl
     ·exact absurd (List.mem_append.2 (.inl (List.contains_iff_mem.1 hq))) hc
    ·cases hq : (d.map (fun k => (s.rules.getD k default).out_)).contains ((aM r).getD k default)
     ·rfl
     ·exact absurd (List.mem_append.2 (.inr (List.contains_iff_mem.1 hq))) hc
   rw [this, if_neg hc]; rfl) (by unfold iT; rw [if_neg (aX _)])]
 rw [py (aM r) (fun x => x ∈ ee s d)]
 by_cases h : kX (ee s d) r
 ·have : ¬ ∃ x ∈ aM r, ¬ x ∈ ee s d := fun ⟨x, h1, h2⟩ => h2 (h x h1)
  simp only [if_neg this, h, decide_true]
  rfl
 ·have : ∃ x ∈ aM r, ¬ x ∈ ee s d := Classical.byContradiction fun hc => h (fun x hx => Classical.byContradiction fun hd => hc ⟨x, hx, hd⟩)
  simp only [if_pos this, h, decide_false]
  rfl
theorem u7 {l l' : List Int} {r : ae} (h : kX l r) (hl : ∀ x, x ∈ l → x ∈ l') : kX l' r := fun x hx => hl x (h x hx)
theorem A4 {s : af} {i : Nat} (hi : i < s.rules.length) (hn : ¬ i ∈ aU s) : ∃ x ∈ aM (s.rules.getD i default), ¬ x ∈ ee s (aU s) := by
 have h := xo (wx (n := s.rules.length) (c := pI s)) i hi hn
 unfold pI at h
 have h2 := of_decide_eq_false h
 exact Classical.byContradiction fun hc => h2 (fun x hx => Classical.byContradiction fun hd => hc ⟨x, hx, hd⟩)
def m4 (s : af) (i : Nat) : Int := ((aM (s.rules.getD i default)).find? (fun x => decide (¬ x ∈ ee s (aU s)))).getD 0
theorem np {s : af} {i : Nat} (hi : i < s.rules.length) (hn : ¬ i ∈ aU s) : ∃ j, j < (aM (s.rules.getD i default)).length ∧ (aM (s.rules.getD i default)).getD j default = m4 s i ∧ ¬ m4 s i ∈ ee s (aU s) ∧
  ∀ k, k < j → (aM (s.rules.getD i default)).getD k default ∈ ee s (aU s) := by
 obtain ⟨x, hx, hxn⟩ := A4 hi hn
 unfold m4
 cases h : (aM (s.rules.getD i default)).find? (fun x => decide (¬ x ∈ ee s (aU s))) with
 | none => exact absurd (decide_eq_true hxn) (List.find?_eq_none.1 h x hx)
 | some y =>
  obtain ⟨h1, j, hj, h2, h3⟩ := List.find?_eq_some_iff_getElem.1 h
  refine ⟨j, hj, (my hj).trans h2, by simpa using h1, fun k hk => ?_⟩
  have := h3 k hk
  rw [my (show k < (aM (s.rules.getD i default)).length from by omega)]
  have h5 := this
  rw [Bool.not_eq_true', decide_eq_false_iff_not] at h5
  exact Classical.not_not.1 h5
def nxS (s : af) (i : Nat) : Nat := ((List.range s.rules.length).find? (fun k => (s.rules.getD k default).out_ == m4 s i)).getD 0
theorem pJ {s : af} (g : co s) {i : Nat} (hi : i < s.rules.length) (hn : ¬ i ∈ aU s) : nxS s i < s.rules.length ∧ ¬ nxS s i ∈ aU s ∧ (s.rules.getD (nxS s i) default).out_ = m4 s i := by
 obtain ⟨j, hj, e, h1, _⟩ := np hi hn
 have hm : m4 s i ∈ aM (s.rules.getD i default) := e ▸ bi hj
 rcases yH g hi hm with h2 | ⟨k, hk, h2⟩
 ·exact absurd (km.2 (.inl h2)) h1
 ·unfold nxS
  cases h : (List.range s.rules.length).find? (fun k => (s.rules.getD k default).out_ == m4 s i) with
  | none => exact absurd (beq_iff_eq.2 h2) (List.find?_eq_none.1 h k (List.mem_range.2 hk))
  | some y =>
   have h3 := List.find?_some h
   rw [beq_iff_eq] at h3
   have h4 := List.mem_range.1 (List.mem_of_find?_eq_some h)
   refine ⟨h4, fun hc => h1 (km.2 (.inr ⟨y, hc, h3⟩)), h3⟩
end Pam

namespace Pam
open Go
theorem tZ {s : af} (g : co s) {l : List Int} {L : List Nat} (hL : ∀ k ∈ L, k < s.rules.length) (hl : L.length ≤ 100000) {a : List ak} {b c : List Int} {d : List ae} :
  ∃ z, cj (dI L) s a b c d (bg s l) = some z ∧ ((z = -1 ∧ ∀ i, i < L.length → decide (kX l (s.rules.getD (L.getD i default) default)) = false) ∨
   ∃ j, j < L.length ∧ z = (j : Int) ∧ decide (kX l (s.rules.getD (L.getD j default) default)) = true ∧ ∀ i, i < j → decide (kX l (s.rules.getD (L.getD i default) default)) = false) := by
 unfold cj
 have hbl := i1 L
 rw [br (dI L).length (fun k => if decide (kX l (s.rules.getD (L.getD k default) default)) = true then some (k : Int) else none) () (fun k hk => by
  have hk2 : k < L.length := by omega
  have hb := hL _ (bi hk2)
  obtain ⟨gr, hu, ha, _⟩ := g.rule hb
  have he := gr.e
  unfold cq mw
  rw [if_pos (ltI hk), if_pos (inI hk), wrs k (by omega)]
  simp only [Int.toNat_natCast]
  rw [nC hk2, if_pos (inI hb), Int.toNat_natCast, rm (fun x hx => hu x (iY hx)) (by omega) (by omega)]
  simp only [Option.bind_some]
  cases decide (kX l (s.rules.getD (L.getD k default) default)) <;> rfl) (by unfold cq; rw [if_neg (aX _)])]
 rcases zN (dI L).length (fun k => if decide (kX l (s.rules.getD (L.getD k default) default)) = true then some (k : Int) else none) () with ⟨e, h⟩ | ⟨j, z, hj, hz, hm, e⟩
 ·rw [e]
  refine ⟨-1, rfl, .inl ⟨rfl, fun i hi => ?_⟩⟩
  have := h i (by omega)
  cases hq : decide (kX l (s.rules.getD (L.getD i default) default))
  ·rfl
  ·simp only [hq, if_true] at this; cases this
 ·rw [e]
  refine ⟨z, rfl, .inr ⟨j, by omega, ?_⟩⟩
  cases hq : decide (kX l (s.rules.getD (L.getD j default) default))
  ·simp only [hq] at hz; cases hz
  ·simp only [hq, if_true, Option.some.injEq] at hz
   refine ⟨hz.symm, rfl, fun i hi => ?_⟩
   have := hm i hi
   cases hq2 : decide (kX l (s.rules.getD (L.getD i default) default))
   ·rfl
   ·simp only [hq2, if_true] at this; cases this
theorem oT {n b : Nat} (h : n ≤ 200000) (hb : b ≤ 1000) : dy n b := by
 have hx : maxLen = 9223372036854775807 := rfl
 have : n * b ≤ 200000 * 1000 := Nat.mul_le_mul h hb
 unfold dy
 omega
theorem se (l : List Int) (h : l.length ≤ 100000) : bQ l = some l := by
 unfold bQ
 by_cases h0 : l = []
 ·rw [if_pos h0, h0]
 ·rw [if_neg h0, if_pos (oT (by omega) (by omega))]
theorem u9 {T : Type} (l : List T) (b : Nat) (h : l.length ≤ 100000) (hb : b ≤ 1000) [Decidable (l = [])] : (if l = [] then some [] else (if dy l.length b then some l else none)) = some l := by
 by_cases h0 : l = []
 ·rw [if_pos h0, h0]
 ·rw [if_neg h0, if_pos (oT (by omega) hb)]
theorem zP (r : ae) (ha : r.a.length ≤ 1000) (he : r.e.length ≤ 1000) : mD r = some r := by
 unfold mD cT
 rw [se _ (by omega)]
 simp only [Option.bind_some]
 rw [u9 r.e 32 (by omega) (by omega)]
 rfl
def iF (s : af) : af := af.mk s.vars s.in_ s.out_ ((aU s).map (fun k => s.rules.getD k default))
def noS : af := af.mk [] [] [] []
def m5 (s : af) : af × au := if (aU s).length = s.rules.length then (iF s, au.mk 0 0) else (noS, au.mk 15 (((bV s.rules.length (aU s)).getD 0 default : Nat) : Int))
theorem lb {s : af} {k : Nat} (h : k ∈ aU s) : k < s.rules.length := AQ h
theorem nq (s : af) : (aU s).length ≤ s.rules.length := vJ
theorem ku (s : af) : (aU s).Nodup := xp
theorem rv {s : af} {k : Nat} (hk : k < (aU s).length) : iE s.rules.length (pI s) ((aU s).take k) = some ((aU s).getD k default) := zL hk
theorem wA (s : af) : iE s.rules.length (pI s) (aU s) = none := wx
theorem AS {s : af} {k i : Nat} (h : i ∈ (aU s).take k) : i < s.rules.length := lb (List.mem_of_mem_take h)
theorem BQ {L : List Nat} {j : Nat} : vF (dI L) j (j + 1) = dI (L.take j ++ L.drop (j + 1)) := by
 unfold vF dI
 rw [List.map_append, List.map_take, List.map_drop]
theorem AT (s : af) (hn : s.rules.length ≤ 100000) : aT (fun (x : List Int × Int) => dH s x.1 x.2) (List.replicate s.rules.length 0, 0) = some (dI (bV s.rules.length [])) := by
 have := b9 (S := List Int × Int) (T := List Int) (fun i => (ce s.rules.length (fun u => if u < i then (u : Int) else 0), (i : Int))) (body := fun x => dH s x.1 x.2) s.rules.length (dI (bV s.rules.length []))
  (by
   intro i hi
   show dH s (ce s.rules.length (fun u => if u < i then (u : Int) else 0)) (i : Int) = _
   unfold dH
   rw [if_pos (ltI hi), il, if_pos (inI hi), wrs i (by omega), Int.toNat_natCast, lU]
   congr 3
   apply cA
   intro v hv
   by_cases h : v = i
   ·subst h; simp
   ·rw [if_neg h]
    by_cases h2 : v < i
    ·rw [if_pos h2, if_pos (by omega)]
    ·rw [if_neg h2, if_neg (by omega)])
  (by
   show dH s (ce s.rules.length (fun u => if u < s.rules.length then (u : Int) else 0)) (s.rules.length : Int) = _
   unfold dH
   rw [if_neg (aX _)]
   congr 2
   have : bV s.rules.length [] = List.range s.rules.length := by unfold bV; rw [List.filter_eq_self]; intro a _; rfl
   rw [this]
   unfold dI ce
   apply List.map_congr_left
   intro v hv
   rw [if_pos (List.mem_range.1 hv)])
 rw [show ((0 : Nat) : Int) = 0 from rfl] at this
 have e : ce s.rules.length (fun u => if u < 0 then (u : Int) else 0) = List.replicate s.rules.length 0 := by
  rw [tE]
  apply cA
  intro v _
  rw [if_neg (by omega)]
 rw [e] at this
 exact this
theorem yI {s : af} (g : co s) {k : Nat} (hk : k < (aU s).length) (y : List ak × List Int × List Int × List ae × List Bool) :
  cR s y (bg s (ee s ((aU s).take k))) (dI (bV s.rules.length ((aU s).take k))) (((aU s).take k).map (fun k => s.rules.getD k default)) =
   some (.inl (bg s (ee s ((aU s).take (k + 1))), dI (bV s.rules.length ((aU s).take (k + 1))), ((aU s).take (k + 1)).map (fun k => s.rules.getD k default))) := by
 have hn := g.h.nr
 have hL : ∀ i ∈ bV s.rules.length ((aU s).take k), i < s.rules.length := fun i hi => (lC.1 hi).1
 have hLl : (bV s.rules.length ((aU s).take k)).length ≤ s.rules.length := me (pG _ _) hL
 have hx := rv hk
 obtain ⟨z, hz, hc⟩ := tZ g (l := ee s ((aU s).take k)) hL (by omega) (a := y.1) (b := y.2.1) (c := y.2.2.1) (d := y.2.2.2.1)
 rcases hc with ⟨_, h⟩ | ⟨j, hj, rfl, h1, h2⟩
 ·have := xq (c := pI s) (d := (aU s).take k) h
  rw [this] at hx; cases hx
 ·have := tX (c := pI s) (d := (aU s).take k) hj h1 h2
  rw [this] at hx
  have hx := Option.some.inj hx
  have hb := hL _ (bi hj)
  obtain ⟨gr, hu, ha, _⟩ := g.rule hb
  have he := gr.e
  have go := gr.o
  have go' := go
  unfold inV at go'
  have hdl := i1 (bV s.rules.length ((aU s).take k))
  unfold cR
  rw [if_pos (by rw [hdl]; omega), hz]
  simp only [Option.bind_some]
  rw [if_neg (by omega), Int.toNat_natCast, nC hj, hdl, if_pos ⟨inI hj, inI hb⟩, Int.toNat_natCast, zP _ (by omega) (by omega)]
  simp only [Option.bind_some]
  have hle := nq s
  rw [if_pos (oT (by simp; omega) (by omega)), dX, if_pos go']
  unfold fQ
  rw [wrs j (by omega), if_pos ⟨⟨by omega, by omega, by rw [hdl]; omega⟩, fun h => by rw [h] at hdl; simp at hdl; omega⟩]
  simp only [Option.bind_some, Int.toNat_natCast]
  rw [BQ, yG hj, mC go, hx, bD _ hk, wy, List.map_append]
  rfl
theorem zQ {s : af} (g : co s) : hN s (s.vars, s.in_, s.out_, s.rules, bg s s.in_) (dI (bV s.rules.length [])) = some (m5 s) := by
 have hn := g.h.nr
 have hni := g.h.ni
 have hno := g.h.no
 have hnv := g.h.nv
 unfold hN
 have e0 : ee s ((aU s).take 0) = s.in_ := by rw [List.take_zero, wz]
 have hL : ∀ i ∈ bV s.rules.length (aU s), i < s.rules.length := fun i hi => (lC.1 hi).1
 have hLl := sa (n := s.rules.length) (ku s) (fun i hi => lb hi)
 have hdl := i1 (bV s.rules.length (aU s))
 have key : ∀ t, cR s (s.vars, s.in_, s.out_, s.rules, bg s s.in_) (bg s (ee s (aU s))) (dI (bV s.rules.length (aU s))) ((aU s).map (fun k => s.rules.getD k default)) = some (.inr t) →
   aT (fun (x : List Bool × List Int × List ae) => cR s (s.vars, s.in_, s.out_, s.rules, bg s s.in_) x.1 x.2.1 x.2.2) (bg s s.in_, dI (bV s.rules.length []), []) = some t := by
  intro t ht
  have := b9 (S := List Bool × List Int × List ae) (fun k => (bg s (ee s ((aU s).take k)), dI (bV s.rules.length ((aU s).take k)), ((aU s).take k).map (fun k => s.rules.getD k default)))
   (body := fun x => cR s (s.vars, s.in_, s.out_, s.rules, bg s s.in_) x.1 x.2.1 x.2.2) (aU s).length t (fun i hi => yI g hi _) (by
    show cR s (s.vars, s.in_, s.out_, s.rules, bg s s.in_) (bg s (ee s ((aU s).take (aU s).length))) (dI (bV s.rules.length ((aU s).take (aU s).length))) (((aU s).take (aU s).length).map (fun k => s.rules.getD k default)) = _
    rw [List.take_length]; exact ht)
  rw [e0] at this
  exact this
 show (aT (fun (x : List Bool × List Int × List ae) => cR s (s.vars, s.in_, s.out_, s.rules, bg s s.in_) x.1 x.2.1 x.2.2) (bg s s.in_, dI (bV s.rules.length []), [])).bind _ = _
 unfold m5
 by_cases hK : (aU s).length = s.rules.length
 ·rw [if_pos hK, key (.inl (bg s (ee s (aU s)), dI (bV s.rules.length (aU s)), (aU s).map (fun k => s.rules.getD k default))) (by
   unfold cR
   rw [if_neg (by omega)])]
  show hM s (bg s (ee s (aU s))) (dI (bV s.rules.length (aU s))) ((aU s).map (fun k => s.rules.getD k default)) = _
  unfold hM dm
  rw [u9 s.vars 16 (by omega) (by omega), se _ (by omega)]
  simp only [Option.bind_some]
  rw [se _ (by omega)]
  rfl
 ·have hle := nq s
  have hpos : 0 < (bV s.rules.length (aU s)).length := by omega
  obtain ⟨z, hz, hc⟩ := tZ g (l := ee s (aU s)) hL (by omega) (a := s.vars) (b := s.in_) (c := s.out_) (d := s.rules)
  rw [if_neg hK, key (.inr (noS, au.mk 15 (((bV s.rules.length (aU s)).getD 0 default : Nat) : Int))) (by
   unfold cR
   rw [if_pos (by omega)]
   show Option.bind (cj (dI (bV s.rules.length (aU s))) s s.vars s.in_ s.out_ s.rules (bg s (ee s (aU s)))) _ = _
   rw [hz]
   rcases hc with ⟨rfl, h⟩ | ⟨j, hj, rfl, h1, h2⟩
   ·simp only [Option.bind_some]
    rw [if_pos (by omega), if_pos ⟨by omega, by omega⟩, nC hpos]
    rfl
   ·have := tX (c := pI s) (d := aU s) hj h1 h2
    rw [wA] at this; cases this)]
  rfl
theorem rx (s : af) : fK s = some (if (cD s).code = 0 then m5 s else (noS, cD s)) := by
 unfold fK
 rw [pz]
 simp only [Option.bind_some]
 by_cases hc : (cD s).code = 0
 ·obtain ⟨g, _⟩ := fH hc
  rw [if_neg (by simpa using hc), if_pos hc, tK g]
  simp only [Option.bind_some]
  have hn := g.h.nr
  rw [if_pos ⟨⟨by omega, by omega⟩, oT (by omega) (by omega)⟩]
  show (aT (fun (x : List Int × Int) => dH s x.1 x.2) (List.replicate s.rules.length 0, 0)).bind _ = _
  rw [AT s (by omega)]
  exact zQ g
 ·rw [if_pos hc, if_neg hc]
  rfl
end Pam

namespace Pam
open Go
theorem sf (v : Int) (l : List Int) (hl : l.length ≤ 9000000) : n8 v l = some (l.contains v) := by
 unfold n8
 rw [br l.length (fun k => if l.getD k default = v then some true else none) () (fun k hk => by
  unfold lZ
  rw [if_pos (ltI hk), if_pos (inI hk), wrs k (by omega)]
  simp only [Int.toNat_natCast]
  by_cases h : l.getD k default = v
  ·rw [if_pos h, if_pos h]
  ·rw [if_neg h, if_neg h]) (by unfold lZ; rw [if_neg (aX _)])]
 rcases cO l.length (fun k => if l.getD k default = v then some true else none) () with ⟨e, h⟩ | ⟨j, z, hj, hz, e⟩
 ·rw [e]
  have : l.contains v = false := by
   cases hq : l.contains v
   ·rfl
   ·obtain ⟨i, hi, e2⟩ := List.mem_iff_getElem.1 (List.contains_iff_mem.1 hq)
    have := h i hi
    rw [my hi, if_pos e2] at this
    cases this
  rw [this]; rfl
 ·rw [e]
  split at hz
  ·rename_i h
   simp only [Option.some.injEq] at hz
   rw [List.contains_iff_mem.2 (h ▸ bi hj), ← hz]; rfl
  ·cases hz
theorem zR {s : af} {k : Nat} (hk : k ≤ (aU s).length) : ((aU s).take k).length = k := by rw [List.length_take]; omega
theorem zS {s : af} (g : co s) {d : List Nat} (hd : ∀ k ∈ d, k < s.rules.length) (hl : d.length ≤ 100000) :
  aT (fun x => eD s (dI d) x) 0 = some (match iE s.rules.length (pI s) d with | some i => (dI (d ++ [i]), true) | none => (dI d, false)) := by
 have hn := g.h.nr
 have hni := g.h.ni
 have hdl := i1 d
 have := sc (S := Int) (fun i => (i : Int)) (body := fun x => eD s (dI d) x) s.rules.length (fun i => !d.contains i && pI s d i) (fun i => (dI (d ++ [i]), true)) (dI d, false)
  (by
   intro i hi
   show eD s (dI d) (i : Int) = _
   obtain ⟨gr, hu, ha, _⟩ := g.rule hi
   have he := gr.e
   unfold eD
   rw [if_pos (ltI hi), sf _ _ (by omega)]
   simp only [Option.bind_some]
   rw [wrs i (by omega)]
   by_cases hm : i ∈ d
   ·have h1 : (dI d).contains (i : Int) = true := List.contains_iff_mem.2 (tY.2 hm)
    have h2 : d.contains i = true := List.contains_iff_mem.2 hm
    rw [h1, h2]; rfl
   ·have h1 : ¬ (dI d).contains (i : Int) = true := fun h => hm (tY.1 (List.contains_iff_mem.1 h))
    have h2 : d.contains i = false := by
     cases hq : d.contains i
     ·rfl
     ·exact absurd (List.contains_iff_mem.1 hq) hm
    rw [if_neg h1, if_pos (inI hi), h2, Int.toNat_natCast, AR hd (by omega) (by omega) (by omega) (by omega) (by omega)]
    simp only [Option.bind_some]
    rw [if_pos (oT (by rw [hdl]; omega) (by omega))]
    unfold pI
    rw [xt]
    cases decide (kX (ee s d) (s.rules.getD i default)) <;> rfl)
  (by
   show eD s (dI d) (s.rules.length : Int) = _
   unfold eD
   rw [if_neg (aX _)])
 unfold iE
 exact this
theorem wB {s : af} (g : co s) : mE s = some (dI (aU s)) := by
 have hn := g.h.nr
 have hle := nq s
 unfold mE
 have := b9 (S := List Int × Bool) (T := List Int) (fun k => (dI ((aU s).take k), decide (k ≤ (aU s).length))) (body := fun x => fc s x.1 x.2) ((aU s).length + 1) (dI (aU s))
  (by
   intro i hi
   show fc s (dI ((aU s).take i)) (decide (i ≤ (aU s).length)) = _
   unfold fc
   rw [if_pos (decide_eq_true (show i ≤ (aU s).length from by omega))]
   show (aT (fun x => eD s (dI ((aU s).take i)) x) 0).bind _ = _
   rw [zS g (fun k hk => AS hk) (by have := zR (s := s) (k := i) (by omega); omega)]
   by_cases h : i < (aU s).length
   ·rw [rv h, bD _ h]
    simp only [Option.bind_some]
    rw [decide_eq_true (show i + 1 ≤ (aU s).length from by omega)]
   ·have e : i = (aU s).length := by omega
    subst e
    rw [List.take_length, wA]
    simp only [Option.bind_some]
    rw [decide_eq_false (show ¬ (aU s).length + 1 ≤ (aU s).length from by omega), List.take_of_length_le (by omega)])
  (by
   show fc s (dI ((aU s).take ((aU s).length + 1))) (decide ((aU s).length + 1 ≤ (aU s).length)) = _
   unfold fc
   rw [decide_eq_false (show ¬ (aU s).length + 1 ≤ (aU s).length from by omega), List.take_of_length_le (by omega)]
   rfl)
 show (aT (fun (x : List Int × Bool) => fc s x.1 x.2) ([], true)).bind _ = _
 have e : (dI ((aU s).take 0), decide (0 ≤ (aU s).length)) = (([] : List Int), true) := by simp [dI]
 rw [e] at this
 rw [this]
 rfl
theorem zT {s : af} (g : co s) : iv s = some (s.vars, s.in_, s.out_, s.rules) := by
 unfold iv
 have h1 := g.h.nv
 have h2 := g.h.nr
 have h3 := g.h.ni
 have h4 := g.h.no
 rw [if_pos ⟨oT (by omega) (by omega), oT (by omega) (by omega), oT (by omega) (by omega)⟩]
 have := b9 (S := List ae × Int) (T := List ae) (fun i => (s.rules.take i, (i : Int))) (body := fun x => cg s x.1 x.2) s.rules.length s.rules
  (by
   intro i hi
   obtain ⟨gr, hu, ha, _⟩ := g.rule hi
   have he := gr.e
   show cg s (s.rules.take i) (i : Int) = _
   unfold cg
   rw [if_pos (ltI hi), if_pos (inI hi)]
   simp only [Int.toNat_natCast]
   rw [pC _ ⟨by omega, by omega⟩]
   simp only [Option.bind_some]
   rw [if_pos (oT (by simp; omega) (by omega)), wrs i (by omega), bD _ hi]
   rfl)
  (by
   show cg s (s.rules.take s.rules.length) (s.rules.length : Int) = _
   unfold cg
   rw [if_neg (aX _), List.take_length])
 show (aT (fun x => cg s x.1 x.2) ([], 0)).bind (fun z21 => dY s z21) = _
 have e0 : s.rules.take 0 = [] := rfl
 rw [e0, show ((0 : Nat) : Int) = 0 from rfl] at this
 rw [this]
 rfl
theorem BR {s : af} (g : co s) (hK : (aU s).length = s.rules.length) : aT (fun (x : List ae × Int) => fl s (dI (aU s)) x.1 x.2) (s.rules, 0) = some ((aU s).map (fun k => s.rules.getD k default)) := by
 have hn := g.h.nr
 have hdl := i1 (aU s)
 have := b9 (S := List ae × Int) (T := List ae) (fun i => (ce s.rules.length (fun u => if u < i then s.rules.getD ((aU s).getD u default) default else s.rules.getD u default), (i : Int))) (body := fun x => fl s (dI (aU s)) x.1 x.2) s.rules.length ((aU s).map (fun k => s.rules.getD k default))
  (by
   intro i hi
   show fl s (dI (aU s)) (ce s.rules.length (fun u => if u < i then s.rules.getD ((aU s).getD u default) default else s.rules.getD u default)) (i : Int) = _
   have hi2 : i < (aU s).length := by omega
   have hb := lb (bi hi2)
   obtain ⟨gr, hu, ha, _⟩ := g.rule hb
   have he := gr.e
   unfold fl
   rw [if_pos (by omega), Int.toNat_natCast, nC hi2, if_pos ⟨⟨by omega, by omega⟩, inI hb⟩, Int.toNat_natCast, pC _ ⟨by omega, by omega⟩]
   simp only [Option.bind_some]
   rw [il, if_pos (inI hi), wrs i (by omega), lU]
   congr 3
   apply cA
   intro v hv
   by_cases h : v = i
   ·subst h; simp
   ·rw [if_neg h]
    by_cases h2 : v < i
    ·rw [if_pos h2, if_pos (by omega)]
    ·rw [if_neg h2, if_neg (by omega)])
  (by
   show fl s (dI (aU s)) (ce s.rules.length (fun u => if u < s.rules.length then s.rules.getD ((aU s).getD u default) default else s.rules.getD u default)) (s.rules.length : Int) = _
   unfold fl
   rw [if_neg (by omega)]
   congr 2
   rw [xS ((aU s).map (fun k => s.rules.getD k default)), List.length_map, hK]
   apply cA
   intro v hv
   have hv2 : v < (aU s).length := by omega
   have hv3 : v < ((aU s).map (fun k => s.rules.getD k default)).length := by rw [List.length_map]; exact hv2
   show (if v < s.rules.length then s.rules.getD ((aU s).getD v default) default else s.rules.getD v default) = _
   rw [if_pos hv, my hv3, List.getElem_map, my hv2])
 have e : ce s.rules.length (fun u => if u < 0 then s.rules.getD ((aU s).getD u default) default else s.rules.getD u default) = s.rules := by
  refine Eq.trans ?_ (xS s.rules).symm
  apply cA
  intro v _
  rw [if_neg (by omega)]
 rw [e, show ((0 : Nat) : Int) = 0 from rfl] at this
 exact this
theorem xu (s : af) : pE s = some (if (cD s).code = 0 then m5 s else (noS, cD s)) := by
 unfold pE
 rw [nm]
 simp only [Option.bind_some]
 by_cases hc : (cD s).code = 0
 ·obtain ⟨g, _⟩ := fH hc
  have hn := g.h.nr
  have hdl := i1 (aU s)
  have hle := nq s
  rw [if_neg (by simpa using hc), if_pos hc, wB g]
  simp only [Option.bind_some]
  unfold m5
  by_cases hK : (aU s).length = s.rules.length
  ·rw [if_neg (by omega), if_pos hK]
   unfold mb
   rw [zT g]
   simp only [Option.bind_some]
   show (aT (fun (x : List ae × Int) => fl s (dI (aU s)) x.1 x.2) (s.rules, 0)).bind _ = _
   rw [BR g hK]
   rfl
  ·have hLl := sa (n := s.rules.length) (ku s) (fun i hi => lb hi)
   obtain ⟨f1, f2, f3⟩ := sB (n := s.rules.length) (d := aU s) (by omega)
   rw [if_pos (by omega), if_neg hK]
   have := b9 (S := Int) (T := af × au) (fun i => (i : Int)) (body := fun x => iD (dI (aU s)) x) ((bV s.rules.length (aU s)).getD 0 default) (noS, au.mk 15 (((bV s.rules.length (aU s)).getD 0 default : Nat) : Int))
    (by
     intro i hi
     show iD (dI (aU s)) (i : Int) = _
     unfold iD
     rw [d3 _ _ (by omega), List.contains_iff_mem.2 (tY.2 (f3 i hi)), wrs i (by omega)]
     rfl)
    (by
     show iD (dI (aU s)) (((bV s.rules.length (aU s)).getD 0 default : Nat) : Int) = _
     unfold iD
     have hq : (dI (aU s)).contains (((bV s.rules.length (aU s)).getD 0 default : Nat) : Int) = false := by
      cases hq : (dI (aU s)).contains (((bV s.rules.length (aU s)).getD 0 default : Nat) : Int)
      ·rfl
      ·exact absurd (tY.1 (List.contains_iff_mem.1 hq)) f2
     rw [d3 _ _ (by omega), hq, xg]
     rfl)
   rw [show ((0 : Nat) : Int) = 0 from rfl] at this
   rw [this]
   rfl
 ·rw [if_pos hc, if_neg hc]
  rfl
end Pam

namespace Pam
open Go
def jM (w : List Nat) (a : Nat) : Nat := ((List.range w.length).find? (fun i => w.getD i default == a)).getD 0
theorem mf {w : List Nat} {a : Nat} (h : a ∈ w) : jM w a < w.length ∧ w.getD (jM w a) default = a ∧ (∀ j, j < jM w a → ¬ w.getD j default = a) ∧ (List.range w.length).find? (fun i => w.getD i default == a) = some (jM w a) := by
 unfold jM
 cases hq : (List.range w.length).find? (fun i => w.getD i default == a) with
 | none =>
  obtain ⟨i, hi, e⟩ := List.mem_iff_getElem.1 h
  have := List.find?_eq_none.1 hq i (List.mem_range.2 hi)
  rw [my hi] at this
  exact absurd (beq_iff_eq.2 e) this
 | some k =>
  obtain ⟨h1, h2, h3⟩ := List.find?_range_eq_some.1 hq
  refine ⟨List.mem_range.1 h2, beq_iff_eq.1 h1, fun j hj => ?_, rfl⟩
  have := h3 j hj
  simpa using this
theorem wC {w : List Nat} {a : Nat} (h : ¬ a ∈ w) : (List.range w.length).find? (fun i => w.getD i default == a) = none := by
 rw [List.find?_eq_none]
 intro x hx hc
 have := beq_iff_eq.1 hc
 exact h (this ▸ bi (List.mem_range.1 hx))
theorem va {w : List Nat} {a : Nat} (hl : w.length ≤ 100000) : dT (a : Int) (dI w) = some (if a ∈ w then (jM w a : Int) else -1) := by
 unfold dT
 have hdl := i1 w
 have := sc (S := Int) (fun i => (i : Int)) (body := fun x => bI (a : Int) (dI w) x) w.length (fun i => w.getD i default == a) (fun i => (.inr (i : Int) : Unit ⊕ Int)) (.inl ())
  (by
   intro i hi
   show bI (a : Int) (dI w) (i : Int) = _
   unfold bI
   rw [if_pos (by omega), if_pos ⟨by omega, by omega⟩, Int.toNat_natCast, nC hi, wrs i (by omega)]
   by_cases h : w.getD i default = a
   ·rw [if_pos (by rw [h]), if_pos (beq_iff_eq.2 h)]
   ·rw [if_neg (by omega), if_neg (by simpa using h)])
  (by
   show bI (a : Int) (dI w) (w.length : Int) = _
   unfold bI
   rw [if_neg (by omega)])
 rw [show ((0 : Nat) : Int) = 0 from rfl] at this
 rw [this]
 by_cases h : a ∈ w
 ·rw [(mf h).2.2.2, if_pos h]; rfl
 ·rw [wC h, if_neg h]; rfl
def byF (s : af) (v : Int) : Nat → Int
 | 0 => -1
 | i + 1 => if (s.rules.getD i default).out_ = v then (i : Int) else byF s v i
theorem zU {s : af} (g : co s) {k : Nat} (hk : k < s.rules.length) : ∀ i, k < i → i ≤ s.rules.length → byF s (s.rules.getD k default).out_ i = (k : Int)
 | 0, h, _ => by omega
 | i + 1, h, hi => by
  rw [byF]
  by_cases e : (s.rules.getD i default).out_ = (s.rules.getD k default).out_
  ·rw [if_pos e, lX g hk (by omega) e]
  ·rw [if_neg e]
   have : k ≠ i := fun q => e (by rw [q])
   exact zU g hk i (by omega) (by omega)
def byT (s : af) (i : Nat) : List Int := ce s.vars.length (fun v => byF s (v : Int) i)
theorem BS (s : af) (hn : s.vars.length ≤ 100000) : aT (fun (x : List Int × Int) => df s x.1 x.2) (List.replicate s.vars.length 0, 0) = some (byT s 0) := by
 have := b9 (S := List Int × Int) (T := List Int) (fun i => (ce s.vars.length (fun u => if u < i then -1 else 0), (i : Int))) (body := fun x => df s x.1 x.2) s.vars.length (byT s 0)
  (by
   intro i hi
   show df s (ce s.vars.length (fun u => if u < i then -1 else 0)) (i : Int) = _
   unfold df
   rw [if_pos (ltI hi), il, if_pos (inI hi), wrs i (by omega), Int.toNat_natCast, lU]
   congr 3
   apply cA
   intro v hv
   by_cases h : v = i
   ·subst h; simp
   ·rw [if_neg h]
    by_cases h2 : v < i
    ·rw [if_pos h2, if_pos (by omega)]
    ·rw [if_neg h2, if_neg (by omega)])
  (by
   show df s (ce s.vars.length (fun u => if u < s.vars.length then -1 else 0)) (s.vars.length : Int) = _
   unfold df
   rw [if_neg (aX _)]
   congr 2
   apply cA
   intro v hv
   rw [if_pos hv]
   rfl)
 rw [show ((0 : Nat) : Int) = 0 from rfl] at this
 have e : ce s.vars.length (fun u => if u < 0 then (-1 : Int) else 0) = List.replicate s.vars.length 0 := by
  rw [tE]
  apply cA
  intro v _
  rw [if_neg (by omega)]
 rw [e] at this
 exact this
theorem CH {s : af} (g : co s) : aT (fun (x : List Int × Int) => de s x.1 x.2) (byT s 0, 0) = some (byT s s.rules.length) := by
 have hn := g.h.nr
 have := b9 (S := List Int × Int) (T := List Int) (fun i => (byT s i, (i : Int))) (body := fun x => de s x.1 x.2) s.rules.length (byT s s.rules.length)
  (by
   intro i hi
   show de s (byT s i) (i : Int) = _
   have go := (g.rule hi).1.o
   have go' := go
   unfold inV at go'
   unfold de
   rw [if_pos (ltI hi), if_pos (inI hi), Int.toNat_natCast]
   have hl : (byT s i).length = s.vars.length := il _ _
   rw [hl, if_pos go', wrs i (by omega)]
   unfold byT
   rw [lU]
   congr 3
   apply cA
   intro v hv
   rw [byF]
   by_cases h : v = (s.rules.getD i default).out_.toNat
   ·rw [if_pos h, if_pos (by omega)]
   ·rw [if_neg h, if_neg (by omega)])
  (by
   show de s (byT s s.rules.length) (s.rules.length : Int) = _
   unfold de
   rw [if_neg (aX _)])
 exact this
theorem wD {s : af} {l l' : List Int} (h : ∀ x, x ∈ l ↔ x ∈ l') : bg s l = bg s l' := by
 unfold bg
 apply List.map_congr_left
 intro v _
 rw [decide_eq_decide]
 exact h _
theorem A5 {s : af} (g : co s) (y : List ak × List Int × List Int × List ae × List Bool) : ∀ (k i : Nat) (L : List Int) (b : Bool), i + k = s.rules.length → (∀ x ∈ s.in_, x ∈ L) → (∀ x ∈ L, x ∈ ee s (aU s)) →
  ∃ L' b', aT (fun (x : List Bool × Bool × Int) => bG s y x.1 x.2.1 x.2.2) (bg s L, b, (i : Int)) = some (bg s L', b') ∧ (∀ x ∈ L, x ∈ L') ∧ (∀ x ∈ L', x ∈ ee s (aU s)) ∧
   (b' = false → b = false ∧ L' = L ∧ ∀ j, i ≤ j → j < s.rules.length → (s.rules.getD j default).out_ ∈ L ∨ ¬ kX L (s.rules.getD j default)) ∧
   (b' = true → b = true ∨ ∃ j, j < s.rules.length ∧ (s.rules.getD j default).out_ ∈ L' ∧ ¬ (s.rules.getD j default).out_ ∈ L) := by
 intro k
 induction k with
 | zero =>
  intro i L b hi h1 h2
  have : i = s.rules.length := by omega
  subst this
  refine ⟨L, b, d6 (by
   show bG s y (bg s L) b (s.rules.length : Int) = _
   unfold bG
   rw [if_neg (aX _)]), fun x hx => hx, h2, fun hb => ⟨hb, rfl, fun j hj hj2 => by omega⟩, fun hb => .inl hb⟩
 | succ k ih =>
  intro i L b hi h1 h2
  have hi2 : i < s.rules.length := by omega
  have hn := g.h.nr
  obtain ⟨gr, hu, ha, _⟩ := g.rule hi2
  have he := gr.e
  have go := gr.o
  have go' := go
  unfold inV at go'
  by_cases hm : (s.rules.getD i default).out_ ∈ L
  ·have hb : bG s y (bg s L) b (i : Int) = some (.inl (bg s L, b, ((i + 1 : Nat) : Int))) := by
    unfold bG
    rw [if_pos (ltI hi2), if_pos (inI hi2), Int.toNat_natCast, dX, if_pos go', if_pos ((jl go).2 hm), wrs i (by omega)]
   obtain ⟨L', b', e, g1, g2, g3, g4⟩ := ih (i + 1) L b (by omega) h1 h2
   refine ⟨L', b', (eQ (body := fun (x : List Bool × Bool × Int) => bG s y x.1 x.2.1 x.2.2) (s := (bg s L, b, (i : Int))) hb).trans e, g1, g2, fun hb => ?_, g4⟩
   obtain ⟨q1, q2, q3⟩ := g3 hb
   refine ⟨q1, q2, fun j hj hj2 => ?_⟩
   by_cases hj3 : j = i
   ·subst hj3; exact .inl hm
   ·exact q3 j (by omega) hj2
  ·have hmb : ¬ (bg s L).getD (s.rules.getD i default).out_.toNat default = true := fun h => hm ((jl go).1 h)
   by_cases hc : kX L (s.rules.getD i default)
   ·have hb : bG s y (bg s L) b (i : Int) = some (.inl (bg s (L ++ [(s.rules.getD i default).out_]), true, ((i + 1 : Nat) : Int))) := by
     unfold bG
     rw [if_pos (ltI hi2), if_pos (inI hi2), Int.toNat_natCast, dX, if_pos go', if_neg hmb, rm (fun x hx => hu x (iY hx)) (by omega) (by omega)]
     simp only [Option.bind_some]
     rw [if_pos (decide_eq_true hc), wrs i (by omega), mC go]
    have hin : (s.rules.getD i default).out_ ∈ ee s (aU s) := by
     refine km.2 (.inr ⟨i, Classical.byContradiction fun hcn => ?_, rfl⟩)
     obtain ⟨x, hx, hxn⟩ := A4 hi2 hcn
     exact hxn (h2 x (hc x hx))
    obtain ⟨L', b', e, g1, g2, g3, g4⟩ := ih (i + 1) (L ++ [(s.rules.getD i default).out_]) true (by omega) (fun x hx => List.mem_append.2 (.inl (h1 x hx))) (fun x hx => by
     rcases List.mem_append.1 hx with hx | hx
     ·exact h2 x hx
     ·simp only [List.mem_singleton] at hx; subst hx; exact hin)
    refine ⟨L', b', (eQ (body := fun (x : List Bool × Bool × Int) => bG s y x.1 x.2.1 x.2.2) (s := (bg s L, b, (i : Int))) hb).trans e, fun x hx => g1 x (List.mem_append.2 (.inl hx)), g2, fun hb => ?_, fun _ => .inr ⟨i, hi2, g1 _ (List.mem_append.2 (.inr (by simp))), hm⟩⟩
    exact absurd (g3 hb).1 (by decide)
   ·have hb : bG s y (bg s L) b (i : Int) = some (.inl (bg s L, b, ((i + 1 : Nat) : Int))) := by
     unfold bG
     rw [if_pos (ltI hi2), if_pos (inI hi2), Int.toNat_natCast, dX, if_pos go', if_neg hmb, rm (fun x hx => hu x (iY hx)) (by omega) (by omega)]
     simp only [Option.bind_some]
     rw [decide_eq_false hc, if_neg (by decide), wrs i (by omega)]
    obtain ⟨L', b', e, g1, g2, g3, g4⟩ := ih (i + 1) L b (by omega) h1 h2
    refine ⟨L', b', (eQ (body := fun (x : List Bool × Bool × Int) => bG s y x.1 x.2.1 x.2.2) (s := (bg s L, b, (i : Int))) hb).trans e, g1, g2, fun hb => ?_, g4⟩
    obtain ⟨q1, q2, q3⟩ := g3 hb
    refine ⟨q1, q2, fun j hj hj2 => ?_⟩
    by_cases hj3 : j = i
    ·subst hj3; exact .inr hc
    ·exact q3 j (by omega) hj2
def t6 (s : af) (L : List Int) : List Nat := (List.range s.rules.length).filter (fun k => !L.contains (s.rules.getD k default).out_)
theorem p9 {s : af} {L : List Int} {k : Nat} : k ∈ t6 s L ↔ k < s.rules.length ∧ ¬ (s.rules.getD k default).out_ ∈ L := by
 unfold t6
 rw [List.mem_filter, List.mem_range]
 simp
theorem wE {s : af} {L L' : List Int} {j : Nat} (h : ∀ x ∈ L, x ∈ L') (hj : j < s.rules.length) (h1 : (s.rules.getD j default).out_ ∈ L') (h2 : ¬ (s.rules.getD j default).out_ ∈ L) : (t6 s L').length < (t6 s L).length := by
 have := p8 (l := j :: t6 s L') (m := t6 s L) (List.nodup_cons.2 ⟨fun hc => (p9.1 hc).2 h1, List.nodup_range.filter _⟩) (fun x hx => by
  rcases List.mem_cons.1 hx with rfl | hx
  ·exact p9.2 ⟨hj, h2⟩
  ·obtain ⟨g1, g2⟩ := p9.1 hx
   exact p9.2 ⟨g1, fun hc => g2 (h _ hc)⟩)
 simp only [List.length_cons] at this
 omega
theorem zV {s : af} (g : co s) {L : List Int} (h1 : ∀ x ∈ s.in_, x ∈ L) (h2 : ∀ x ∈ L, x ∈ ee s (aU s)) (h3 : ∀ j, j < s.rules.length → (s.rules.getD j default).out_ ∈ L ∨ ¬ kX L (s.rules.getD j default)) : bg s L = bg s (ee s (aU s)) := by
 have key : ∀ k, k ≤ (aU s).length → ∀ x ∈ ee s ((aU s).take k), x ∈ L := by
  intro k
  induction k with
  | zero =>
   intro _ x hx
   rw [List.take_zero, wz] at hx
   exact h1 x hx
  | succ k ih =>
   intro hk x hx
   rw [bD _ (by omega), wy] at hx
   rcases List.mem_append.1 hx with hx | hx
   ·exact ih (by omega) x hx
   ·simp only [List.mem_singleton] at hx
    subst hx
    obtain ⟨q1, _, q3⟩ := oJ (rv (s := s) (k := k) (by omega))
    rcases h3 _ q1 with h | h
    ·exact h
    ·unfold pI at q3
     exact absurd (u7 (of_decide_eq_true q3) (ih (by omega))) h
 apply wD
 intro x
 constructor
 ·exact h2 x
 ·intro hx
  have := key (aU s).length (Nat.le_refl _)
  rw [List.take_length] at this
  exact this x hx
theorem zW {s : af} (g : co s) (y : List ak × List Int × List Int × List ae × List Bool) : ∀ (m : Nat) (L : List Int), (t6 s L).length ≤ m → (∀ x ∈ s.in_, x ∈ L) → (∀ x ∈ L, x ∈ ee s (aU s)) →
  aT (fun (x : List Bool × Bool) => bN s y x.1 x.2) (bg s L, true) = some (bg s (ee s (aU s))) := by
 intro m
 induction m with
 | zero =>
  intro L hm h1 h2
  obtain ⟨L', b', e, g1, g2, g3, g4⟩ := A5 g y s.rules.length 0 L false (by omega) h1 h2
  rw [show ((0 : Nat) : Int) = 0 from rfl] at e
  have hb : bN s y (bg s L) true = some (.inl (bg s L', b')) := by
   unfold bN
   rw [if_pos rfl]
   show (aT (fun (x : List Bool × Bool × Int) => bG s y x.1 x.2.1 x.2.2) (bg s L, false, 0)).bind _ = _
   rw [e]; rfl
  cases b' with
  | false =>
   obtain ⟨_, q2, q3⟩ := g3 rfl
   subst q2
   refine (eQ (body := fun (x : List Bool × Bool) => bN s y x.1 x.2) (s := (bg s L', true)) hb).trans (d6 ?_)
   show bN s y (bg s L') false = _
   unfold bN
   rw [if_neg (by decide), zV g h1 h2 (fun j hj => q3 j (by omega) hj)]
  | true =>
   rcases g4 rfl with h | ⟨j, hj, q1, q2⟩
   ·cases h
   ·have := wE g1 hj q1 q2
    omega
 | succ m ih =>
  intro L hm h1 h2
  obtain ⟨L', b', e, g1, g2, g3, g4⟩ := A5 g y s.rules.length 0 L false (by omega) h1 h2
  rw [show ((0 : Nat) : Int) = 0 from rfl] at e
  have hb : bN s y (bg s L) true = some (.inl (bg s L', b')) := by
   unfold bN
   rw [if_pos rfl]
   show (aT (fun (x : List Bool × Bool × Int) => bG s y x.1 x.2.1 x.2.2) (bg s L, false, 0)).bind _ = _
   rw [e]; rfl
  cases b' with
  | false =>
   obtain ⟨_, q2, q3⟩ := g3 rfl
   subst q2
   refine (eQ (body := fun (x : List Bool × Bool) => bN s y x.1 x.2) (s := (bg s L', true)) hb).trans (d6 ?_)
   show bN s y (bg s L') false = _
   unfold bN
   rw [if_neg (by decide), zV g h1 h2 (fun j hj => q3 j (by omega) hj)]
  | true =>
   rcases g4 rfl with h | ⟨j, hj, q1, q2⟩
   ·cases h
   ·have := wE g1 hj q1 q2
    refine (eQ (body := fun (x : List Bool × Bool) => bN s y x.1 x.2) (s := (bg s L, true)) hb).trans ?_
    exact ih L' (by omega) (fun x hx => g1 x (h1 x hx)) g2
theorem zX {s : af} (g : co s) {i : Nat} (hi : i < s.rules.length) (hn : ¬ i ∈ aU s) {a : List ak} {b c : List Int} {d : List ae} :
  ∃ j, j < (aM (s.rules.getD i default)).length ∧ (aM (s.rules.getD i default)).getD j default = m4 s i ∧ cQ (aM (s.rules.getD i default)) a b c d (bg s (ee s (aU s))) = some (j : Int) := by
 obtain ⟨j, hj, e, h1, h2⟩ := np hi hn
 refine ⟨j, hj, e, ?_⟩
 obtain ⟨gr, hu, ha, _⟩ := g.rule hi
 have he := gr.e
 have hnl := eX (s.rules.getD i default)
 unfold cQ
 rw [br (aM (s.rules.getD i default)).length (fun k => if (aM (s.rules.getD i default)).getD k default ∈ ee s (aU s) then none else some (k : Int)) () (fun k hk => by
  have gk := xZ g hi _ (bi hk)
  have gk' := gk
  unfold inV at gk'
  unfold ct lH
  rw [if_pos (ltI hk), if_pos (inI hk), wrs k (by omega)]
  simp only [Int.toNat_natCast]
  rw [dX, if_pos gk']
  simp only [Option.bind_some]
  by_cases hc : (aM (s.rules.getD i default)).getD k default ∈ ee s (aU s)
  ·rw [(jl gk).2 hc, if_pos hc]; rfl
  ·have : (bg s (ee s (aU s))).getD ((aM (s.rules.getD i default)).getD k default).toNat default = false := by
    cases hh : (bg s (ee s (aU s))).getD ((aM (s.rules.getD i default)).getD k default).toNat default
    ·rfl
    ·exact absurd ((jl gk).1 hh) hc
   rw [this, if_neg hc]; rfl) (by unfold ct; rw [if_neg (aX _)])]
 rw [xY hj (fun k hk => by rw [if_pos (h2 k hk)]) (by rw [if_neg (e ▸ h1)])]
 rfl
def a0S (s : af) : Nat := (bV s.rules.length (aU s)).getD 0 default
def nD (s : af) : List Nat × Nat := pH (nxS s) (s.rules.length + 1) [] (a0S s)
def ef (s : af) : List Nat := (nD s).1.drop (jM (nD s).1 (nD s).2)
def jN (s : af) : List Int := if (aU s).length = s.rules.length then [] else dI (ef s)
theorem xv {s : af} (g : co s) : ∀ i, i < s.rules.length → ¬ i ∈ aU s → nxS s i < s.rules.length ∧ ¬ nxS s i ∈ aU s := fun i hi hn => ⟨(pJ g hi hn).1, (pJ g hi hn).2.1⟩
theorem vK {s : af} (hK : ¬ (aU s).length = s.rules.length) : a0S s < s.rules.length ∧ ¬ a0S s ∈ aU s ∧ ∀ i, i < a0S s → i ∈ aU s := by
 have hle := nq s
 have hLl := sa (n := s.rules.length) (ku s) (fun i hi => lb hi)
 exact sB (by omega)
theorem AU {s : af} (g : co s) (hK : ¬ (aU s).length = s.rules.length) (y : List ak × List Int × List Int × List ae × List Bool) :
  aT (fun (x : List Int × Int) => dd s y (bg s (ee s (aU s))) (byT s s.rules.length) x.1 x.2) ([], (a0S s : Int)) = some (dI (ef s), au.mk 0 0) := by
 have hn := g.h.nr
 obtain ⟨p1, p2, _⟩ := vK hK
 have := u5 (n := s.rules.length) (nx := nxS s) (p := fun i => ¬ i ∈ aU s) (xv g) (S := List Int × Int) (fun w a => (dI w, (a : Int))) (body := fun x => dd s y (bg s (ee s (aU s))) (byT s s.rules.length) x.1 x.2)
  (fun w a => (dI (w.drop (jM w a)), au.mk 0 0))
  (by
   intro w a hw hl ha hp hm
   show dd s y (bg s (ee s (aU s))) (byT s s.rules.length) (dI w) (a : Int) = _
   have hdl := i1 w
   obtain ⟨gr, hu, hal, _⟩ := g.rule ha
   have he := gr.e
   unfold dd
   rw [va (by omega), if_neg hm]
   simp only [Option.bind_some]
   rw [if_neg (by omega), if_pos (oT (by omega) (by omega)), if_pos (inI ha), Int.toNat_natCast, pA _ (by omega) (by omega)]
   simp only [Option.bind_some]
   obtain ⟨j, hj, ej, hz⟩ := zX g ha hp (a := y.1) (b := y.2.1) (c := y.2.2.1) (d := y.2.2.2.1)
   rw [hz]
   simp only [Option.bind_some]
   have gv := xZ g ha _ (bi hj)
   rw [ej] at gv
   have gv' := gv
   unfold inV at gv'
   have hbl : (byT s s.rules.length).length = s.vars.length := il _ _
   rw [Int.toNat_natCast, ej, hbl, if_pos ⟨inI hj, gv'⟩]
   obtain ⟨n1, n2, n3⟩ := pJ g ha hp
   have eb : (byT s s.rules.length).getD (m4 s a).toNat default = (nxS s a : Int) := by
    unfold byT
    rw [n7 (by omega), show (((m4 s a).toNat : Nat) : Int) = m4 s a from by omega, ← n3]
    exact zU g n1 _ n1 (Nat.le_refl _)
   rw [eb, xt]
   rfl)
  (by
   intro w a hw hl ha hp hm _
   show dd s y (bg s (ee s (aU s))) (byT s s.rules.length) (dI w) (a : Int) = _
   have hdl := i1 w
   obtain ⟨f1, _⟩ := mf hm
   unfold dd
   rw [va (by omega), if_pos hm]
   simp only [Option.bind_some]
   rw [if_pos (by omega), if_pos ⟨by omega, by omega⟩, Int.toNat_natCast]
   congr 4
   rw [List.take_of_length_le (by rw [List.length_drop]; omega)]
   unfold dI
   rw [List.map_drop])
  (s.rules.length + 1) [] (a0S s) List.nodup_nil (fun i hi => by cases hi) p1 p2 (by simp)
 exact this
theorem sg (s : af) : jL s = some (if (cD s).code = 0 then (jN s, au.mk 0 0) else ([], cD s)) := by
 unfold jL
 rw [pz]
 simp only [Option.bind_some]
 by_cases hc : (cD s).code = 0
 ·obtain ⟨g, _⟩ := fH hc
  have hn := g.h.nr
  have hnv := g.h.nv
  rw [if_neg (by simpa using hc), if_pos hc, rx, if_pos hc]
  simp only [Option.bind_some]
  unfold m5 jN
  by_cases hK : (aU s).length = s.rules.length
  ·simp only [if_pos hK]
   rw [if_pos trivial]
  ·simp only [if_neg hK]
   rw [if_neg (by decide), if_pos ⟨⟨by omega, by omega⟩, oT (by omega) (by omega)⟩]
   show (aT (fun (x : List Int × Int) => df s x.1 x.2) (List.replicate s.vars.length 0, 0)).bind _ = _
   rw [BS s (by omega)]
   simp only [Option.bind_some]
   unfold it
   rw [tK g]
   simp only [Option.bind_some]
   show (aT (fun (x : List Bool × Bool) => bN s (s.vars, s.in_, s.out_, s.rules, bg s s.in_) x.1 x.2) (bg s s.in_, true)).bind _ = _
   rw [zW g _ _ s.in_ (Nat.le_refl _) (fun x hx => hx) (fun x hx => km.2 (.inl hx))]
   simp only [Option.bind_some]
   unfold ir
   show (aT (fun (x : List Int × Int) => de s x.1 x.2) (byT s 0, 0)).bind _ = _
   rw [CH g]
   simp only [Option.bind_some]
   unfold iq
   show (aT (fun (x : List Int × Int) => dd s (s.vars, s.in_, s.out_, s.rules, bg s s.in_) (bg s (ee s (aU s))) (byT s s.rules.length) x.1 x.2) ([], (a0S s : Int))).bind _ = _
   rw [AU g hK]
   rfl
 ·rw [if_pos hc, if_neg hc]
end Pam

namespace Pam
open Go
theorem ns {l : List Nat} {i : Nat} : (dI l).contains (i : Int) = l.contains i := by
 rw [Bool.eq_iff_iff, List.contains_iff_mem, List.contains_iff_mem]
 exact tY
def pK (s : af) (x : Int) (c : Int) : Nat → Int
 | 0 => c
 | i + 1 => if (s.rules.getD i default).out_ = x ∧ ¬ i ∈ aU s then (i : Int) else pK s x c i
theorem t7 {s : af} {x c : Int} : ∀ {i : Nat}, (∀ k, k < i → (s.rules.getD k default).out_ = x → k ∈ aU s) → pK s x c i = c
 | 0, _ => rfl
 | i + 1, h => by
  rw [pK, if_neg (fun hc => hc.2 (h i (by omega) hc.1))]
  exact t7 (fun k hk => h k (by omega))
theorem wF {s : af} (g : co s) {c : Int} {k : Nat} (hk : k < s.rules.length) (hn : ¬ k ∈ aU s) : ∀ i, k < i → i ≤ s.rules.length → pK s (s.rules.getD k default).out_ c i = (k : Int)
 | 0, h, _ => by omega
 | i + 1, h, hi => by
  rw [pK]
  by_cases e : (s.rules.getD i default).out_ = (s.rules.getD k default).out_ ∧ ¬ i ∈ aU s
  ·rw [if_pos e, lX g hk (by omega) e.1]
  ·rw [if_neg e]
   have : k ≠ i := fun q => e ⟨by rw [q], q ▸ hn⟩
   exact wF g hk hn i (by omega) (by omega)
theorem zY {s : af} (g : co s) {n : List Int} {j : Nat} (hj : j < n.length) (c : Int) :
  aT (fun (x : Int × Int) => eE s (dI (aU s)) n (j : Int) x.1 x.2) (c, 0) = some (pK s (n.getD j default) c s.rules.length) := by
 have hn := g.h.nr
 have hle := nq s
 have hdl := i1 (aU s)
 have := b9 (S := Int × Int) (T := Int) (fun i => (pK s (n.getD j default) c i, (i : Int))) (body := fun x => eE s (dI (aU s)) n (j : Int) x.1 x.2) s.rules.length (pK s (n.getD j default) c s.rules.length)
  (by
   intro i hi
   show eE s (dI (aU s)) n (j : Int) (pK s (n.getD j default) c i) (i : Int) = _
   unfold eE
   rw [if_pos (ltI hi), if_pos ⟨inI hi, inI hj⟩, Int.toNat_natCast, Int.toNat_natCast, wrs i (by omega), pK]
   by_cases h : (s.rules.getD i default).out_ = n.getD j default
   ·rw [if_pos h, d3 _ _ (by omega), ns]
    simp only [Option.bind_some]
    by_cases hm : i ∈ aU s
    ·rw [if_pos (List.contains_iff_mem.2 hm), if_neg (fun q => q.2 hm)]
    ·rw [if_neg (fun q => hm (List.contains_iff_mem.1 q)), if_pos ⟨h, hm⟩]
   ·rw [if_neg h, if_neg (fun q => h q.1)])
  (by
   show eE s (dI (aU s)) n (j : Int) (pK s (n.getD j default) c s.rules.length) (s.rules.length : Int) = _
   unfold eE
   rw [if_neg (aX _)])
 rw [show ((0 : Nat) : Int) = 0 from rfl] at this
 exact this
theorem zZ {s : af} (g : co s) {i : Nat} (hi : i < s.rules.length) (hn : ¬ i ∈ aU s) :
  aT (fun (x : Int × Int) => eF s (dI (aU s)) (aM (s.rules.getD i default)) x.1 x.2) (-1, 0) = some (nxS s i : Int) := by
 obtain ⟨j, hj, e, h1, h2⟩ := np hi hn
 obtain ⟨n1, n2, n3⟩ := pJ g hi hn
 obtain ⟨gr, hu, ha, _⟩ := g.rule hi
 have he := gr.e
 have hnl := eX (s.rules.getD i default)
 have := b9 (S := Int × Int) (T := Int) (fun k => (if j < k then (nxS s i : Int) else -1, (k : Int))) (body := fun x => eF s (dI (aU s)) (aM (s.rules.getD i default)) x.1 x.2) (j + 1) (nxS s i : Int)
  (by
   intro k hk
   show eF s (dI (aU s)) (aM (s.rules.getD i default)) (if j < k then (nxS s i : Int) else -1) (k : Int) = _
   rw [if_neg (by omega)]
   unfold eF
   rw [if_pos (ltI (show k < (aM (s.rules.getD i default)).length from by omega)), if_pos (by omega)]
   show (aT (fun (x : Int × Int) => eE s (dI (aU s)) (aM (s.rules.getD i default)) (k : Int) x.1 x.2) (-1, 0)).bind _ = _
   rw [zY g (show k < (aM (s.rules.getD i default)).length from by omega)]
   simp only [Option.bind_some]
   unfold j8
   rw [wrs k (by omega)]
   by_cases hkj : k = j
   ·subst hkj
    rw [if_pos (by omega), e, ← n3, wF g n1 n2 _ n1 (Nat.le_refl _)]
   ·rw [if_neg (by omega), t7]
    intro q hq eq
    have hm := h2 k (by omega)
    rcases km.1 hm with hm | ⟨q2, hq2, e2⟩
    ·exact absurd (eq ▸ hm) (u6 g hq)
    ·rw [← lX g hq (lb hq2) (e2.trans eq.symm)]
     exact hq2)
  (by
   show eF s (dI (aU s)) (aM (s.rules.getD i default)) (if j < j + 1 then (nxS s i : Int) else -1) ((j + 1 : Nat) : Int) = _
   rw [if_pos (by omega)]
   unfold eF
   by_cases hk : j + 1 < (aM (s.rules.getD i default)).length
   ·rw [if_pos (ltI hk), if_neg (by omega)]
   ·rw [if_neg (by omega)])
 rw [show ((0 : Nat) : Int) = 0 from rfl, if_neg (by omega)] at this
 exact this
theorem xw {s : af} (g : co s) (hK : ¬ (aU s).length = s.rules.length) :
  aT (fun (x : List Int × Int) => eG s (dI (aU s)) x.1 x.2) ([], (a0S s : Int)) = some (dI (nD s).1, ((nD s).2 : Int)) := by
 have hn := g.h.nr
 obtain ⟨p1, p2, _⟩ := vK hK
 exact u5 (n := s.rules.length) (nx := nxS s) (p := fun i => ¬ i ∈ aU s) (xv g) (S := List Int × Int) (fun w a => (dI w, (a : Int))) (body := fun x => eG s (dI (aU s)) x.1 x.2)
  (fun w a => (dI w, (a : Int)))
  (by
   intro w a hw hl ha hp hm
   show eG s (dI (aU s)) (dI w) (a : Int) = _
   have hdl := i1 w
   obtain ⟨gr, hu, hal, _⟩ := g.rule ha
   have he := gr.e
   unfold eG
   rw [sf _ _ (by omega), ns]
   simp only [Option.bind_some]
   rw [if_neg (fun q => hm (List.contains_iff_mem.1 q)), if_pos (oT (by omega) (by omega)), if_pos (inI ha), Int.toNat_natCast, jJ _ (by omega) (by omega)]
   simp only [Option.bind_some]
   show (aT (fun (x : Int × Int) => eF s (dI (aU s)) (aM (s.rules.getD a default)) x.1 x.2) (-1, 0)).bind _ = _
   rw [zZ g ha hp]
   simp only [Option.bind_some]
   unfold iZ
   rw [xt]
   rfl)
  (by
   intro w a hw hl ha hp hm _
   show eG s (dI (aU s)) (dI w) (a : Int) = _
   have hdl := i1 w
   unfold eG
   rw [sf _ _ (by omega), ns]
   simp only [Option.bind_some]
   rw [if_pos (List.contains_iff_mem.2 hm)])
  (s.rules.length + 1) [] (a0S s) List.nodup_nil (fun i hi => by cases hi) p1 p2 (by simp)
theorem pL {s : af} (g : co s) (hK : ¬ (aU s).length = s.rules.length) : (nD s).2 ∈ (nD s).1 ∧ (nD s).1.Nodup ∧ (∀ i ∈ (nD s).1, i < s.rules.length ∧ ¬ i ∈ aU s) := by
 obtain ⟨p1, p2, _⟩ := vK hK
 exact zM (n := s.rules.length) (nx := nxS s) (p := fun i => ¬ i ∈ aU s) (xv g) (s.rules.length + 1) [] (a0S s) List.nodup_nil (fun i hi => by cases hi) p1 p2 (by simp)
theorem x6 (w : List Nat) (k : Nat) : dI (w.drop k) = (dI w).drop k := by unfold dI; rw [List.map_drop]
theorem z1 {w : List Nat} {a : Nat} (h : a ∈ w) : aT (fun (x : List Int) => fd (a : Int) x) (dI w) = some (dI (w.drop (jM w a))) := by
 obtain ⟨f1, f2, f3, _⟩ := mf h
 have hg : ∀ k, k < w.length → (dI (w.drop k)).getD 0 default = ((w.getD k default : Nat) : Int) := fun k hk => by
  rw [nC (by rw [List.length_drop]; omega)]
  simp [List.getD]
 have := b9 (S := List Int) (T := List Int) (fun k => dI (w.drop k)) (body := fun x => fd (a : Int) x) (jM w a) (dI (w.drop (jM w a)))
  (by
   intro k hk
   show fd (a : Int) (dI (w.drop k)) = _
   have hdl := i1 (w.drop k)
   rw [List.length_drop] at hdl
   unfold fd
   rw [if_pos ⟨by omega, by omega⟩, hg k (by omega), if_pos (by have := f3 k hk; omega), if_pos ⟨by omega, by omega⟩, x6, List.drop_drop, ← x6])
  (by
   show fd (a : Int) (dI (w.drop (jM w a))) = _
   have hdl := i1 (w.drop (jM w a))
   rw [List.length_drop] at hdl
   unfold fd
   rw [if_pos ⟨by omega, by omega⟩, hg _ f1, f2, if_neg (by omega)])
 simpa using this
theorem wG {s : af} (g : co s) : n9 s = some (jN s) := by
 have hn := g.h.nr
 have hle := nq s
 have hdl := i1 (aU s)
 unfold n9
 rw [wB g]
 simp only [Option.bind_some]
 have hl5 := sc (S := Int) (fun i => (i : Int)) (body := fun x => gP s (dI (aU s)) x) s.rules.length (fun i => !(aU s).contains i) (fun i => (i : Int)) (s.rules.length : Int)
  (by
   intro i hi
   show gP s (dI (aU s)) (i : Int) = _
   unfold gP
   rw [if_pos (ltI hi), d3 _ _ (by omega), ns, wrs i (by omega)]
   simp only [Option.bind_some]
   cases (aU s).contains i <;> rfl)
  (by
   show gP s (dI (aU s)) (s.rules.length : Int) = _
   unfold gP
   rw [if_neg (aX _)])
 rw [show ((0 : Nat) : Int) = 0 from rfl] at hl5
 rw [hl5]
 simp only [Option.bind_some]
 unfold jN
 by_cases hK : (aU s).length = s.rules.length
 ·have hf := oI (ku s) (fun i hi => lb hi) hK
  have : (List.range s.rules.length).find? (fun i => !(aU s).contains i) = none := by
   rw [List.find?_eq_none]
   intro x hx
   rw [List.contains_iff_mem.2 (hf x (List.mem_range.1 hx))]
   decide
  rw [this, if_pos hK]
  unfold fe
  rw [if_pos rfl]
 ·obtain ⟨p1, p2, p3⟩ := vK hK
  have : (List.range s.rules.length).find? (fun i => !(aU s).contains i) = some (a0S s) := by
   rw [List.find?_range_eq_some]
   refine ⟨?_, List.mem_range.2 p1, fun j hj => ?_⟩
   ·cases hq : (aU s).contains (a0S s)
    ·rfl
    ·exact absurd (List.contains_iff_mem.1 hq) p2
   ·rw [List.contains_iff_mem.2 (p3 j hj)]
    rfl
  rw [this, if_neg hK]
  show fe s (dI (aU s)) (a0S s : Int) = _
  unfold fe
  rw [if_neg (by omega)]
  show (aT (fun (x : List Int × Int) => eG s (dI (aU s)) x.1 x.2) ([], (a0S s : Int))).bind _ = _
  rw [xw g hK]
  simp only [Option.bind_some]
  unfold j7
  rw [z1 (pL g hK).1]
  rfl
theorem t8 {s : af} (g : co s) (hK : ¬ (aU s).length = s.rules.length) : 0 < (ef s).length := by
 have h := (mf (pL g hK).1).1
 unfold ef
 rw [List.length_drop]
 omega
theorem sh {s : af} (g : co s) (hK : ¬ (aU s).length = s.rules.length) {i : Nat} (hi : i ∈ ef s) : i < s.rules.length ∧ ¬ i ∈ aU s :=
 (pL g hK).2.2 i (List.mem_of_mem_drop hi)
theorem wH {s : af} (g : co s) (hK : ¬ (aU s).length = s.rules.length) {i : Nat} (hi : i < (ef s).length) :
  nxS s ((ef s).getD i default) = if i + 1 < (ef s).length then (ef s).getD (i + 1) default else (ef s).getD 0 default := by
 obtain ⟨f1, f2, f3, _⟩ := mf (pL g hK).1
 have hc := xr (nx := nxS s) (s.rules.length + 1) [] (a0S s) (fun i hi => by simp at hi) (fun i hi => by simp at hi)
 have hg : ∀ k, (ef s).getD k default = (nD s).1.getD (jM (nD s).1 (nD s).2 + k) default := fun k => by
  unfold ef
  simp [List.getD]
 have hl : (ef s).length = (nD s).1.length - jM (nD s).1 (nD s).2 := by unfold ef; rw [List.length_drop]
 rw [hg, hg, hg]
 by_cases h : i + 1 < (ef s).length
 ·rw [if_pos h]
  exact hc.1 _ (show jM (nD s).1 (nD s).2 + i + 1 < (nD s).1.length from by omega)
 ·rw [if_neg h, Nat.add_zero, f2]
  exact hc.2 _ (show jM (nD s).1 (nD s).2 + i + 1 = (nD s).1.length from by omega)
end Pam

namespace Pam
open Go
theorem ua {s : af} (h0 : (lT s).code = 0) (hr : ∀ i, i < s.rules.length → jc s (bz s i) (s.rules.getD i default) = 0)
  (hu : ∀ i, i < s.rules.length → ∀ x ∈ cG (s.rules.getD i default), x ∈ bz s s.rules.length) (ho : ∀ x ∈ s.out_, x ∈ bz s s.rules.length) : cD s = au.mk 0 0 := by
 unfold cD
 simp only [h0, not_true_eq_false, if_false]
 rw [cS (fun i hi => by unfold jI; simp only [if_pos (hr i hi)])]
 simp only
 rw [cS (fun i hi => by unfold lg; rw [if_neg (fun ⟨x, h1, h2⟩ => h2 (hu i hi x h1))])]
 simp only
 rw [cS (fun i hi => by unfold qG; rw [if_pos (ho _ (bi hi))])]
theorem yJ (v : List ak) (i o : List Int) (R R' : List ae) (r : ae) : aE (af.mk v i o R) r = aE (af.mk v i o R') r := rfl
def qr (s : af) (l : List Nat) : af := af.mk s.vars s.in_ s.out_ (l.map (fun k => s.rules.getD k default))
theorem si (s : af) (l : List Nat) : (qr s l).rules.length = l.length := by unfold qr; simp
theorem sj (s : af) {l : List Nat} {i : Nat} (h : i < l.length) : (qr s l).rules.getD i default = s.rules.getD (l.getD i default) default := by
 unfold qr; simp [List.getD, h]
theorem oK (s : af) (l : List Nat) (i : Nat) : bz (qr s l) i = ee s (l.take i) := by
 unfold bz ee qr
 simp only [← List.map_take, List.map_map]
 rfl
theorem ub (s : af) (l : List Nat) (r : ae) : aE (qr s l) r = aE s r := yJ _ _ _ _ _ _
theorem xx {s : af} {l : List Nat} (h : l.length = s.rules.length) : lT (qr s l) = lT s := by
 have e := si s l
 unfold lT
 rw [e, h]
 rfl
theorem wI {l : List Nat} {n : Nat} (hn : l.Nodup) (hl : ∀ k ∈ l, k < n) (hlen : l.length = n) (s : af) (h : n = s.rules.length) (x : Int) : x ∈ bz s s.rules.length → x ∈ ee s l := by
 intro hx
 rcases (kk s x (Nat.le_refl _)).1 hx with h1 | ⟨k, hk, h1⟩
 ·exact km.2 (.inl h1)
 ·exact km.2 (.inr ⟨k, oI hn hl hlen k (by omega), h1⟩)
theorem xy {s : af} (hc : (cD s).code = 0) {l : List Nat} (hn : l.Nodup) (hl : ∀ k ∈ l, k < s.rules.length) (hlen : l.length = s.rules.length) : cD (qr s l) = au.mk 0 0 := by
 obtain ⟨g, _⟩ := fH hc
 have hh : (lT s).code = 0 := by
  refine Classical.byContradiction fun h0 => ?_
  unfold cD at hc
  rw [if_pos h0] at hc
  exact h0 hc
 have hlen' := si s l
 refine ua (by rw [xx hlen]; exact hh) (fun i hi => ?_) (fun i hi x hx => ?_) (fun x hx => ?_)
 ·have hi' : i < l.length := by omega
  have hk := hl _ (bi hi')
  have h1 := g.r _ hk
  rw [oK, sj s hi']
  have c1 : (bz s (l.getD i default)).contains (s.rules.getD (l.getD i default) default).out_ = false := by
   cases hq : (bz s (l.getD i default)).contains (s.rules.getD (l.getD i default) default).out_
   ·rfl
   ·exact absurd (List.contains_iff_mem.1 hq) (lB g hk)
  have c2 : (ee s (l.take i)).contains (s.rules.getD (l.getD i default) default).out_ = false := by
   cases hq : (ee s (l.take i)).contains (s.rules.getD (l.getD i default) default).out_
   ·rfl
   ·rcases km.1 (List.contains_iff_mem.1 hq) with h | ⟨k, h2, h3⟩
    ·exact absurd h (u6 g hk)
    ·have e := lX g hk (hl k (List.mem_of_mem_take h2)) h3
     subst e
     obtain ⟨j, hj, e⟩ := List.mem_iff_getElem.1 h2
     rw [List.length_take] at hj
     rw [List.getElem_take] at e
     have := (List.getElem_inj hn).1 (e.trans (my hi'))
     omega
  unfold jc at h1 ⊢
  rw [c1] at h1
  rw [c2, ub]
  exact h1
 ·have hi' : i < l.length := by omega
  rw [sj s hi'] at hx
  rw [oK, hlen', List.take_length]
  exact wI hn hl hlen s rfl x (g.u _ (hl _ (bi hi')) x hx)
 ·rw [oK, hlen', List.take_length]
  exact wI hn hl hlen s rfl x (g.o x hx)
theorem uc (s : af) : iF s = qr s (aU s) := rfl
theorem ud {s : af} (hc : (cD s).code = 0) (hK : (aU s).length = s.rules.length) : cD (iF s) = au.mk 0 0 :=
 xy hc (ku s) (fun _ h => lb h) hK
theorem pM {s : af} : fP (iF s) := by
 intro i hi
 rw [uc, si] at hi
 rw [uc, oK, sj s hi]
 have := (oJ (rv hi)).2.2
 unfold pI at this
 exact of_decide_eq_true this
theorem sC {s : af} (hs : fP s) : aU s = List.range s.rules.length := by
 have key : ∀ k, k ≤ s.rules.length → i0 s.rules.length (pI s) k = List.range k := by
  intro k
  induction k with
  | zero => intro _; rfl
  | succ k ih =>
   intro hk
   have : iE s.rules.length (pI s) (List.range k) = some k := by
    unfold iE
    rw [List.find?_range_eq_some]
    refine ⟨?_, List.mem_range.2 (by omega), fun j hj => ?_⟩
    ·have h1 : (List.range k).contains k = false := by
      cases hq : (List.range k).contains k
      ·rfl
      ·exact absurd (List.mem_range.1 (List.contains_iff_mem.1 hq)) (by omega)
     have h2 : pI s (List.range k) k = true := by
      unfold pI
      refine decide_eq_true (u7 (hs k (by omega)) (fun x hx => ?_))
      rcases (kk s x (by omega)).1 hx with h | ⟨j, hj, h⟩
      ·exact km.2 (.inl h)
      ·exact km.2 (.inr ⟨j, List.mem_range.2 hj, h⟩)
     rw [h1, h2]; rfl
    ·rw [List.contains_iff_mem.2 (List.mem_range.2 hj)]; rfl
   rw [i0, ih (by omega), this, List.range_succ]
 exact key _ (Nat.le_refl _)
theorem ue {T : Type} [Inhabited T] (l : List T) : (List.range l.length).map (fun k => l.getD k default) = l := by
 apply List.ext_getElem
 ·simp
 ·intro i h1 h2
  simp [List.getD, h2]
theorem vL {s : af} (hs : fP s) : iF s = s := by
 unfold iF
 rw [sC hs, ue]
theorem xz {s : af} (hc : (cD s).code = 0) (hK : (aU s).length = s.rules.length) : fK (iF s) = some (iF s, au.mk 0 0) := by
 rw [rx, ud hc hK, if_pos rfl]
 unfold m5
 rw [vL pM, sC pM, List.length_range, if_pos rfl]
end Pam

namespace Pam
open Go
def sR3 : af := af.mk (lit ([(ak.mk 105 0), (ak.mk 105 0)] : List ak)) [] (lit ([0] : List Int)) (lit ([(ae.mk 2 0 0 0 (lit ([1] : List Int)) []), (ae.mk 3 13 1 0 (lit ([0] : List Int)) [])] : List ae))
def xA : af := af.mk ((lit ([(ak.mk 105 0), (ak.mk 105 0)] : List ak)) ++ (lit ([(ak.mk 105 0)] : List ak))) (lit ([2] : List Int)) (lit ([0] : List Int)) (lit ([(ae.mk 2 0 0 0 (lit ([1] : List Int)) []), (ae.mk 13 13 1 0 (lit ([2, 0] : List Int)) [])] : List ae))
theorem Db : pZ 3 = some sR3 := rfl
theorem CI : pZ 13 = some xA := rfl
theorem z2 : aE sR3 (ae.mk 2 0 0 0 (lit ([1] : List Int)) []) = some true := by
 rw [cw (by decide) (by decide) (by decide)]
 unfold aV
 rw [cC]
 simp only [Option.bind_some]
 rfl
theorem z6 : aE sR3 (ae.mk 3 13 1 0 (lit ([0] : List Int)) []) = some true := by
 rw [cw (by decide) (by decide) (by decide)]
 unfold aV
 rw [cC]
 simp only [Option.bind_some]
 rfl
theorem yK : aE xA (ae.mk 2 0 0 0 (lit ([1] : List Int)) []) = some true := by
 rw [cw (by decide) (by decide) (by decide)]
 unfold aV
 rw [cC]
 simp only [Option.bind_some]
 rfl
theorem yL : aE xA (ae.mk 13 13 1 0 (lit ([2, 0] : List Int)) []) = some true := by
 rw [cw (by decide) (by decide) (by decide)]
 unfold aV
 rw [cC]
 simp only [Option.bind_some]
 rfl
theorem ry {s : af} {mk : List Int} {r : ae} (h1 : inV s r.out_) (h2 : ¬ mk.contains r.out_ = true) (h3 : ¬ (cd r.op < 0 ∨ ¬ (r.a.length : Int) = cd r.op)) (h4 : ¬ (r.e.length : Int) > 24)
  (h5 : ¬ ∃ x ∈ cG r, ¬ inV s x) (h6 : aE s r = some true) : jc s mk r = 0 := by
 unfold jc
 rw [if_neg (not_not_intro h1), if_neg h2, if_neg h3, if_neg h4, if_neg h5, if_pos h6]
theorem yM : cD sR3 = au.mk 0 0 := by
 refine ua (by rfl) (fun i hi => ?_) (fun i hi => ?_) (by decide)
 ·have : i = 0 ∨ i = 1 := by have : sR3.rules.length = 2 := rfl; omega
  rcases this with rfl | rfl
  ·exact ry (r := ae.mk 2 0 0 0 (lit ([1] : List Int)) []) (by decide) (by decide) (by decide) (by decide) (by decide) z2
  ·exact ry (r := ae.mk 3 13 1 0 (lit ([0] : List Int)) []) (by decide) (by decide) (by decide) (by decide) (by decide) z6
 ·have : i = 0 ∨ i = 1 := by have : sR3.rules.length = 2 := rfl; omega
  rcases this with rfl | rfl <;> decide
theorem xB : cD xA = au.mk 0 0 := by
 refine ua (by rfl) (fun i hi => ?_) (fun i hi => ?_) (by decide)
 ·have : i = 0 ∨ i = 1 := by have : xA.rules.length = 2 := rfl; omega
  rcases this with rfl | rfl
  ·exact ry (r := ae.mk 2 0 0 0 (lit ([1] : List Int)) []) (by decide) (by decide) (by decide) (by decide) (by decide) yK
  ·exact ry (r := ae.mk 13 13 1 0 (lit ([2, 0] : List Int)) []) (by decide) (by decide) (by decide) (by decide) (by decide) yL
 ·have : i = 0 ∨ i = 1 := by have : xA.rules.length = 2 := rfl; omega
  rcases this with rfl | rfl <;> decide
theorem oU : iu = some true := by
 unfold iu
 rw [Db]
 simp only [Option.bind_some]
 rw [sg, yM, if_pos rfl, CI]
 simp only [Option.bind_some]
 rw [rx, xB, if_pos rfl]
 simp only [Option.bind_some]
 have h1 : jN sR3 = lit ([0, 1] : List Int) := by decide
 have h2 : aU xA = [1, 0] := by decide
 rw [h1]
 unfold m5 iF
 rw [h2]
 rw [if_pos trivial, if_pos (by decide), jm _ (by decide)]
 decide
theorem wJ {s : af} {m : Nat} (h : pB s m) (hm : m ≤ 100000) : c9 (m5 s).1 (m5 s).1 = some true := by
 unfold m5
 have hle := nq s
 have h2 := h.nr
 split
 ·refine gO (m := m) ⟨h.nv, ?_, h.ni, h.no, ?_⟩ hm
  ·show ((aU s).map (fun k => s.rules.getD k default)).length ≤ m
   rw [List.length_map]; omega
  ·intro r hr
   obtain ⟨k, hk, rfl⟩ := List.mem_map.1 hr
   exact h.r _ (bi (lb hk))
 ·exact gO (m := m) ⟨Nat.zero_le _, Nat.zero_le _, Nat.zero_le _, Nat.zero_le _, fun r hr => by cases hr⟩ hm
theorem uf {s : af} (g : co s) : (jN s).length ≤ s.rules.length := by
 unfold jN
 by_cases hK : (aU s).length = s.rules.length
 ·rw [if_pos hK]; exact Nat.zero_le _
 ·rw [if_neg hK, i1]
  obtain ⟨_, h1, h2⟩ := pL g hK
  have := me h1 (fun i hi => (h2 i hi).1)
  unfold ef
  rw [List.length_drop]
  omega
theorem qJ (s : af) (_ : s.ok) (_ : s.sz ≤ 1048576) : lI s = some true := by
 unfold lI
 rw [oU]
 simp only [Option.bind_some, if_true]
 obtain ⟨b, hb, hf⟩ := rp s 150 (by omega)
 rw [show ((150 : Nat) : Int) = 150 from rfl] at hb
 rw [hb]
 cases b
 ·have hng := hf rfl
  simp only [Option.bind_some, Bool.false_eq_true, if_false]
  rw [xW hng (by omega)]
  simp only [Option.bind_some]
  rw [rx, xu, sg, nm]
  simp only [Option.bind_some]
  by_cases hc : (cD s).code = 0
  ·obtain ⟨g, hz⟩ := fH hc
   have hnr := hng.nr
   simp only [hc, if_true, and_self]
   rw [wJ hng (by omega)]
   simp only [Option.bind_some, if_true]
   rw [hz, if_pos ⟨trivial, rfl⟩, gO hng (by omega)]
   simp only [Option.bind_some, if_true, not_true_eq_false, if_false]
   rw [br s.rules.length (fun _ => none) () (fun i hi => by
    obtain ⟨gr, hu, ha, _⟩ := g.rule hi
    have he := gr.e
    have hnl := eX (s.rules.getD i default)
    unfold iw
    rw [if_pos (ltI hi), if_pos (inI hi), Int.toNat_natCast, zP _ (by omega) (by omega)]
    simp only [Option.bind_some]
    rw [pA _ (by omega) (by omega)]
    simp only [Option.bind_some]
    rw [if_pos (inI hi), jJ _ (by omega) (by omega)]
    simp only [Option.bind_some]
    rw [jm _ (by omega)]
    simp only [Option.bind_some, if_true]
    rw [nA _ (hng.r _ (bi hi))]
    simp only [Option.bind_some, if_true]
    rw [wrs i (by omega)]) (by unfold iw; rw [if_neg (aX _)]), cS (fun _ _ => rfl)]
   simp only [Option.bind_some, Sum.elim_inl]
   unfold fv
   have hrl := uf g
   rw [rR g, rn g]
   simp only [Option.bind_some, if_true]
   rw [wG g]
   simp only [Option.bind_some]
   rw [jm _ (by omega)]
   rfl
  ·simp only [hc, if_false, and_self, if_true]
   rw [show c9 noS noS = some true from gO (m := 0) ⟨Nat.zero_le _, Nat.zero_le _, Nat.zero_le _, Nat.zero_le _, fun r hr => by cases hr⟩ (by omega)]
   simp only [Option.bind_some, if_true]
   rw [gO hng (by omega)]
   simp only [Option.bind_some, if_true, hc, not_false_eq_true]
   rfl
 ·rfl
end Pam
