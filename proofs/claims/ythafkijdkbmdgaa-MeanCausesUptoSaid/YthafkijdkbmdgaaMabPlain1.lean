/- The fault of all of a system but its rules: the program and the document tell the same. -/
import Derived.Test.YthafkijdkbmdgaaMabFun1
import Derived.Test.YthafkijdkbmdgaaMWide1
import Derived.Test.YthafkijdkbmdgaaMBase3
set_option linter.all false
namespace Pam
open Go
theorem um (v : Int) (j : ax) : fP v j = some (decide (0 ≤ v ∧ v < (j.system.vars.length : Int))) := by
 unfold fP
 by_cases h : v ≥ 0
 ·rw [iP h]; congr 1; rw [decide_eq_decide]; omega
 ·rw [iN h]; congr 1; symm; rw [decide_eq_false_iff_not]; omega
theorem rV (l : List Int) (v : Int) (hl : l.length ≤ 9000000) : ∃ k, eA l v = some k ∧ (decide (k ≥ 0)) = l.contains v := by
 unfold eA
 rw [eR l.length (fun i => if l.getD i default = v then some (i : Int) else none) () (fun i hi => by
  unfold dD
  rw [iP (ltI hi), iP (inI hi)]
  simp only [tN]
  by_cases h : l.getD i default = v
  ·rw [iP h.symm, iP h]
  ·rw [iN (fun e => h e.symm), iN h, wrs i (by omega)]) (by unfold dD; rw [iN (bH _)])]
 rcases dd l.length (fun i => if l.getD i default = v then some (i : Int) else none) () with ⟨e, h⟩ | ⟨j, z, hj, hf, e⟩
 ·rw [e]
  refine ⟨-1, rfl, ?_⟩
  have : ¬ v ∈ l := by
   intro hm
   obtain ⟨i, hi, rfl⟩ := List.mem_iff_getElem.1 hm
   have := h i hi
   simp [List.getD, hi] at this
  simp [this]
 ·rw [e]
  refine ⟨z, rfl, ?_⟩
  by_cases hh : l.getD j default = v
  ·rw [iP hh] at hf
   simp only [sJ] at hf
   subst hf
   have : v ∈ l := by rw [← hh]; exact aN hj
   simp [this]
  ·rw [iN hh] at hf; cases hf
theorem u4 (l : List Int) (v : Int) (hl : l.length ≤ 9000000) : dE l v = some (l.contains v) := by
 unfold dE
 obtain ⟨k, h1, h2⟩ := rV l v hl
 rw [h1]
 simp only [bSq, h2]
def inV (s : ae) (v : Int) : Prop := 0 ≤ v ∧ v < (s.vars.length : Int)
instance (s : ae) (v : Int) : Decidable (inV s v) := inferInstanceAs (Decidable (_ ∧ _))
def yK (x : ah) (i : Nat) : Option av :=
 if ¬ x.elem = 105 ∧ ¬ x.elem = 98 then some (av.mk 10 (-2 - i)) else if x.n < 0 ∨ x.n > 300 then some (av.mk 13 (-2 - i)) else none
def un (s : ae) (i : Nat) : Option av := yK (s.vars.getD i default) i
def inF (s : ae) (i : Nat) : Option av :=
 if ¬ inV s (s.in_.getD i default) then some (av.mk 16 (-1)) else if (s.in_.take i).contains (s.in_.getD i default) then some (av.mk 8 (-1)) else none
def sY (s : ae) (i : Nat) : Option av := if ¬ inV s (s.out_.getD i default) then some (av.mk 16 (-1)) else none
def ml (s : ae) : av :=
 if (s.vars.length : Int) > 400 ∨ (s.rules.length : Int) > 400 ∨ (s.in_.length : Int) > 400 ∨ (s.out_.length : Int) > 400 then av.mk 7 (-1)
 else match eC s.vars.length (un s) () with
  | .inr z => z
  | .inl _ => match eC s.in_.length (inF s) () with
   | .inr z => z
   | .inl _ => match eC s.out_.length (sY s) () with
    | .inr z => z
    | .inl _ => av.mk 0 0
theorem wr2 (i : Nat) (h : i < 1000000) : IntKind.wrap .i64 (-2 - (i : Int)) = -2 - i := wr (by omega) (by omega)
theorem vZ (s : ae) (c : Int) : iD (ax.mk s c) = some (ml s) := by
 have out : s.out_.length ≤ 400 → dN (ax.mk s c) = some (match eC s.out_.length (sY s) () with | .inr z => z | .inl _ => av.mk 0 0) := by
  intro hl
  unfold dN
  rw [eR s.out_.length (sY s) () (fun i hi => by
   unfold fR sY inV
   rw [iP (ltI hi), iP (inI hi)]
   simp only [tN]
   rw [um]
   simp only [bSq]
   by_cases h : 0 ≤ s.out_.getD i default ∧ s.out_.getD i default < (s.vars.length : Int)
   ·rw [iP (by simpa using h), iN (by simpa using h), wrs i (by omega)]
   ·rw [iN (by simpa using h), iP h]) (by unfold fR; rw [iN (bH _)])]
  cases eC s.out_.length (sY s) () <;> rfl
 have inn : s.in_.length ≤ 400 → s.out_.length ≤ 400 → dg (ax.mk s c) = some (match eC s.in_.length (inF s) () with
   | .inr z => z
   | .inl _ => match eC s.out_.length (sY s) () with | .inr z => z | .inl _ => av.mk 0 0) := by
  intro hl ho
  unfold dg
  rw [eR s.in_.length (inF s) () (fun i hi => by
   unfold fS inF inV
   rw [iP (ltI hi), iP (inI hi)]
   simp only [tN]
   rw [um]
   simp only [bSq]
   by_cases h : 0 ≤ s.in_.getD i default ∧ s.in_.getD i default < (s.vars.length : Int)
   ·rw [iP (by simpa using h), iP ⟨by omega, by omega⟩, u4 _ _ (by simp; omega), iN (by simpa using h)]
    simp only [bSq]
    split
    ·rfl
    ·rw [wrs i (by omega)]
   ·rw [iN (by simpa using h), iP h]) (by unfold fS; rw [iN (bH _)])]
  cases eC s.in_.length (inF s) () with
  | inr z => rfl
  | inl _ => exact out ho
 have main : s.vars.length ≤ 400 → s.in_.length ≤ 400 → s.out_.length ≤ 400 → (bb (fun x14 => eH (ax.mk s c) x14) 0).bind (Sum.elim (fun _ => dg (ax.mk s c)) (fun z15 => some z15)) = some (match eC s.vars.length (un s) () with
   | .inr z => z
   | .inl _ => match eC s.in_.length (inF s) () with
    | .inr z => z
    | .inl _ => match eC s.out_.length (sY s) () with | .inr z => z | .inl _ => av.mk 0 0) := by
  intro hv hl ho
  rw [eR s.vars.length (un s) () (fun i hi => by
   unfold eH un
   rw [iP (ltI hi), iP (inI hi)]
   simp only [tN]
   obtain ⟨x, hx⟩ : ∃ x, s.vars.getD i default = x := ⟨_, rfl⟩
   simp only [hx]
   unfold yK
   have tail : dO (ax.mk s c) (i : Int) = some (match (if x.n < 0 ∨ x.n > 300 then some (av.mk 13 (-2 - (i : Int))) else none) with | some z => .inr (.inr z) | none => .inl ((i + 1 : Nat) : Int)) := by
    unfold dO
    simp only [tN, hx]
    by_cases h1 : x.n < 0
    ·rw [iP h1, iP (.inl h1), wr2 i (by omega)]
    ·rw [iN h1]
     by_cases h2 : x.n > 300
     ·rw [iP h2, iP (.inr h2), wr2 i (by omega)]
     ·rw [iN h2, iN (by omega), wrs i (by omega)]
   by_cases h1 : x.elem = 105
   ·rw [iN (by simpa using h1), iN (by simp [h1])]; rw [tail]; generalize (if x.n < 0 ∨ x.n > 300 then some (av.mk 13 (-2 - (i : Int))) else none) = q; cases q <;> rfl
   ·rw [iP h1]
    by_cases h2 : x.elem = 98
    ·rw [iN (by simpa using h2), iN (by simp [h2])]; rw [tail]; generalize (if x.n < 0 ∨ x.n > 300 then some (av.mk 13 (-2 - (i : Int))) else none) = q; cases q <;> rfl
    ·rw [iP h2, iP ⟨h1, h2⟩, wr2 i (by omega)]) (by unfold eH; rw [iN (bH _)])]
  cases eC s.vars.length (un s) () with
  | inr z => rfl
  | inl _ => exact inn hl ho
 unfold iD ml
 by_cases h1 : (s.vars.length : Int) > 400
 ·rw [iP h1, iP (.inl h1)]
 rw [iN h1]
 by_cases h2 : (s.rules.length : Int) > 400
 ·rw [iP h2, iP (.inr (.inl h2))]
 rw [iN h2]
 by_cases h3 : (s.in_.length : Int) > 400
 ·rw [iP h3, iP (.inr (.inr (.inl h3)))]
 rw [iN h3]
 by_cases h4 : (s.out_.length : Int) > 400
 ·rw [iP h4, iP (.inr (.inr (.inr h4)))]
 rw [iN h4, iN (by omega)]
 exact main (by omega) (by omega) (by omega)
def opT (k : Int) : Int × Int × Int :=
 if 1 ≤ k ∧ k ≤ 7 then (105, 105, 2) else if k = 8 ∨ k = 9 then (105, 98, 2) else if 10 ≤ k ∧ k ≤ 12 then (98, 98, 2) else if k = 13 then (105, 105, 1) else if k = 14 then (98, 98, 1) else (0, 0, 0)
theorem ib (k : Int) : kf k = some (opT k) := by
 unfold kf opT
 repeat' split
 all_goals first
  | rfl
  | (exfalso; omega)
theorem bu (k : Int) : mi k = some (opT k) := by
 unfold mi
 by_cases h1 : k < 1
 ·rw [iP h1]; unfold opT
  rw [iN (by omega), iN (by omega), iN (by omega), iN (by omega), iN (by omega)]
 rw [iN h1]
 by_cases h2 : k > 14
 ·rw [iP h2]; unfold opT
  rw [iN (by omega), iN (by omega), iN (by omega), iN (by omega), iN (by omega)]
 rw [iN h2]
 have : k = 1 ∨ k = 2 ∨ k = 3 ∨ k = 4 ∨ k = 5 ∨ k = 6 ∨ k = 7 ∨ k = 8 ∨ k = 9 ∨ k = 10 ∨ k = 11 ∨ k = 12 ∨ k = 13 ∨ k = 14 := by omega
 rcases this with rfl | rfl | rfl | rfl | rfl | rfl | rfl | rfl | rfl | rfl | rfl | rfl | rfl | rfl <;> rfl
theorem yL (k : Int) : (opT k).2.2 = 0 ∨ ((opT k).1 = 105 ∨ (opT k).1 = 98) ∧ ((opT k).2.1 = 105 ∨ (opT k).2.1 = 98) := by
 unfold opT
 repeat' split
 all_goals simp
def dm (s : ae) (n : Int) (p : aq) (rs : List Int) : Option (List Int) :=
 if p.op = 1 then (if p.k = 0 then some (105 :: rs) else if p.k = 1 ∧ (p.n = 0 ∨ p.n = 1) then some (98 :: rs) else none)
 else if p.op = 2 then (if (s.vars.getD p.v.toNat default).n = 0 then some ((s.vars.getD p.v.toNat default).elem :: rs) else none)
 else if p.op = 3 then (if (s.vars.getD p.v.toNat default).n > 0 ∧ p.n ≥ 0 ∧ p.n ≤ (s.vars.getD p.v.toNat default).n - n then some ((s.vars.getD p.v.toNat default).elem :: rs) else none)
 else if p.op = 4 then (if p.n ≥ -1000000 ∧ p.n ≤ 1000000 then some (105 :: rs) else none)
 else if p.op = 5 then (match rs with
  | a :: r => if (opT p.k).2.2 = 1 ∧ a = (opT p.k).1 then some ((opT p.k).2.1 :: r) else none
  | [] => none)
 else if p.op = 6 then (match rs with
  | a :: b :: r => if (opT p.k).2.2 = 2 ∧ a = (opT p.k).1 ∧ b = (opT p.k).1 then some ((opT p.k).2.1 :: r) else none
  | _ => none)
 else if p.op = 7 then (match rs with
  | a :: b :: c :: r => if c = 98 ∧ b = a then some (a :: r) else none
  | _ => none)
 else if p.op = 8 then (match rs with
  | a :: b :: r => if (s.vars.getD p.v.toNat default).n > 0 ∧ b = 105 ∧ a = (s.vars.getD p.v.toNat default).elem then some ((s.vars.getD p.v.toNat default).elem :: r) else none
  | _ => none)
 else none
def okE (x : Int) : Prop := x = 105 ∨ x = 98
def okS (rs : List Int) : Prop := ∀ x ∈ rs, okE x
structure eT (s : ae) : Prop where
 e : ∀ v ∈ s.vars, okE v.elem
 n : ∀ v ∈ s.vars, 0 ≤ v.n ∧ v.n ≤ 300
def nF (s : ae) (p : aq) : Prop := (p.op = 2 ∨ p.op = 3 ∨ p.op = 8) → inV s p.v
theorem yM {s : ae} {n : Int} {p : aq} {rs rs' : List Int} (hv : eT s) (hu : nF s p) (hs : okS rs) (h : dm s n p rs = some rs') : okS rs' ∧ rs'.length ≤ rs.length + 1 := by
 have hel : p.op = 2 ∨ p.op = 3 ∨ p.op = 8 → okE (s.vars.getD p.v.toNat default).elem := fun ho => hv.e _ (aN (by have := hu ho; unfold inV at this; omega))
 have cons : ∀ {x : Int} {r : List Int}, okE x → okS r → okS (x :: r) := fun h1 h2 y hy => by
  rcases List.mem_cons.1 hy with rfl | hy
  ·exact h1
  ·exact h2 y hy
 have tl : ∀ {x : Int} {r : List Int}, okS (x :: r) → okS r := fun h1 y hy => h1 y (by simp [hy])
 have hk : ∀ m : Int, (opT p.k).2.2 = m → m ≠ 0 → okE (opT p.k).2.1 := fun m h1 h2 => by
  rcases yL p.k with h | h
  ·exact absurd (h1.symm.trans h) h2
  ·exact h.2
 unfold dm at h
 by_cases h1 : p.op = 1
 ·rw [iP h1] at h
  split at h
  ·simp only [sJ] at h; subst h; exact ⟨cons (.inl rfl) hs, by simp⟩
  ·split at h
   ·simp only [sJ] at h; subst h; exact ⟨cons (.inr rfl) hs, by simp⟩
   ·cases h
 rw [iN h1] at h
 by_cases h2 : p.op = 2
 ·rw [iP h2] at h
  split at h
  ·simp only [sJ] at h; subst h; exact ⟨cons (hel (.inl h2)) hs, by simp⟩
  ·cases h
 rw [iN h2] at h
 by_cases h3 : p.op = 3
 ·rw [iP h3] at h
  split at h
  ·simp only [sJ] at h; subst h; exact ⟨cons (hel (.inr (.inl h3))) hs, by simp⟩
  ·cases h
 rw [iN h3] at h
 by_cases h4 : p.op = 4
 ·rw [iP h4] at h
  split at h
  ·simp only [sJ] at h; subst h; exact ⟨cons (.inl rfl) hs, by simp⟩
  ·cases h
 rw [iN h4] at h
 by_cases h5 : p.op = 5
 ·rw [iP h5] at h
  split at h
  ·split at h
   ·rename_i hc
    simp only [sJ] at h; subst h; exact ⟨cons (hk 1 hc.1 (by decide)) (tl hs), by simp⟩
   ·cases h
  ·cases h
 rw [iN h5] at h
 by_cases h6 : p.op = 6
 ·rw [iP h6] at h
  split at h
  ·split at h
   ·rename_i hc
    simp only [sJ] at h; subst h; exact ⟨cons (hk 2 hc.1 (by decide)) (tl (tl hs)), by simp⟩
   ·cases h
  ·cases h
 rw [iN h6] at h
 by_cases h7 : p.op = 7
 ·rw [iP h7] at h
  split at h
  ·split at h
   ·simp only [sJ] at h; subst h; exact ⟨cons (hs _ (by simp)) (tl (tl (tl hs))), by simp⟩
   ·cases h
  ·cases h
 rw [iN h7] at h
 by_cases h8 : p.op = 8
 ·rw [iP h8] at h
  split at h
  ·split at h
   ·simp only [sJ] at h; subst h; exact ⟨cons (hel (.inr (.inr h8))) (tl (tl hs)), by simp⟩
   ·cases h
  ·cases h
 rw [iN h8] at h
 cases h
theorem rW (n : Nat) (h : n ≤ 1000000) : dt n 1 := by
 unfold dt
 have : maxLen = 9223372036854775807 := rfl
 omega
theorem dp (l : List Int) : l.reverse.length = l.length := by simp
theorem rv1 (a : Int) (r : List Int) : ((a :: r).reverse).getD r.length default = a ∧ ((a :: r).reverse).take r.length = r.reverse := by
 constructor
 ·simp [List.getD]
 ·simp
theorem rv2 (a b : Int) (r : List Int) : ((a :: b :: r).reverse).getD r.length default = b ∧ ((a :: b :: r).reverse).getD (r.length + 1) default = a ∧ ((a :: b :: r).reverse).take r.length = r.reverse := by
 refine ⟨?_, ?_, ?_⟩
 ·simp [List.getD]
 ·have := (rv1 a (b :: r)).1
  simpa using this
 ·simp
theorem rv3 (a b c : Int) (r : List Int) : ((a :: b :: c :: r).reverse).getD r.length default = c ∧ ((a :: b :: c :: r).reverse).getD (r.length + 1) default = b ∧ ((a :: b :: c :: r).reverse).getD (r.length + 2) default = a ∧ ((a :: b :: c :: r).reverse).take r.length = r.reverse := by
 refine ⟨?_, ?_, ?_, ?_⟩
 ·simp [List.getD]
 ·have := (rv2 a b (c :: r)).1
  simpa using this
 ·have := (rv1 a (b :: c :: r)).1
  simpa using this
 ·simp
def jc (k : Nat) (rs : List Int) : Int := rs.getD (k - 1) 0
theorem v7 (k : Nat) (rs : List Int) (hk : 1 ≤ k ∧ k ≤ 3) (hl : rs.length ≤ 1000) : bt (k : Int) rs.reverse = some (jc k rs) := by
 unfold bt jc
 rw [dp]
 by_cases h : (k : Int) > (rs.length : Int)
 ·rw [iP h]
  have : rs.length ≤ k - 1 := by omega
  simp [List.getD, List.getElem?_eq_none this]
 ·rw [iN h, wr (by omega) (by omega), iP (by omega)]
  congr 1
  have e : ((rs.length : Int) - (k : Int)).toNat = rs.length - k := by omega
  rw [e]
  have h1 : rs.length - k < rs.reverse.length := by simp; omega
  have h2 : k - 1 < rs.length := by omega
  simp only [List.getD, List.getElem?_eq_getElem h1, List.getElem?_eq_getElem h2, Option.getD_some, List.getElem_reverse]
  congr 1
  omega
theorem zV {e : List aq} {n : Int} {j : ax} {l : List Int} {i : Nat} {t m : Int} (hi : i < e.length) (h : aI (e.getD i default) n j l = some (t, m, false)) :
  bk e n j l (i : Int) = some (.inr (.inr (0, false))) := by
 unfold bk
 rw [iP (ltI hi), iP (inI hi)]
 simp only [tN]
 rw [h]
 rfl
theorem AF {e : List aq} {n : Int} {j : ax} {l : List Int} {i : Nat} {m : Int} (k : Nat) (hi : i < e.length) (h : aI (e.getD i default) n j l = some ((k : Int), m, true)) (hl : k ≤ l.length) (hb : l.length ≤ 1000) (hi' : i < 100000) :
  bk e n j l (i : Int) = some (.inl (l.take (l.length - k) ++ [m], ((i + 1 : Nat) : Int))) := by
 unfold bk
 rw [iP (ltI hi), iP (inI hi)]
 simp only [tN]
 rw [h]
 simp only [bSq, if_true]
 rw [iN (by omega), wr (by omega) (by omega), iP ⟨by omega, rW _ (by omega)⟩, wrs i (by omega)]
 have : ((l.length : Int) - (k : Int)).toNat = l.length - k := by omega
 rw [this]
 rfl
theorem zW (l : List Int) (x : Int) : l.reverse.take (l.reverse.length - 0) ++ [x] = (x :: l).reverse := by
 rw [Nat.sub_zero, List.take_length]; simp
theorem yN {k m : Int} (h : (opT k).2.2 = m) (hm : m ≠ 0) : (opT k).1 ≠ 0 := by
 rcases yL k with h' | h'
 ·exact absurd (h.symm.trans h') hm
 ·rcases h'.1 with h | h <;> omega
def B8 {Z : Type} (z : Z) (i : Nat) : Option (List Int) → (List Int × Int) ⊕ (List Int ⊕ Z)
 | some rs' => .inl (rs'.reverse, ((i + 1 : Nat) : Int))
 | none => .inr (.inr z)
theorem zX {s : ae} {c : Int} {e : List aq} {n : Int} {rs : List Int} {i : Nat} (hv : eT s) (hu : nF s (e.getD i default)) (hs : okS rs) (hn : 1 ≤ n ∧ n ≤ 300) (hl : rs.length ≤ 900) (hi : i < e.length) (hi' : i < 100000) :
  bk e n (ax.mk s c) rs.reverse (i : Int) = some (B8 (0, false) i (dm s n (e.getD i default) rs)) := by
 have hb : rs.reverse.length ≤ 1000 := by simp; omega
 have ok0 : ∀ m, aI (e.getD i default) n (ax.mk s c) rs.reverse = some (0, m, true) → bk e n (ax.mk s c) rs.reverse (i : Int) = some (.inl ((m :: rs).reverse, ((i + 1 : Nat) : Int))) := fun m h => by
  rw [AF 0 hi h (by omega) hb hi', zW]
 have fail : ∀ t m, aI (e.getD i default) n (ax.mk s c) rs.reverse = some (t, m, false) → bk e n (ax.mk s c) rs.reverse (i : Int) = some (.inr (.inr (0, false))) := fun t m h => zV hi h
 have okk : ∀ (k : Nat) (m : Int) (r : List Int), aI (e.getD i default) n (ax.mk s c) rs.reverse = some ((k : Int), m, true) → rs.length = r.length + k → rs.reverse.take r.length = r.reverse →
   bk e n (ax.mk s c) rs.reverse (i : Int) = some (.inl ((m :: r).reverse, ((i + 1 : Nat) : Int))) := fun k m r h h1 h2 => by
  rw [AF k hi h (by rw [dp]; omega) hb hi', dp, show rs.length - k = r.length by omega, h2]
  simp
 have t1 := v7 1 rs (by omega) (by omega)
 have t2 := v7 2 rs (by omega) (by omega)
 have t3 := v7 3 rs (by omega) (by omega)
 simp only [Int.natCast_one, Int.cast_ofNat_Int] at t1 t2 t3
 generalize hp : e.getD i default = p at *
 have hvar : p.op = 2 ∨ p.op = 3 ∨ p.op = 8 → (0 ≤ p.v ∧ p.v < (s.vars.length : Int)) ∧ (0 ≤ (s.vars.getD p.v.toNat default).n ∧ (s.vars.getD p.v.toNat default).n ≤ 300) ∧ okE (s.vars.getD p.v.toNat default).elem := fun ho => by
  have h := hu ho
  have hm : s.vars.getD p.v.toNat default ∈ s.vars := aN (by unfold inV at h; omega)
  exact ⟨h, hv.n _ hm, hv.e _ hm⟩
 by_cases h1 : p.op = 1
 ·have hst : aI p n (ax.mk s c) rs.reverse = if p.k = 1 then (if p.n = 0 then some (0, 98, true) else some (0, 98, p.n == 1)) else some (0, 105, p.k == 0) := by
   unfold aI; rw [iP h1]
  unfold dm; rw [iP h1]
  by_cases k0 : p.k = 0
  ·rw [iP k0]; exact ok0 105 (by rw [hst, iN (by omega), k0]; rfl)
  ·rw [iN k0]
   by_cases k1 : p.k = 1
   ·by_cases n0 : p.n = 0
    ·rw [iP ⟨k1, .inl n0⟩]; exact ok0 98 (by rw [hst, iP k1, iP n0])
    ·by_cases n1 : p.n = 1
     ·rw [iP ⟨k1, .inr n1⟩]; exact ok0 98 (by rw [hst, iP k1, iN n0, n1]; rfl)
     ·rw [iN (by omega)]; exact fail 0 98 (by rw [hst, iP k1, iN n0, nB n1])
   ·rw [iN (by omega)]; exact fail 0 105 (by rw [hst, iN k1, nB k0])
 by_cases h2 : p.op = 2
 ·obtain ⟨q1, q2, q3⟩ := hvar (.inl h2)
  have hst : aI p n (ax.mk s c) rs.reverse = some (0, (s.vars.getD p.v.toNat default).elem, (s.vars.getD p.v.toNat default).n == 0) := by
   unfold aI; rw [iN h1, iP h2, iP q1]
  unfold dm; rw [iN h1, iP h2]
  by_cases n0 : (s.vars.getD p.v.toNat default).n = 0
  ·rw [iP n0]; exact ok0 _ (by rw [hst, n0]; rfl)
  ·rw [iN n0]; exact fail _ _ (by rw [hst, nB n0])
 by_cases h3 : p.op = 3
 ·obtain ⟨q1, q2, q3⟩ := hvar (.inr (.inl h3))
  have hst : aI p n (ax.mk s c) rs.reverse = some (0, (s.vars.getD p.v.toNat default).elem, decide ((s.vars.getD p.v.toNat default).n > 0 ∧ p.n ≥ 0 ∧ p.n ≤ (s.vars.getD p.v.toNat default).n - n)) := by
   unfold aI; rw [iN h1, iN h2, iP h3, iP q1]
   simp only
   rw [wr (by omega) (by omega)]
   by_cases a : (s.vars.getD p.v.toNat default).n > 0
   ·rw [iP a]
    by_cases b : p.n ≥ 0
    ·rw [iP b]; congr 3; rw [decide_eq_decide]; exact ⟨fun h => ⟨a, b, h⟩, fun h => h.2.2⟩
    ·rw [iN b, dF (fun h => b h.2.1)]
   ·rw [iN a, dF (fun h => a h.1)]
  unfold dm; rw [iN h1, iN h2, iP h3]
  by_cases a : (s.vars.getD p.v.toNat default).n > 0 ∧ p.n ≥ 0 ∧ p.n ≤ (s.vars.getD p.v.toNat default).n - n
  ·rw [iP a]; exact ok0 _ (by rw [hst, dT a])
  ·rw [iN a]; exact fail _ _ (by rw [hst, dF a])
 by_cases h4 : p.op = 4
 ·have hst : aI p n (ax.mk s c) rs.reverse = some (0, 105, decide (p.n ≥ -1000000 ∧ p.n ≤ 1000000)) := by
   unfold aI; rw [iN h1, iN h2, iN h3, iP h4]
   by_cases a : p.n ≥ -1000000
   ·rw [iP a]; simp [a]
   ·rw [iN a]; simp [a]
  unfold dm; rw [iN h1, iN h2, iN h3, iP h4]
  by_cases a : p.n ≥ -1000000 ∧ p.n ≤ 1000000
  ·rw [iP a]; exact ok0 _ (by rw [hst, dT a])
  ·rw [iN a]; exact fail _ _ (by rw [hst, dF a])
 have w5 : IntKind.wrap .i64 (IntKind.wrap .i64 ((5 : Int) - 5) + 1) = 1 := by decide
 have w6 : IntKind.wrap .i64 (IntKind.wrap .i64 ((6 : Int) - 5) + 1) = 2 := by decide
 by_cases h5 : p.op = 5
 ·have hst : aI p n (ax.mk s c) rs.reverse = if (opT p.k).2.2 = 1 then (if jc 1 rs = (opT p.k).1 then some ((opT p.k).2.2, (opT p.k).2.1, true) else some ((opT p.k).2.2, (opT p.k).2.1, false)) else some ((opT p.k).2.2, (opT p.k).2.1, false) := by
   unfold aI; rw [iN h1, iN h2, iN h3, iN h4, iP h5, show (p.op == 5) = true by simp [h5]]
   unfold bQ
   rw [iP rfl, ib]
   simp only [bSq]
   rw [h5, w5, t1]
   simp only [bSq]
   by_cases a : (opT p.k).2.2 = 1
   ·rw [iP a, iP a, iP a]
   ·rw [iN a, iN a]
  unfold dm; rw [iN h1, iN h2, iN h3, iN h4, iP h5]
  by_cases a : (opT p.k).2.2 = 1
  ·rw [iP a] at hst
   have nz := yN a (by decide)
   cases rs with
   | nil =>
    rw [iN (by show ¬ (0 : Int) = _; omega)] at hst
    exact fail _ _ hst
   | cons x r =>
    by_cases b : x = (opT p.k).1
    ·rw [iP (show jc 1 (x :: r) = _ from b), a] at hst
     simp only
     rw [iP ⟨a, b⟩]
     exact okk 1 _ r hst (by simp) (rv1 x r).2
    ·rw [iN (show ¬ jc 1 (x :: r) = _ from b)] at hst
     simp only
     rw [iN (fun h => b h.2)]
     exact fail _ _ hst
  ·rw [iN a] at hst
   have f := fail _ _ hst
   cases rs with
   | nil => exact f
   | cons x r => simp only; rw [iN (fun h => a h.1)]; exact f
 by_cases h6 : p.op = 6
 ·have hst : aI p n (ax.mk s c) rs.reverse = if (opT p.k).2.2 = 2 then (if jc 1 rs = (opT p.k).1 then some ((opT p.k).2.2, (opT p.k).2.1, jc 2 rs == (opT p.k).1) else some ((opT p.k).2.2, (opT p.k).2.1, false)) else some ((opT p.k).2.2, (opT p.k).2.1, false) := by
   unfold aI; rw [iN h1, iN h2, iN h3, iN h4, iN h5, show (p.op == 6) = true by simp [h6]]
   unfold bQ
   rw [iP rfl, ib]
   simp only [bSq]
   rw [h6, w6, t1]
   simp only [bSq]
   by_cases a : (opT p.k).2.2 = 2
   ·rw [iP a, iP a, iN (by omega : ¬ (opT p.k).2.2 = 1), t2]
    simp only [bSq]
   ·rw [iN a, iN a]
  unfold dm; rw [iN h1, iN h2, iN h3, iN h4, iN h5, iP h6]
  by_cases a : (opT p.k).2.2 = 2
  ·rw [iP a] at hst
   have nz := yN a (by decide)
   match rs, hst, okk, fail with
   | [], hst, _, fail =>
    rw [iN (by show ¬ (0 : Int) = _; omega)] at hst
    exact fail _ _ hst
   | [x], hst, _, fail =>
    have : (jc 2 [x] == (opT p.k).1) = false := nB (by show (0 : Int) ≠ _; omega)
    rw [this] at hst
    exact fail _ _ (by rw [hst]; split <;> rfl)
   | x :: y :: r, hst, okk, fail =>
    simp only
    by_cases b : x = (opT p.k).1
    ·rw [iP (show jc 1 (x :: y :: r) = _ from b), a] at hst
     by_cases d : y = (opT p.k).1
     ·rw [show (jc 2 (x :: y :: r) == (opT p.k).1) = true from eQ d] at hst
      rw [iP ⟨a, b, d⟩]
      exact okk 2 _ r hst (by simp) (rv2 x y r).2.2
     ·rw [show (jc 2 (x :: y :: r) == (opT p.k).1) = false from nB d] at hst
      rw [iN (fun h => d h.2.2)]
      exact fail _ _ hst
    ·rw [iN (show ¬ jc 1 (x :: y :: r) = _ from b)] at hst
     rw [iN (fun h => b h.2.1)]
     exact fail _ _ hst
  ·rw [iN a] at hst
   have f := fail _ _ hst
   match rs, f with
   | [], f => exact f
   | [x], f => exact f
   | x :: y :: r, f => simp only; rw [iN (fun h => a h.1)]; exact f
 by_cases h7 : p.op = 7
 ·have hst : aI p n (ax.mk s c) rs.reverse = if jc 3 rs = 98 then (if jc 1 rs = jc 2 rs then some (3, jc 1 rs, jc 1 rs != 0) else some (3, jc 1 rs, false)) else some (3, jc 1 rs, false) := by
   unfold aI; rw [iN h1, iN h2, iN h3, iN h4, iN h5, show (p.op == 6) = false by simp [h6]]
   unfold bQ
   rw [iN (by decide), iP h7, t1, t3]
   simp only [bSq]
   rw [t2]
   simp only [bSq]
  unfold dm; rw [iN h1, iN h2, iN h3, iN h4, iN h5, iN h6, iP h7]
  match rs, hst, okk, fail, hs with
  | [], hst, _, fail, _ => rw [iN (by show ¬ (0 : Int) = _; omega)] at hst; exact fail _ _ hst
  | [x], hst, _, fail, _ => rw [iN (by show ¬ (0 : Int) = _; omega)] at hst; exact fail _ _ hst
  | [x, y], hst, _, fail, _ => rw [iN (by show ¬ (0 : Int) = _; omega)] at hst; exact fail _ _ hst
  | x :: y :: z :: r, hst, okk, fail, hs =>
   simp only
   by_cases b : z = 98
   ·rw [iP (show jc 3 (x :: y :: z :: r) = 98 from b)] at hst
    by_cases d : y = x
    ·have hx : x ≠ 0 := by rcases hs x (by simp) with h | h <;> omega
     rw [iP (show jc 1 (x :: y :: z :: r) = jc 2 (x :: y :: z :: r) from d.symm), show (jc 1 (x :: y :: z :: r) != 0) = true from bne_iff_ne.2 hx] at hst
     rw [iP ⟨b, d⟩]
     exact okk 3 x r hst (by simp) (rv3 x y z r).2.2.2
    ·rw [iN (show ¬ jc 1 (x :: y :: z :: r) = jc 2 (x :: y :: z :: r) from fun h => d h.symm)] at hst
     rw [iN (fun h => d h.2)]
     exact fail _ _ hst
   ·rw [iN (show ¬ jc 3 (x :: y :: z :: r) = 98 from b)] at hst
    rw [iN (fun h => b h.1)]
    exact fail _ _ hst
 by_cases h8 : p.op = 8
 ·obtain ⟨q1, q2, q3⟩ := hvar (.inr (.inr h8))
  have hst : aI p n (ax.mk s c) rs.reverse = if (s.vars.getD p.v.toNat default).n > 0 then (if jc 1 rs = (s.vars.getD p.v.toNat default).elem then some (2, (s.vars.getD p.v.toNat default).elem, jc 2 rs == 105) else some (2, (s.vars.getD p.v.toNat default).elem, false)) else some (2, (s.vars.getD p.v.toNat default).elem, false) := by
   unfold aI; rw [iN h1, iN h2, iN h3, iN h4, iN h5, show (p.op == 6) = false by simp [h6]]
   unfold bQ
   rw [iN (by decide), iN h7, iP h8, iP q1, t1]
   simp only [bSq]
   rw [t2]
   simp only [bSq]
  unfold dm; rw [iN h1, iN h2, iN h3, iN h4, iN h5, iN h6, iN h7, iP h8]
  match rs, hst, okk, fail with
  | [], hst, _, fail =>
   by_cases a : (s.vars.getD p.v.toNat default).n > 0
   ·rw [iP a, iN (by show ¬ (0 : Int) = _; rcases q3 with h | h <;> omega)] at hst; exact fail _ _ hst
   ·rw [iN a] at hst; exact fail _ _ hst
  | [x], hst, _, fail =>
   rw [show (jc 2 [x] == 105) = false from rfl] at hst
   exact fail _ _ (by rw [hst]; split <;> (try split) <;> rfl)
  | x :: y :: r, hst, okk, fail =>
   simp only
   by_cases a : (s.vars.getD p.v.toNat default).n > 0
   ·rw [iP a] at hst
    by_cases b : x = (s.vars.getD p.v.toNat default).elem
    ·rw [iP (show jc 1 (x :: y :: r) = _ from b)] at hst
     by_cases d : y = 105
     ·rw [show (jc 2 (x :: y :: r) == 105) = true from eQ d] at hst
      rw [iP ⟨a, d, b⟩]
      exact okk 2 _ r hst (by simp) (rv2 x y r).2.2
     ·rw [show (jc 2 (x :: y :: r) == 105) = false from nB d] at hst
      rw [iN (fun h => d h.2.1)]
      exact fail _ _ hst
    ·rw [iN (show ¬ jc 1 (x :: y :: r) = _ from b)] at hst
     rw [iN (fun h => b h.2.2)]
     exact fail _ _ hst
   ·rw [iN a] at hst
    rw [iN (fun h => a h.1)]
    exact fail _ _ hst
 ·have hst : aI p n (ax.mk s c) rs.reverse = some (0, 0, false) := by
   unfold aI; rw [iN h1, iN h2, iN h3, iN h4, iN h5, show (p.op == 6) = false by simp [h6]]
   unfold bQ
   rw [iN (by decide), iN h7, iN h8]
  unfold dm; rw [iN h1, iN h2, iN h3, iN h4, iN h5, iN h6, iN h7, iN h8]
  exact fail _ _ hst
theorem yO (x m : Int) (r : List Int) : ((x :: r).reverse).set r.length m = (m :: r).reverse := by simp
theorem wl1 (x : Int) (r : List Int) (h : r.length ≤ 1000) : IntKind.wrap .i64 (((x :: r).reverse.length : Int) - 1) = (r.length : Int) := by
 rw [dp, List.length_cons, wr (by omega) (by omega)]; omega
theorem wl2 (x y : Int) (r : List Int) (h : r.length ≤ 1000) : IntKind.wrap .i64 (((x :: y :: r).reverse.length : Int) - 2) = (r.length : Int) ∧ IntKind.wrap .i64 (((x :: y :: r).reverse.length : Int) - 1) = ((r.length + 1 : Nat) : Int) := by
 rw [dp, List.length_cons, List.length_cons, wr (by omega) (by omega), wr (by omega) (by omega)]; omega
theorem wl3 (x y z : Int) (r : List Int) (h : r.length ≤ 1000) : IntKind.wrap .i64 (((x :: y :: z :: r).reverse.length : Int) - 3) = (r.length : Int) ∧ IntKind.wrap .i64 (((x :: y :: z :: r).reverse.length : Int) - 2) = ((r.length + 1 : Nat) : Int) ∧
  IntKind.wrap .i64 (((x :: y :: z :: r).reverse.length : Int) - 1) = ((r.length + 2 : Nat) : Int) := by
 rw [dp, List.length_cons, List.length_cons, List.length_cons, wr (by omega) (by omega), wr (by omega) (by omega), wr (by omega) (by omega)]; omega
theorem e9 (l : List Int) (x : Int) : l.reverse ++ (lit ([x] : List Int)) = (x :: l).reverse := by simp [lit]
theorem xI (n : Int) : oT n = some (decide (n ≥ -1000000 ∧ n ≤ 1000000)) := by
 unfold oT
 by_cases a : n ≥ -1000000
 ·rw [iP a]; simp [a]
 ·rw [iN a]; simp [a]
theorem zY {s : ae} {e : List aq} {n : Int} {rs : List Int} {i : Nat} (hv : eT s) (hu : nF s (e.getD i default)) (hn : 1 ≤ n ∧ n ≤ 300) (hl : rs.length ≤ 900) (hi : i < e.length) (hi' : i < 100000) :
  gW s e n rs.reverse (i : Int) = some (B8 (0 : Int) i (dm s n (e.getD i default) rs)) := by
 unfold gW
 rw [iP (ltI hi), iP (inI hi)]
 simp only [tN]
 rw [wrs i (by omega)]
 obtain ⟨p, hp⟩ : ∃ p, e.getD i default = p := ⟨_, rfl⟩
 simp only [hp]
 rw [hp] at hu
 have hroom : dt (rs.reverse.length + 1) 1 := rW _ (by simp; omega)
 have hvar : p.op = 2 ∨ p.op = 3 ∨ p.op = 8 → (0 ≤ p.v ∧ p.v < (s.vars.length : Int)) ∧ (0 ≤ (s.vars.getD p.v.toNat default).n ∧ (s.vars.getD p.v.toNat default).n ≤ 300) := fun ho => by
  have h := hu ho
  have hm : s.vars.getD p.v.toNat default ∈ s.vars := aN (by unfold inV at h; omega)
  exact ⟨h, hv.n _ hm⟩
 by_cases h1 : p.op = 1
 ·unfold dm; rw [iP h1, iP h1]
  by_cases k0 : p.k = 0
  ·rw [iP k0, iP k0, iP hroom, e9]; rfl
  ·rw [iN k0, iN k0]
   by_cases k1 : p.k = 1
   ·rw [iP k1]
    by_cases n0 : p.n = 0
    ·rw [iP n0, iP hroom, e9, iP ⟨k1, .inl n0⟩]; rfl
    ·rw [iN n0]
     by_cases n1 : p.n = 1
     ·rw [iP n1, iP hroom, e9, iP ⟨k1, .inr n1⟩]; rfl
     ·rw [iN n1, iN (by omega)]; rfl
   ·rw [iN k1, iN (fun h => k1 h.1)]; rfl
 rw [iN h1]
 by_cases h2 : p.op = 2
 ·obtain ⟨q1, q2⟩ := hvar (.inl h2)
  unfold dm; rw [iP h2, iN h1, iP h2, iP q1]
  by_cases n0 : (s.vars.getD p.v.toNat default).n = 0
  ·rw [iN (fun h => h n0), iP hroom, e9, iP n0]; rfl
  ·rw [iP n0, iN n0]; rfl
 rw [iN h2]
 by_cases h3 : p.op = 3
 ·obtain ⟨q1, q2⟩ := hvar (.inr (.inl h3))
  unfold dm; rw [iP h3, iN h1, iN h2, iP h3, iP q1]
  by_cases n0 : (s.vars.getD p.v.toNat default).n = 0
  ·rw [iP n0, iN (by omega)]; rfl
  ·rw [iN n0]
   by_cases a : p.n < 0
   ·rw [iP a, iN (by omega)]; rfl
   ·rw [iN a]
    by_cases b : (s.vars.getD p.v.toNat default).n < n
    ·rw [iP b, iN (by omega)]; rfl
    ·rw [iN b, wr (by omega) (by omega)]
     by_cases d : p.n > (s.vars.getD p.v.toNat default).n - n
     ·rw [iP d, iN (by omega)]; rfl
     ·rw [iN d, iP hroom, e9, iP (by omega)]; rfl
 rw [iN h3]
 by_cases h4 : p.op = 4
 ·unfold dm; rw [iP h4, iN h1, iN h2, iN h3, iP h4, xI]
  simp only [bSq]
  by_cases a : p.n ≥ -1000000 ∧ p.n ≤ 1000000
  ·rw [iP (dT a), iP hroom, e9, iP a]; rfl
  ·rw [iN (by simpa using a), iN a]; rfl
 rw [iN h4]
 by_cases h5 : p.op = 5
 ·unfold dm; rw [iP h5, iN h1, iN h2, iN h3, iN h4, iP h5, bu]
  simp only [bSq]
  match rs, hl with
  | [], _ =>
   split
   ·rfl
   ·rw [iP (by simp)]; rfl
  | x :: r, hl =>
   simp only [List.length_cons] at hl
   simp only
   by_cases a : (opT p.k).2.2 = 1
   ·rw [iN (fun h => h a), iN (by rw [dp]; simp; omega), wl1 _ _ (by omega), iP ⟨by omega, by rw [dp]; simp; omega⟩]
    simp only [tN]
    simp only [(rv1 x r).1]
    by_cases b : x = (opT p.k).1
    ·rw [iN (fun h => h b), yO, iP ⟨a, b⟩]; rfl
    ·rw [iP b, iN (fun h => b h.2)]; rfl
   ·rw [iP a, iN (fun h => a h.1)]; rfl
 rw [iN h5]
 by_cases h6 : p.op = 6
 ·unfold dm; rw [iP h6, iN h1, iN h2, iN h3, iN h4, iN h5, iP h6, bu]
  simp only [bSq]
  match rs, hl with
  | [], _ =>
   split
   ·rfl
   ·rw [iP (by simp)]; rfl
  | [x], _ =>
   split
   ·rfl
   ·rw [iP (by simp)]; rfl
  | x :: y :: r, hl =>
   simp only [List.length_cons] at hl
   simp only
   obtain ⟨w2, w1⟩ := wl2 x y r (by omega)
   obtain ⟨g1, g2, g3⟩ := rv2 x y r
   by_cases a : (opT p.k).2.2 = 2
   ·rw [iN (fun h => h a), iN (by rw [dp]; simp; omega), w1, iP ⟨by omega, by rw [dp]; simp; omega⟩]
    simp only [tN]
    simp only [g2]
    by_cases b : x = (opT p.k).1
    ·rw [iN (fun h => h b), w2, iP ⟨by omega, by rw [dp]; simp; omega⟩]
     simp only [tN]
     simp only [g1]
     by_cases d : y = (opT p.k).1
     ·rw [iN (fun h => h d), iP ⟨⟨by omega, by rw [dp]; simp; omega⟩, rW _ (by omega)⟩, g3, e9, iP ⟨a, b, d⟩]; rfl
     ·rw [iP d, iN (fun h => d h.2.2)]; rfl
    ·rw [iP b, iN (fun h => b h.2.1)]; rfl
   ·rw [iP a, iN (fun h => a h.1)]; rfl
 rw [iN h6]
 by_cases h7 : p.op = 7
 ·unfold dm; rw [iP h7, iN h1, iN h2, iN h3, iN h4, iN h5, iN h6, iP h7]
  match rs, hl with
  | [], _ => rw [iP (by simp)]; rfl
  | [x], _ => rw [iP (by simp)]; rfl
  | [x, y], _ => rw [iP (by simp)]; rfl
  | x :: y :: z :: r, hl =>
   simp only [List.length_cons] at hl
   simp only
   obtain ⟨w3, w2, w1⟩ := wl3 x y z r (by omega)
   obtain ⟨g1, g2, g3, g4⟩ := rv3 x y z r
   rw [iN (by rw [dp]; simp; omega), w3, iP ⟨by omega, by rw [dp]; simp; omega⟩]
   simp only [tN]
   simp only [g1]
   by_cases b : z = 98
   ·rw [iN (fun h => h b), w2, w1, iP ⟨⟨by omega, by rw [dp]; simp; omega⟩, by omega, by rw [dp]; simp; omega⟩]
    simp only [tN]
    simp only [g2, g3]
    by_cases d : y = x
    ·rw [iN (fun h => h d), iP ⟨⟨by omega, by rw [dp]; simp; omega⟩, rW _ (by omega)⟩, g4, e9, iP ⟨b, d⟩]; rfl
    ·rw [iP d, iN (fun h => d h.2)]; rfl
   ·rw [iP b, iN (fun h => b h.1)]; rfl
 rw [iN h7]
 by_cases h8 : p.op = 8
 ·obtain ⟨q1, q2⟩ := hvar (.inr (.inr h8))
  unfold dm; rw [iP h8, iN h1, iN h2, iN h3, iN h4, iN h5, iN h6, iN h7, iP h8, iP q1]
  match rs, hl with
  | [], _ =>
   split
   ·rfl
   ·rw [iP (by simp)]; rfl
  | [x], _ =>
   split
   ·rfl
   ·rw [iP (by simp)]; rfl
  | x :: y :: r, hl =>
   simp only [List.length_cons] at hl
   simp only
   obtain ⟨w2, w1⟩ := wl2 x y r (by omega)
   obtain ⟨g1, g2, g3⟩ := rv2 x y r
   by_cases a : (s.vars.getD p.v.toNat default).n = 0
   ·rw [iP a, iN (by omega)]; rfl
   ·rw [iN a, iN (by rw [dp]; simp; omega), w2, iP ⟨by omega, by rw [dp]; simp; omega⟩]
    simp only [tN]
    simp only [g1]
    by_cases b : y = 105
    ·rw [iN (fun h => h b), w1, iP ⟨by omega, by rw [dp]; simp; omega⟩]
     simp only [tN]
     simp only [g2]
     by_cases d : x = (s.vars.getD p.v.toNat default).elem
     ·rw [iN (fun h => h d), iP ⟨⟨by omega, by rw [dp]; simp; omega⟩, rW _ (by omega)⟩, g3, e9, iP ⟨by omega, b, d⟩]; rfl
     ·rw [iP d, iN (fun h => d h.2.2)]; rfl
    ·rw [iP b, iN (fun h => b h.2.1)]; rfl
 ·rw [iN h8]
  unfold dm; rw [iN h1, iN h2, iN h3, iN h4, iN h5, iN h6, iN h7, iN h8]; rfl
def jP (s : ae) (n : Int) : List aq → List Int → Option (List Int)
 | [], rs => some rs
 | p :: e, rs => match dm s n p rs with | some rs' => jP s n e rs' | none => none
def jQ (s : ae) (n : Int) (e : List aq) : Int := match jP s n e [] with | some [x] => x | _ => 0
theorem rX {Z : Type} (s : ae) (n : Int) (z : Z) : ∀ (e : List aq) (i : Nat) (rs : List Int), lq (fun _ a p => match dm s n p a with | some a' => .inl a' | none => .inr z) i e rs = match jP s n e rs with | some a => .inl a | none => .inr z
 | [], i, rs => rfl
 | p :: e, i, rs => by
  rw [lq, jP]
  cases dm s n p rs with
  | none => rfl
  | some a => exact rX s n z e (i + 1) a
theorem tv {s : ae} {c : Int} {e : List aq} {n : Int} (hv : eT s) (hu : ∀ p ∈ e, nF s p) (hn : 1 ≤ n ∧ n ≤ 300) (he : e.length ≤ 800) :
  (∃ q : Int × Bool, iH e n (ax.mk s c) = some q ∧ (q.2 = true → q.1 = jQ s n e ∧ okE q.1) ∧ (q.2 = false → jQ s n e = 0)) ∧ lp s e n = some (jQ s n e) := by
 have I : ∀ (i : Nat) (a : List Int), i < e.length → (okS a ∧ a.length ≤ i) → ∀ a', dm s n (e.getD i default) a = some a' → okS a' ∧ a'.length ≤ i + 1 := by
  intro i a hi ha a' h
  obtain ⟨k1, k2⟩ := yM hv (hu _ (aN hi)) ha.1 h
  exact ⟨k1, by omega⟩
 obtain ⟨h1, h2⟩ := mN (A := List Int) (T := aq) (O := List Int) (Z := Int × Bool) (S := List Int × Int) (fun a i => (a.reverse, i)) (body := fun x => bk e n (ax.mk s c) x.1 x.2) e
  (fun _ a p => match dm s n p a with | some a' => .inl a' | none => .inr (0, false)) (fun i a => okS a ∧ a.length ≤ i) (fun a => a.reverse) [] ⟨fun x hx => by simp at hx, by simp⟩
  (by
   intro i a hi ha
   refine ⟨?_, ?_⟩
   ·show bk e n (ax.mk s c) a.reverse (i : Int) = _
    rw [zX hv (hu _ (aN hi)) ha.1 hn (by omega) hi (by omega)]
    cases dm s n (e.getD i default) a <;> rfl
   ·intro a' h
    cases hx : dm s n (e.getD i default) a with
    | none => rw [hx] at h; cases h
    | some b =>
     rw [hx] at h
     simp only [Sum.inl.injEq] at h
     subst h
     exact I i a hi ha b hx)
  (by
   intro a _
   show bk e n (ax.mk s c) a.reverse (e.length : Int) = _
   unfold bk
   rw [iN (bH _)])
 obtain ⟨h3, h4⟩ := mN (A := List Int) (T := aq) (O := List Int) (Z := Int) (S := List Int × Int) (fun a i => (a.reverse, i)) (body := fun x => gW s e n x.1 x.2) e
  (fun _ a p => match dm s n p a with | some a' => .inl a' | none => .inr 0) (fun i a => okS a ∧ a.length ≤ i) (fun a => a.reverse) [] ⟨fun x hx => by simp at hx, by simp⟩
  (by
   intro i a hi ha
   refine ⟨?_, ?_⟩
   ·show gW s e n a.reverse (i : Int) = _
    rw [zY hv (hu _ (aN hi)) hn (by omega) hi (by omega)]
    cases dm s n (e.getD i default) a <;> rfl
   ·intro a' h
    cases hx : dm s n (e.getD i default) a with
    | none => rw [hx] at h; cases h
    | some b =>
     rw [hx] at h
     simp only [Sum.inl.injEq] at h
     subst h
     exact I i a hi ha b hx)
  (by
   intro a _
   show gW s e n a.reverse (e.length : Int) = _
   unfold gW
   rw [iN (bH _)])
 rw [rX] at h1 h2 h3
 have e1 : iH e n (ax.mk s c) = (bb (fun x : List Int × Int => bk e n (ax.mk s c) x.1 x.2) (([] : List Int).reverse, 0)).bind (Sum.elim (fun z => cF z) (fun z => some z)) := rfl
 have e2 : lp s e n = (bb (fun x : List Int × Int => gW s e n x.1 x.2) (([] : List Int).reverse, 0)).bind (Sum.elim (fun z => kt z) (fun z => some z)) := rfl
 rw [e1, e2, h1, h3]
 simp only [bSq]
 unfold jQ
 cases ht : jP s n e [] with
 | none => exact ⟨⟨(0, false), rfl, fun h => (by cases h), fun _ => rfl⟩, rfl⟩
 | some a =>
  have ha := (h2 a (by rw [ht])).1
  simp only [Sum.elim_inl]
  match a, ha with
  | [], _ =>
   refine ⟨⟨(0, false), ?_, fun h => (by cases h), fun _ => rfl⟩, ?_⟩
   ·unfold cF; rw [iP (by simp)]
   ·unfold kt; rw [iP (by simp)]
  | [x], ha =>
   refine ⟨⟨(x, true), ?_, fun _ => ⟨rfl, ha x (by simp)⟩, fun h => by cases h⟩, ?_⟩
   ·unfold cF; rw [iN (by simp), iP (by simp)]; rfl
   ·unfold kt; rw [iN (by simp), iP (by simp)]; rfl
  | x :: y :: r, _ =>
   refine ⟨⟨(0, false), ?_, fun h => (by cases h), fun _ => rfl⟩, ?_⟩
   ·unfold cF; rw [iP (by simp; omega)]
   ·unfold kt; rw [iP (by simp; omega)]
def vOf (s : ae) (x : Int) : ah := s.vars.getD x.toNat default
theorem cY (s : ae) (x : Int) : s.vars.getD x.toNat default = vOf s x := by rw [vOf]
def nG (a b : ah) : Bool := a.elem == b.elem && a.n == b.n
def ow (s : ae) (l : List Int) (i : Nat) : Option Bool := if nG (vOf s (l.getD i default)) (vOf s (l.getD 0 default)) then none else some false
theorem tw (s : ae) (l : List Int) : (match eC l.length (ow s l) () with | .inr z => z | .inl _ => true) = l.all (fun x => nG (vOf s x) (vOf s (l.getD 0 default))) := by
 rcases dd l.length (ow s l) () with ⟨e, h⟩ | ⟨j, z, hj, hf, e⟩
 ·rw [e]
  symm
  show _ = true
  rw [List.all_eq_true]
  intro x hx
  obtain ⟨i, hi, rfl⟩ := List.mem_iff_getElem.1 hx
  have := h i hi
  unfold ow at this
  have e2 : l.getD i default = l[i] := by simp [List.getD, hi]
  rw [e2] at this
  split at this
  ·assumption
  ·cases this
 ·rw [e]
  unfold ow at hf
  split at hf
  ·cases hf
  ·rename_i hb
   simp only [sJ] at hf
   subst hf
   symm
   show _ = false
   rw [List.all_eq_false]
   exact ⟨_, aN hj, hb⟩
theorem nZ (a b : ah) : nG a b = true ↔ a.elem = b.elem ∧ a.n = b.n := by unfold nG; simp
theorem zZ {s : ae} {c : Int} {l : List Int} (hl : 0 < l.length) (hb : l.length ≤ 1000) (hin : ∀ x ∈ l, inV s x) :
  iE l (ax.mk s c) = some (l.all (fun x => nG (vOf s x) (vOf s (l.getD 0 default)))) := by
 unfold iE
 rw [eR l.length (ow s l) () (fun i hi => by
  unfold fV ow
  have g0 := hin _ (aN (l := l) (i := 0) hl)
  have gi := hin _ (aN hi)
  unfold inV at g0 gi
  rw [iP (ltI hi), iP (inI hi)]
  simp only [tN]
  rw [iP ⟨gi, by omega, g0⟩, wrs i (by omega)]
  simp only [cY]
  by_cases h : nG (vOf s (l.getD i default)) (vOf s (l.getD 0 default)) = true
  ·rw [iP ((nZ _ _).1 h), iP h]
  ·rw [iN (fun h' => h ((nZ _ _).2 h')), iN h]) (by unfold fV; rw [iN (bH _)])]
 rw [← tw]
 cases eC l.length (ow s l) () <;> rfl
theorem u5 {s : ae} {c : Int} {l : List Int} (hl : 0 < l.length) (hb : l.length ≤ 1000) (hin : ∀ x ∈ l, inV s x) :
  fh (ax.mk s c) l = some (l.all (fun x => nG (vOf s x) (vOf s (l.getD 0 default)))) := by
 unfold fh
 rw [eR l.length (ow s l) () (fun i hi => by
  unfold e8 ow
  have g0 := hin _ (aN (l := l) (i := 0) hl)
  have gi := hin _ (aN hi)
  unfold inV at g0 gi
  rw [iP (ltI hi), iP (inI hi)]
  simp only [tN]
  rw [iP ⟨gi, by omega, g0⟩, wrs i (by omega)]
  simp only [cY]
  by_cases h : nG (vOf s (l.getD i default)) (vOf s (l.getD 0 default)) = true
  ·rw [iP ((nZ _ _).1 h), iP h]
  ·rw [iN (fun h' => h ((nZ _ _).2 h')), iN h]) (by unfold e8; rw [iN (bH _)])]
 rw [← tw]
 cases eC l.length (ow s l) () <;> rfl
def uo (k : Int) : Bool := (opT k).2.2 == 2 && (opT k).1 == (opT k).2.1
theorem d3 (k : Int) : iF k = some (uo k) := by
 unfold iF uo
 rw [ib]
 simp only [bSq]
 split
 ·rename_i h; rw [h]; rfl
 ·rename_i h; rw [nB h]; rfl
theorem bq (k : Int) : kP k = some (uo k) := by
 unfold kP uo
 rw [bu]
 simp only [bSq]
 split
 ·rename_i h; rw [h]; rfl
 ·rename_i h; rw [nB h]; rfl
def dY (n : Int) : Int := if n < 1 then 1 else n
theorem bP (n : Int) : kO n = some (dY n) := by
 unfold kO dY; split <;> rfl
theorem Bh (n : Int) : (if 1 > n then 1 else n) = dY n := rfl
def eD (s : ae) (a : List Int) : List ah := [if 0 < a.length then vOf s (a.getD 0 default) else ⟨0, 0⟩, if 1 < a.length then vOf s (a.getD 1 default) else ⟨0, 0⟩, if 2 < a.length then vOf s (a.getD 2 default) else ⟨0, 0⟩]
theorem z7 {s : ae} {r : ab} {i : Nat} {l : List ah} (hi : i < r.a.length) (h3 : r.a.length ≤ 3) (hl : l.length = 3) (hin : ∀ x ∈ r.a, inV s x) :
  cR s r l (i : Int) = some (.inl (l.set i (vOf s (r.a.getD i default)), ((i + 1 : Nat) : Int))) := by
 unfold cR
 have gi := hin _ (aN hi)
 unfold inV at gi
 rw [iP (ltI hi)]
 simp only [tN]
 rw [iP ⟨inI hi, gi, by omega, by omega⟩, wrs i (by omega)]
 rfl
theorem yP {s : ae} {r : ab} (h3 : r.a.length ≤ 3) (hin : ∀ x ∈ r.a, inV s x) :
  bb (fun x : List ah × Int => cR s r x.1 x.2) (List.replicate 3 (ah.mk 0 0), 0) = some (eD s r.a) := by
 have fin : ∀ l, bb (fun x : List ah × Int => cR s r x.1 x.2) (l, (r.a.length : Int)) = some l := fun l => eG (by
  show cR s r l (r.a.length : Int) = _
  unfold cR
  rw [iN (bH _)])
 have nx : ∀ (i : Nat) (l : List ah), i < r.a.length → l.length = 3 → bb (fun x : List ah × Int => cR s r x.1 x.2) (l, (i : Int)) = bb (fun x : List ah × Int => cR s r x.1 x.2) (l.set i (vOf s (r.a.getD i default)), ((i + 1 : Nat) : Int)) :=
  fun i l hi hl => eF (z7 hi h3 hl hin)
 have e : r.a.length = 0 ∨ r.a.length = 1 ∨ r.a.length = 2 ∨ r.a.length = 3 := by omega
 unfold eD
 rcases e with e | e | e | e
 ·have := fin (List.replicate 3 (ah.mk 0 0))
  rw [e] at this ⊢
  exact this
 ·have h0 := nx 0 (List.replicate 3 (ah.mk 0 0)) (by omega) rfl
  have := fin ((List.replicate 3 (ah.mk 0 0)).set 0 (vOf s (r.a.getD 0 default)))
  rw [e] at this ⊢
  exact h0.trans this
 ·have h0 := nx 0 (List.replicate 3 (ah.mk 0 0)) (by omega) rfl
  have h1 := nx 1 ((List.replicate 3 (ah.mk 0 0)).set 0 (vOf s (r.a.getD 0 default))) (by omega) rfl
  have := fin (((List.replicate 3 (ah.mk 0 0)).set 0 (vOf s (r.a.getD 0 default))).set 1 (vOf s (r.a.getD 1 default)))
  rw [e] at this ⊢
  exact h0.trans (h1.trans this)
 ·have h0 := nx 0 (List.replicate 3 (ah.mk 0 0)) (by omega) rfl
  have h1 := nx 1 ((List.replicate 3 (ah.mk 0 0)).set 0 (vOf s (r.a.getD 0 default))) (by omega) rfl
  have h2 := nx 2 (((List.replicate 3 (ah.mk 0 0)).set 0 (vOf s (r.a.getD 0 default))).set 1 (vOf s (r.a.getD 1 default))) (by omega) rfl
  have := fin ((((List.replicate 3 (ah.mk 0 0)).set 0 (vOf s (r.a.getD 0 default))).set 1 (vOf s (r.a.getD 1 default))).set 2 (vOf s (r.a.getD 2 default)))
  rw [e] at this ⊢
  exact h0.trans (h1.trans (h2.trans this))
theorem cZ {s : ae} {r : ab} (ho : inV s r.out_) (h3 : r.a.length ≤ 3) (hin : ∀ x ∈ r.a, inV s x) : az s r = aA s r (eD s r.a) := by
 unfold az
 unfold inV at ho
 rw [iP ho]
 show (bb (fun x : List ah × Int => cR s r x.1 x.2) (List.replicate 3 (ah.mk 0 0), 0)).bind (fun z21 => aA s r z21) = _
 rw [yP h3 hin]
 rfl
def nmd (p : aq) : Bool := p.op == 2 || p.op == 3 || p.op == 8
def ky (a : List Int) (e : List aq) : List Int := (e.foldl (fun l p => if nmd p then l ++ [p.v] else l) a).foldl ins []
theorem wrN (i : Nat) (h : i < 1000000000) : IntKind.wrap .i64 ((i : Int) + 1) = ((i + 1 : Nat) : Int) := wrs i (by omega)
theorem AG (n : Nat) (h : n ≤ 1000000) : dt n 8 := by
 unfold dt
 have : maxLen = 9223372036854775807 := rfl
 omega
theorem yQ (l : List Int) (h : l.length ≤ 1000000) : bJ l = some l := by
 unfold bJ
 by_cases e : l = []
 ·rw [iP e, e]
 ·rw [iN e, iP (AG _ h)]
theorem z8 (l : List Int) (h : l.length ≤ 2000000) : (eZ l).bind (fun y6 => (dP l.length y6).bind fun y7 => some y7) = some (l.foldl ins []) := by
 unfold eZ dP
 rw [iP (by omega)]
 show (if l.length = (nc l).length ∧ (nc l).length ≤ 140737488355328 then some (Go.Lib.compact (nc l)) else none).bind (fun y7 => some y7) = _
 rw [iP ⟨(kF l).symm, by rw [kF]; omega⟩, q8]
 rfl
theorem mO (r : ab) (ha : r.a.length ≤ 500000) (he : r.e.length ≤ 500000) : lh r = some (ky r.a r.e) := by
 unfold lh
 rw [yQ _ (by omega)]
 show (bb (fun (x : List Int × Int) => fT r x.1 x.2) (r.a, 0)).bind (fun z26 => jv z26) = _
 obtain ⟨h1, h2⟩ := tu (A := List Int) (T := aq) (O := List Int) (S := List Int × Int) (fun a i => (a, i)) (body := fun x => fT r x.1 x.2) r.e (fun l p => if nmd p then l ++ [p.v] else l)
  (fun i a => a.length ≤ r.a.length + i) (fun a => a) r.a (by omega)
  (by
   intro i a hi hI
   have step : ∀ b : Bool, b = nmd (r.e.getD i default) → gV r a (i : Int) b = some (.inl ((if nmd (r.e.getD i default) then a ++ [(r.e.getD i default).v] else a), ((i + 1 : Nat) : Int))) := by
    intro b hb
    subst hb
    unfold gV
    rw [wrN i (by omega)]
    cases nmd (r.e.getD i default)
    ·rfl
    ·rw [iP rfl, iP (AG _ (by omega))]; rfl
   refine ⟨?_, ?_⟩
   ·show fT r a (i : Int) = _
    unfold fT
    rw [iP (ltI hi), iP (inI hi)]
    simp only [tN]
    split
    ·rename_i h; exact step _ (by unfold nmd; rw [h]; rfl)
    ·rename_i h
     split
     ·rename_i h'; exact step _ (by unfold nmd; rw [h']; rfl)
     ·rename_i h'; exact step _ (by unfold nmd; rw [nB h, nB h']; rfl)
   ·split
    ·simp; omega
    ·omega)
  (by
   intro a hI
   show fT r a (r.e.length : Int) = _
   unfold fT
   rw [iN (bH _)])
 rw [h1]
 exact z8 _ (by omega)
theorem Aa (l : List Int) (n : Int) : (ins l n).length ≤ l.length + 1 := by
 induction l with
 | nil => simp [ins]
 | cons x l ih =>
  unfold ins
  split
  ·split <;> simp
  ·simp; omega
theorem sZ (l a : List Int) : (l.foldl ins a).length ≤ a.length + l.length := by
 induction l generalizing a with
 | nil => simp
 | cons x l ih => rw [List.foldl_cons]; have := ih (ins a x); have := Aa a x; simp; omega
structure iT (s : ae) (r : ab) : Prop where
 o : inV s r.out_
 a : ∀ x ∈ r.a, inV s x
 u : 14 ≤ r.op → ∀ p ∈ r.e, nF s p
 e : r.e.length ≤ 24
theorem aE {s : ae} (hv : eT s) {x : Int} (h : inV s x) : okE (vOf s x).elem ∧ 0 ≤ (vOf s x).n ∧ (vOf s x).n ≤ 300 := by
 have : s.vars.getD x.toNat default ∈ s.vars := aN (by unfold inV at h; omega)
 exact ⟨hv.e _ this, hv.n _ this⟩
theorem dH (e : Int) : hN e = some (ah.mk e 0) := by unfold hN; rfl
theorem wU {s : ae} {c x : Int} (h : inV s x) : iG x (ax.mk s c) = some (ah.mk (vOf s x).elem 0, decide ((vOf s x).n > 0)) := by
 unfold iG
 unfold inV at h
 rw [iP h, dH]
 rfl
theorem wrd {a b : Int} (ha : 0 ≤ a ∧ a ≤ 300) (hb : 0 ≤ b ∧ b ≤ 300) : IntKind.wrap .i64 (a - b) = a - b ∧ IntKind.wrap .i64 (a + b) = a + b := ⟨wr (by omega) (by omega), wr (by omega) (by omega)⟩
theorem rZ {s : ae} {c : Int} {r : ab} {o : ah} {n : Int} (hv : eT s) (hu : ∀ p ∈ r.e, nF s p) (he : r.e.length ≤ 24) (ho : okE o.elem) (hn : 1 ≤ n ∧ n ≤ 300) :
  dQ r o (ax.mk s c) n = some (jQ s n r.e == o.elem) ∧ lp s r.e n = some (jQ s n r.e) := by
 obtain ⟨⟨q, h1, h2, h3⟩, h4⟩ := tv (c := c) hv hu hn (by omega)
 refine ⟨?_, h4⟩
 unfold dQ
 rw [h1]
 simp only [bSq]
 by_cases hq : q.2 = true
 ·rw [iP hq, (h2 hq).1]
 ·rw [iN hq, h3 (by simpa using hq)]
  congr 1
  symm
  rw [beq_eq_false_iff_ne]
  unfold okE at ho
  omega
theorem Cw {s : ae} {c : Int} {k o n : Int} {e : List aq} (hv : eT s) (h : iT s (ab.mk 1 k o n [] e)) :
  aD (ab.mk 1 k o n [] e) (ax.mk s c) = az s (ab.mk 1 k o n [] e) ∧ az s (ab.mk 1 k o n [] e) ≠ none := by
 have ho : inV s o := h.o
 rw [cZ h.o (by simp) h.a]
 have go := aE hv ho
 unfold inV at ho
 simp only [aD, aT, aS, aR, aA, ho, and_self, bSq, ib, bu, d3, bq, dH, cY, List.length_cons, List.length_nil, List.getD_cons_zero, List.getD_cons_succ, eD, Nat.reduceAdd, Nat.reduceLT, if_true, if_false, reduceCtorEq]
 unfold okE at *
 refine ⟨?_, ?_⟩ <;> grind
theorem Cx {s : ae} {c : Int} {k o n x : Int} {e : List aq} (hv : eT s) (h : iT s (ab.mk 2 k o n [x] e)) :
  aD (ab.mk 2 k o n [x] e) (ax.mk s c) = az s (ab.mk 2 k o n [x] e) ∧ az s (ab.mk 2 k o n [x] e) ≠ none := by
 have ho : inV s o := h.o
 have hx : inV s x := h.a x (by simp)
 rw [cZ h.o (by simp) h.a]
 have go := aE hv ho
 have gx := aE hv hx
 unfold inV at ho hx
 simp only [aD, aT, aS, aR, aA, ho, hx, and_self, bSq, ib, bu, d3, bq, dH, cY, List.length_cons, List.length_nil, List.getD_cons_zero, List.getD_cons_succ, eD, Nat.reduceAdd, Nat.reduceLT, if_true, if_false, reduceCtorEq]
 unfold okE at *
 refine ⟨?_, ?_⟩ <;> grind
theorem Cy {s : ae} {c : Int} {k o n x : Int} {e : List aq} (hv : eT s) (h : iT s (ab.mk 3 k o n [x] e)) :
  aD (ab.mk 3 k o n [x] e) (ax.mk s c) = az s (ab.mk 3 k o n [x] e) ∧ az s (ab.mk 3 k o n [x] e) ≠ none := by
 have ho : inV s o := h.o
 have hx : inV s x := h.a x (by simp)
 rw [cZ h.o (by simp) h.a]
 have go := aE hv ho
 have gx := aE hv hx
 unfold inV at ho hx
 simp only [aD, aT, aS, aR, aA, ho, hx, and_self, bSq, ib, bu, d3, bq, dH, cY, List.length_cons, List.length_nil, List.getD_cons_zero, List.getD_cons_succ, eD, Nat.reduceAdd, Nat.reduceLT, if_true, if_false, reduceCtorEq]
 unfold okE at *
 refine ⟨?_, ?_⟩ <;> grind
theorem Cz {s : ae} {c : Int} {k o n x y : Int} {e : List aq} (hv : eT s) (h : iT s (ab.mk 4 k o n [x, y] e)) :
  aD (ab.mk 4 k o n [x, y] e) (ax.mk s c) = az s (ab.mk 4 k o n [x, y] e) ∧ az s (ab.mk 4 k o n [x, y] e) ≠ none := by
 have ho : inV s o := h.o
 have hx : inV s x := h.a x (by simp)
 have hy : inV s y := h.a y (by simp)
 rw [cZ h.o (by simp) h.a]
 have go := aE hv ho
 have gx := aE hv hx
 have gy := aE hv hy
 have hs := zZ (s := s) (c := c) (l := [x, y]) (by simp) (by simp) h.a
 simp only [List.getD_cons_zero, List.all_cons, List.all_nil, Bool.and_true] at hs
 unfold inV at ho hx hy
 simp only [aD, aT, aS, aR, aA, ho, hx, hy, and_self, bSq, ib, bu, d3, bq, dH, cY, List.length_cons, List.length_nil, List.getD_cons_zero, List.getD_cons_succ, eD, Nat.reduceAdd, Nat.reduceLT, if_true, if_false, reduceCtorEq, hs]
 unfold nG
 unfold okE at *
 refine ⟨?_, ?_⟩ <;> grind
theorem CA {s : ae} {c : Int} {k o n x y z : Int} {e : List aq} (hv : eT s) (h : iT s (ab.mk 5 k o n [x, y, z] e)) :
  aD (ab.mk 5 k o n [x, y, z] e) (ax.mk s c) = az s (ab.mk 5 k o n [x, y, z] e) ∧ az s (ab.mk 5 k o n [x, y, z] e) ≠ none := by
 have ho : inV s o := h.o
 have hx : inV s x := h.a x (by simp)
 have hy : inV s y := h.a y (by simp)
 have hz : inV s z := h.a z (by simp)
 rw [cZ h.o (by simp) h.a]
 have go := aE hv ho
 have gx := aE hv hx
 have gy := aE hv hy
 have gz := aE hv hz
 have hs := u5 (s := s) (c := c) (l := [y, z, o]) (by simp) (by simp) (by intro w hw; simp at hw; rcases hw with rfl | rfl | rfl <;> assumption)
 simp only [List.getD_cons_zero, List.all_cons, List.all_nil, Bool.and_true] at hs
 unfold inV at ho hx hy hz
 simp only [aD, aT, aS, aR, aA, ho, hx, hy, hz, and_self, bSq, ib, bu, d3, bq, dH, cY, List.length_cons, List.length_nil, List.getD_cons_zero, List.getD_cons_succ, eD, Nat.reduceAdd, Nat.reduceLT, if_true, if_false, reduceCtorEq, hs, lit]
 unfold nG
 unfold okE at *
 refine ⟨?_, ?_⟩ <;> grind
theorem CB {s : ae} {c : Int} {k o n x y : Int} {e : List aq} (hv : eT s) (h : iT s (ab.mk 6 k o n [x, y] e)) :
  aD (ab.mk 6 k o n [x, y] e) (ax.mk s c) = az s (ab.mk 6 k o n [x, y] e) ∧ az s (ab.mk 6 k o n [x, y] e) ≠ none := by
 have ho : inV s o := h.o
 have hx : inV s x := h.a x (by simp)
 have hy : inV s y := h.a y (by simp)
 rw [cZ h.o (by simp) h.a]
 have go := aE hv ho
 have gx := aE hv hx
 have gy := aE hv hy
 unfold inV at ho hx hy
 simp only [aD, aT, aS, aR, aA, ho, hx, hy, and_self, bSq, ib, bu, d3, bq, dH, cY, List.length_cons, List.length_nil, List.getD_cons_zero, List.getD_cons_succ, eD, Nat.reduceAdd, Nat.reduceLT, if_true, if_false, reduceCtorEq]
 unfold okE at *
 refine ⟨?_, ?_⟩ <;> grind
theorem CC {s : ae} {c : Int} {k o n x y : Int} {e : List aq} (hv : eT s) (h : iT s (ab.mk 7 k o n [x, y] e)) :
  aD (ab.mk 7 k o n [x, y] e) (ax.mk s c) = az s (ab.mk 7 k o n [x, y] e) ∧ az s (ab.mk 7 k o n [x, y] e) ≠ none := by
 have ho : inV s o := h.o
 have hx : inV s x := h.a x (by simp)
 have hy : inV s y := h.a y (by simp)
 rw [cZ h.o (by simp) h.a]
 have go := aE hv ho
 have gx := aE hv hx
 have gy := aE hv hy
 unfold inV at ho hx hy
 simp only [aD, aT, aS, aR, aA, ho, hx, hy, and_self, bSq, ib, bu, d3, bq, dH, cY, List.length_cons, List.length_nil, List.getD_cons_zero, List.getD_cons_succ, eD, Nat.reduceAdd, Nat.reduceLT, if_true, if_false, reduceCtorEq]
 unfold okE at *
 refine ⟨?_, ?_⟩ <;> grind
theorem CD {s : ae} {c : Int} {k o n x : Int} {e : List aq} (hv : eT s) (h : iT s (ab.mk 8 k o n [x] e)) :
  aD (ab.mk 8 k o n [x] e) (ax.mk s c) = az s (ab.mk 8 k o n [x] e) ∧ az s (ab.mk 8 k o n [x] e) ≠ none := by
 have ho : inV s o := h.o
 have hx : inV s x := h.a x (by simp)
 rw [cZ h.o (by simp) h.a]
 have go := aE hv ho
 have gx := aE hv hx
 unfold inV at ho hx
 simp only [aD, aT, aS, aR, aA, ho, hx, and_self, bSq, ib, bu, d3, bq, dH, cY, List.length_cons, List.length_nil, List.getD_cons_zero, List.getD_cons_succ, eD, Nat.reduceAdd, Nat.reduceLT, if_true, if_false, reduceCtorEq]
 unfold okE at *
 refine ⟨?_, ?_⟩ <;> grind
theorem CE {s : ae} {c : Int} {k o n x y z : Int} {e : List aq} (hv : eT s) (h : iT s (ab.mk 9 k o n [x, y, z] e)) :
  aD (ab.mk 9 k o n [x, y, z] e) (ax.mk s c) = az s (ab.mk 9 k o n [x, y, z] e) ∧ az s (ab.mk 9 k o n [x, y, z] e) ≠ none := by
 have ho : inV s o := h.o
 have hx : inV s x := h.a x (by simp)
 have hy : inV s y := h.a y (by simp)
 have hz : inV s z := h.a z (by simp)
 rw [cZ h.o (by simp) h.a]
 have go := aE hv ho
 have gx := aE hv hx
 have gy := aE hv hy
 have gz := aE hv hz
 have he := wU (c := c) hx
 unfold inV at ho hx hy hz
 simp only [aD, aT, aS, aR, aA, ho, hx, hy, hz, and_self, bSq, ib, bu, d3, bq, dH, cY, List.length_cons, List.length_nil, List.getD_cons_zero, List.getD_cons_succ, eD, Nat.reduceAdd, Nat.reduceLT, if_true, if_false, reduceCtorEq, he]
 unfold okE at *
 refine ⟨?_, ?_⟩ <;> grind
theorem B9 {s : ae} {c : Int} {k o n x y z : Int} {e : List aq} (hv : eT s) (h : iT s (ab.mk 10 k o n [x, y, z] e)) :
  aD (ab.mk 10 k o n [x, y, z] e) (ax.mk s c) = az s (ab.mk 10 k o n [x, y, z] e) ∧ az s (ab.mk 10 k o n [x, y, z] e) ≠ none := by
 have ho : inV s o := h.o
 have hx : inV s x := h.a x (by simp)
 have hy : inV s y := h.a y (by simp)
 have hz : inV s z := h.a z (by simp)
 rw [cZ h.o (by simp) h.a]
 have go := aE hv ho
 have gx := aE hv hx
 have gy := aE hv hy
 have gz := aE hv hz
 have he := wU (c := c) hx
 unfold inV at ho hx hy hz
 simp only [aD, aT, aS, aR, aA, ho, hx, hy, hz, and_self, bSq, ib, bu, d3, bq, dH, cY, List.length_cons, List.length_nil, List.getD_cons_zero, List.getD_cons_succ, eD, Nat.reduceAdd, Nat.reduceLT, if_true, if_false, reduceCtorEq, he]
 unfold okE at *
 refine ⟨?_, ?_⟩ <;> grind
theorem Ca {s : ae} {c : Int} {k o n x : Int} {e : List aq} (hv : eT s) (h : iT s (ab.mk 11 k o n [x] e)) :
  aD (ab.mk 11 k o n [x] e) (ax.mk s c) = az s (ab.mk 11 k o n [x] e) ∧ az s (ab.mk 11 k o n [x] e) ≠ none := by
 have ho : inV s o := h.o
 have hx : inV s x := h.a x (by simp)
 rw [cZ h.o (by simp) h.a]
 have go := aE hv ho
 have gx := aE hv hx
 have hw := (wrd gx.2 go.2).1
 unfold inV at ho hx
 simp only [aD, aT, aS, aR, aA, ho, hx, and_self, bSq, ib, bu, d3, bq, dH, cY, List.length_cons, List.length_nil, List.getD_cons_zero, List.getD_cons_succ, eD, Nat.reduceAdd, Nat.reduceLT, if_true, if_false, reduceCtorEq, hw]
 unfold okE at *
 by_cases hle : (vOf s o).n ≤ (vOf s x).n
 ·refine ⟨?_, ?_⟩ <;> grind
 ·by_cases hn0 : n ≥ 0
  ·have hd : decide (n ≤ (vOf s x).n - (vOf s o).n) = false := by simp; omega
   simp only [hd]
   refine ⟨?_, ?_⟩ <;> grind
  ·refine ⟨?_, ?_⟩ <;> grind
theorem Cb {s : ae} {c : Int} {k o n x y : Int} {e : List aq} (hv : eT s) (h : iT s (ab.mk 12 k o n [x, y] e)) :
  aD (ab.mk 12 k o n [x, y] e) (ax.mk s c) = az s (ab.mk 12 k o n [x, y] e) ∧ az s (ab.mk 12 k o n [x, y] e) ≠ none := by
 have ho : inV s o := h.o
 have hx : inV s x := h.a x (by simp)
 have hy : inV s y := h.a y (by simp)
 rw [cZ h.o (by simp) h.a]
 have go := aE hv ho
 have gx := aE hv hx
 have gy := aE hv hy
 have hw := (wrd gx.2 gy.2).2
 unfold inV at ho hx hy
 simp only [aD, aT, aS, aR, aA, ho, hx, hy, and_self, bSq, ib, bu, d3, bq, dH, cY, List.length_cons, List.length_nil, List.getD_cons_zero, List.getD_cons_succ, eD, Nat.reduceAdd, Nat.reduceLT, if_true, if_false, reduceCtorEq, hw]
 unfold okE at *
 refine ⟨?_, ?_⟩ <;> grind
theorem Cc {s : ae} {c : Int} {k o n x y : Int} {e : List aq} (hv : eT s) (h : iT s (ab.mk 13 k o n [x, y] e)) :
  aD (ab.mk 13 k o n [x, y] e) (ax.mk s c) = az s (ab.mk 13 k o n [x, y] e) ∧ az s (ab.mk 13 k o n [x, y] e) ≠ none := by
 have ho : inV s o := h.o
 have hx : inV s x := h.a x (by simp)
 have hy : inV s y := h.a y (by simp)
 rw [cZ h.o (by simp) h.a]
 have go := aE hv ho
 have gx := aE hv hx
 have gy := aE hv hy
 have hs := u5 (s := s) (c := c) (l := [x, y, o]) (by simp) (by simp) (by intro w hw; simp at hw; rcases hw with rfl | rfl | rfl <;> assumption)
 simp only [List.getD_cons_zero, List.all_cons, List.all_nil, Bool.and_true] at hs
 unfold inV at ho hx hy
 simp only [aD, aT, aS, aR, aA, ho, hx, hy, and_self, bSq, ib, bu, d3, bq, dH, cY, List.length_cons, List.length_nil, List.getD_cons_zero, List.getD_cons_succ, eD, Nat.reduceAdd, Nat.reduceLT, if_true, if_false, reduceCtorEq, hs, lit]
 unfold nG
 unfold okE at *
 refine ⟨?_, ?_⟩ <;> grind
theorem Cd {s : ae} {c : Int} {k o n : Int} {e : List aq} (hv : eT s) (h : iT s (ab.mk 14 k o n [] e)) :
  aD (ab.mk 14 k o n [] e) (ax.mk s c) = az s (ab.mk 14 k o n [] e) ∧ az s (ab.mk 14 k o n [] e) ≠ none := by
 have ho : inV s o := h.o
 rw [cZ h.o (by simp) h.a]
 have go := aE hv ho
 have hc := rZ (c := c) (r := ab.mk 14 k o n [] e) (o := vOf s o) (n := dY (vOf s o).n) hv (h.u (by simp)) h.e go.1 (by unfold dY; split <;> omega)
 unfold inV at ho
 simp only [aD, aT, aS, aR, aA, ho, and_self, bSq, ib, bu, d3, bq, dH, cY, List.length_cons, List.length_nil, List.getD_cons_zero, List.getD_cons_succ, eD, Nat.reduceAdd, Nat.reduceLT, if_true, if_false, reduceCtorEq, gG, cG, bP, Bh]
 simp only [hc.1, hc.2]
 refine ⟨?_, ?_⟩ <;> grind
theorem Ce {s : ae} {c : Int} {k o n x : Int} {e : List aq} (hv : eT s) (h : iT s (ab.mk 15 k o n [x] e)) :
  aD (ab.mk 15 k o n [x] e) (ax.mk s c) = az s (ab.mk 15 k o n [x] e) ∧ az s (ab.mk 15 k o n [x] e) ≠ none := by
 have ho : inV s o := h.o
 have hx : inV s x := h.a x (by simp)
 rw [cZ h.o (by simp) h.a]
 have go := aE hv ho
 have gx := aE hv hx
 have hc := fun (hn : 1 ≤ n ∧ n ≤ 300) => rZ (c := c) (r := ab.mk 15 k o n [x] e) (o := vOf s o) (n := n) hv (h.u (by simp)) h.e go.1 hn
 unfold inV at ho hx
 simp only [aD, aT, aS, aR, aA, ho, hx, and_self, bSq, ib, bu, d3, bq, dH, cY, List.length_cons, List.length_nil, List.getD_cons_zero, List.getD_cons_succ, eD, Nat.reduceAdd, Nat.reduceLT, if_true, if_false, reduceCtorEq, gG, cG, bP, Bh]
 by_cases hn : 1 ≤ n ∧ n ≤ 300
 ·simp only [(hc hn).1, (hc hn).2, bSq]
  unfold okE at *
  refine ⟨?_, ?_⟩ <;> grind
 ·unfold okE at *
  refine ⟨?_, ?_⟩ <;> grind
theorem Cf {s : ae} {c : Int} {k o n x : Int} {e : List aq} (hv : eT s) (h : iT s (ab.mk 16 k o n [x] e)) :
  aD (ab.mk 16 k o n [x] e) (ax.mk s c) = az s (ab.mk 16 k o n [x] e) ∧ az s (ab.mk 16 k o n [x] e) ≠ none := by
 have ho : inV s o := h.o
 have hx : inV s x := h.a x (by simp)
 rw [cZ h.o (by simp) h.a]
 have go := aE hv ho
 have gx := aE hv hx
 have hc := fun (hn : 1 ≤ (vOf s o).n) => rZ (c := c) (r := ab.mk 16 k o n [x] e) (o := vOf s o) (n := (vOf s o).n) hv (h.u (by simp)) h.e go.1 ⟨hn, go.2.2⟩
 unfold inV at ho hx
 simp only [aD, aT, aS, aR, aA, ho, hx, and_self, bSq, ib, bu, d3, bq, dH, cY, List.length_cons, List.length_nil, List.getD_cons_zero, List.getD_cons_succ, eD, Nat.reduceAdd, Nat.reduceLT, if_true, if_false, reduceCtorEq, gG, cG, bP, Bh]
 by_cases hn : 1 ≤ (vOf s o).n
 ·have hcv : dY (vOf s o).n = (vOf s o).n := by unfold dY; rw [iN (by omega)]
  simp only [hcv, (hc hn).1, (hc hn).2, bSq]
  unfold okE at *
  refine ⟨?_, ?_⟩ <;> grind
 ·unfold okE at *
  refine ⟨?_, ?_⟩ <;> grind
theorem s6 (l : List Int) : ∀ (a : List Int) (x : Int), x ∈ l.foldl ins a ↔ x ∈ a ∨ x ∈ l := by
 induction l with
 | nil => intro a x; simp
 | cons y l ih => intro a x; rw [List.foldl_cons, ih, up]; simp; grind
theorem xL (e : List aq) : ∀ (a : List Int) (x : Int), x ∈ e.foldl (fun l p => if nmd p then l ++ [p.v] else l) a ↔ x ∈ a ∨ ∃ p ∈ e, nmd p = true ∧ p.v = x := by
 induction e with
 | nil => intro a x; simp
 | cons p e ih =>
  intro a x
  rw [List.foldl_cons, ih]
  by_cases h : nmd p = true
  ·rw [iP h]; simp; grind
  ·rw [iN h]; simp; grind
theorem lu (a : List Int) (e : List aq) (x : Int) : x ∈ ky a e ↔ x ∈ a ∨ ∃ p ∈ e, nmd p = true ∧ p.v = x := by
 unfold ky
 rw [s6, xL]
 simp
theorem wW (p : aq) : nmd p = true ↔ (p.op = 2 ∨ p.op = 3 ∨ p.op = 8) := by unfold nmd; simp; grind
def dZ (r : ab) : List Int := if r.op < 14 then ky r.a [] else ky r.a r.e
theorem jx {r : ab} {x : Int} (h : x ∈ r.a) : x ∈ dZ r := by
 unfold dZ
 split <;> (rw [lu]; exact .inl h)
theorem Ab {s : ae} {r : ab} (h : ∀ x ∈ dZ r, inV s x) (ho : 14 ≤ r.op) : ∀ p ∈ r.e, nF s p := by
 intro p hp hn
 refine h _ ?_
 unfold dZ
 rw [iN (by omega), lu]
 exact .inr ⟨p, hp, (wW p).2 hn, rfl⟩
def aP (op : Int) : Int := if 1 ≤ op ∧ op ≤ 16 then ([0,0,1,1,2,3,2,2,1,3,3,1,2,2,0,1,1] : List Int).getD op.toNat 0 else -1
noncomputable def kA (s : ae) (mk : List Int) (r : ab) : Int :=
 if ¬ inV s r.out_ then 16
 else if mk.contains r.out_ then 8
 else if aP r.op < 0 ∨ ¬ (r.a.length : Int) = aP r.op then 4
 else if (r.e.length : Int) > 24 then 7
 else if ∃ x ∈ dZ r, ¬ inV s x then 16
 else if az s r = some true then 0 else 10
def bV (s : ae) (i : Nat) : List Int := s.in_ ++ (s.rules.take i).map (fun r => r.out_)
theorem mP (s : ae) {i : Nat} (h : i < s.rules.length) : bV s (i + 1) = bV s i ++ [(s.rules.getD i default).out_] := by
 unfold bV
 rw [cA _ h, List.map_append, List.append_assoc]
 rfl
def cd (s : ae) (l : List Int) : List Bool := (List.range s.vars.length).map (fun (v : Nat) => decide ((v : Int) ∈ l))
theorem gS (s : ae) (l : List Int) : (cd s l).length = s.vars.length := by unfold cd; simp
theorem tx {s : ae} {l : List Int} {v : Int} (h : inV s v) : (cd s l).getD v.toNat default = l.contains v := by
 unfold inV at h
 unfold cd
 have : v.toNat < s.vars.length := by omega
 have e : ((v.toNat : Nat) : Int) = v := by omega
 simp [List.getD, this, e]
theorem n3 {s : ae} {l : List Int} {v : Int} (h : inV s v) : (cd s l).set v.toNat true = cd s (l ++ [v]) := by
 unfold inV at h
 have e : ((v.toNat : Nat) : Int) = v := by omega
 apply List.ext_getElem
 ·simp [gS]
 ·intro i h1 h2
  have hi : i < s.vars.length := by simpa [gS] using h2
  rw [List.getElem_set]
  unfold cd
  simp only [List.getElem_map, List.getElem_range, List.mem_append, List.mem_singleton]
  split
  ·rename_i h3
   subst h3
   rw [e]; simp
  ·rename_i h3
   have : ¬ (i : Int) = v := by omega
   simp [this]
noncomputable def mm (s : ae) (i : Nat) : Option av :=
 let c := kA s (bV s i) (s.rules.getD i default)
 if c = 0 then none else some (av.mk c (i : Int))
noncomputable def nd (s : ae) (i : Nat) : Option av :=
 if ∃ x ∈ dZ (s.rules.getD i default), ¬ x ∈ bV s s.rules.length then some (av.mk 9 (i : Int)) else none
def ur (s : ae) (i : Nat) : Option av :=
 if s.out_.getD i default ∈ bV s s.rules.length then none else some (av.mk 9 (-1))
noncomputable def eo (s : ae) : av :=
 if ¬ (ml s).code = 0 then ml s
 else match eC s.rules.length (mm s) () with
  | .inr z => z
  | .inl _ => match eC s.rules.length (nd s) () with
   | .inr z => z
   | .inl _ => match eC s.out_.length (ur s) () with
    | .inr z => z
    | .inl _ => av.mk 0 0
theorem yR {s : ae} {c : Int} {r : ab} (hv : eT s) (h : iT s r) (hp : ¬ aP r.op < 0) (hl : (r.a.length : Int) = aP r.op) :
  aD r (ax.mk s c) = az s r ∧ az s r ≠ none := by
 obtain ⟨op, k, o, n, a, e⟩ := r
 simp only at hp hl
 have hop : 1 ≤ op ∧ op ≤ 16 := by
  by_cases hc : 1 ≤ op ∧ op ≤ 16
  ·exact hc
  ·unfold aP at hp; rw [iN hc] at hp; omega
 have hcs : op = 1 ∨ op = 2 ∨ op = 3 ∨ op = 4 ∨ op = 5 ∨ op = 6 ∨ op = 7 ∨ op = 8 ∨ op = 9 ∨ op = 10 ∨ op = 11 ∨ op = 12 ∨ op = 13 ∨ op = 14 ∨ op = 15 ∨ op = 16 := by omega
 rcases hcs with rfl | rfl | rfl | rfl | rfl | rfl | rfl | rfl | rfl | rfl | rfl | rfl | rfl | rfl | rfl | rfl
 ·have hl' : a.length = 0 := by simpa [aP] using hl
  match a, hl' with | [], _ => exact Cw hv h
 ·have hl' : a.length = 1 := by simp [aP] at hl; omega
  match a, hl' with | [x], _ => exact Cx hv h
 ·have hl' : a.length = 1 := by simp [aP] at hl; omega
  match a, hl' with | [x], _ => exact Cy hv h
 ·have hl' : a.length = 2 := by simp [aP] at hl; omega
  match a, hl' with | [x, y], _ => exact Cz hv h
 ·have hl' : a.length = 3 := by simp [aP] at hl; omega
  match a, hl' with | [x, y, z], _ => exact CA hv h
 ·have hl' : a.length = 2 := by simp [aP] at hl; omega
  match a, hl' with | [x, y], _ => exact CB hv h
 ·have hl' : a.length = 2 := by simp [aP] at hl; omega
  match a, hl' with | [x, y], _ => exact CC hv h
 ·have hl' : a.length = 1 := by simp [aP] at hl; omega
  match a, hl' with | [x], _ => exact CD hv h
 ·have hl' : a.length = 3 := by simp [aP] at hl; omega
  match a, hl' with | [x, y, z], _ => exact CE hv h
 ·have hl' : a.length = 3 := by simp [aP] at hl; omega
  match a, hl' with | [x, y, z], _ => exact B9 hv h
 ·have hl' : a.length = 1 := by simp [aP] at hl; omega
  match a, hl' with | [x], _ => exact Ca hv h
 ·have hl' : a.length = 2 := by simp [aP] at hl; omega
  match a, hl' with | [x, y], _ => exact Cb hv h
 ·have hl' : a.length = 2 := by simp [aP] at hl; omega
  match a, hl' with | [x, y], _ => exact Cc hv h
 ·have hl' : a.length = 0 := by simpa [aP] using hl
  match a, hl' with | [], _ => exact Cd hv h
 ·have hl' : a.length = 1 := by simp [aP] at hl; omega
  match a, hl' with | [x], _ => exact Ce hv h
 ·have hl' : a.length = 1 := by simp [aP] at hl; omega
  match a, hl' with | [x], _ => exact Cf hv h
theorem qv (op : Int) : aP op ≤ 3 := by
 unfold aP
 split
 ·rename_i h
  have hcs : op = 1 ∨ op = 2 ∨ op = 3 ∨ op = 4 ∨ op = 5 ∨ op = 6 ∨ op = 7 ∨ op = 8 ∨ op = 9 ∨ op = 10 ∨ op = 11 ∨ op = 12 ∨ op = 13 ∨ op = 14 ∨ op = 15 ∨ op = 16 := by omega
  rcases hcs with rfl | rfl | rfl | rfl | rfl | rfl | rfl | rfl | rfl | rfl | rfl | rfl | rfl | rfl | rfl | rfl <;> decide
 ·decide
theorem va (op : Int) : kM op = some (aP op) := by
 unfold kM aP
 by_cases h : 1 ≤ op ∧ op ≤ 16
 ·rw [iN (by omega), iN (by omega), iP (by omega), iP h]; rfl
 ·rw [iN h]
  by_cases h1 : op < 1
  ·rw [iP h1]
  ·rw [iN h1, iP (by omega)]
theorem Ac (b : Bool) (c k : Int) (s : ae) : bD b c (ax.mk s k) = some (if b = true ∧ k = 0 then c else k) := by
 unfold bD
 cases b
 ·simp
 ·by_cases h : k = 0 <;> simp [h]
theorem sc (b : Bool) (c : Int) (s : ae) : bD b c (ax.mk s 0) = some (if b = true then c else 0) := by
 unfold bD
 cases b <;> rfl
theorem se {b : Bool} {c k : Int} {s : ae} (h : k ≠ 0) : bD b c (ax.mk s k) = some k := by
 unfold bD
 cases b
 ·rfl
 ·simp [h]
theorem wa {s : ae} {r : ab} {c x : Int} (h : x ≠ 0) : dh r (ax.mk s c) x = some (x, x) := by
 unfold dh
 rw [se h]
 simp only [bSq]
 rw [iP h]
theorem yS {s : ae} {r : ab} {c x : Int} (h : x ≠ 0) : di r (ax.mk s c) x = some (x, x) := by
 unfold di
 rw [va]
 simp only [bSq, se h]
 rw [wa h]
 split <;> rfl
theorem wb (s : ae) (l : List Int) : ∀ a : Int, l.foldl (fun a x => if ¬ inV s x ∧ a = 0 then 16 else a) a = if (∃ x ∈ l, ¬ inV s x) ∧ a = 0 then 16 else a := by
 induction l with
 | nil => intro a; simp
 | cons y l ih =>
  intro a
  rw [List.foldl_cons, ih]
  by_cases ha : a = 0
  ·subst ha
   by_cases hy : inV s y
   ·simp [hy]
   ·simp [hy]
  ·simp [ha]
theorem wc {s : ae} {c : Int} {l : List Int} (hl : l.length ≤ 1000) :
  bb (fun (x : Int × Int) => ce (ax.mk s c) l x.1 x.2) (0, 0) = some (if ∃ x ∈ l, ¬ inV s x then 16 else 0) := by
 obtain ⟨h1, _⟩ := tu (A := Int) (T := Int) (O := Int) (S := Int × Int) (fun a i => (a, i)) (body := fun x => ce (ax.mk s c) l x.1 x.2) l (fun a x => if ¬ inV s x ∧ a = 0 then 16 else a)
  (fun _ _ => True) (fun a => a) 0 trivial
  (by
   intro i a hi _
   refine ⟨?_, trivial⟩
   show ce (ax.mk s c) l a (i : Int) = _
   unfold ce
   rw [iP (ltI hi), iP (inI hi)]
   simp only [tN]
   rw [um]
   simp only [bSq, Ac]
   rw [wrs i (by omega)]
   have : ((!decide (0 ≤ l.getD i default ∧ l.getD i default < (s.vars.length : Int))) = true ∧ a = 0) ↔ (¬ inV s (l.getD i default) ∧ a = 0) := by unfold inV; simp; omega
   simp only [this])
  (by
   intro a _
   show ce (ax.mk s c) l a (l.length : Int) = _
   unfold ce
   rw [iN (bH _)])
 rw [wb] at h1
 rw [h1]
 simp
theorem mQ (a : List Int) (e : List aq) : (ky a e).length ≤ a.length + e.length := by
 have k : ∀ (e : List aq) (a : List Int), (e.foldl (fun l p => if nmd p then l ++ [p.v] else l) a).length ≤ a.length + e.length := by
  intro e
  induction e with
  | nil => intro a; simp
  | cons p e ih =>
   intro a
   rw [List.foldl_cons]
   have := ih (if nmd p then a ++ [p.v] else a)
   have h2 : (if nmd p then a ++ [p.v] else a).length ≤ a.length + 1 := by split <;> simp
   simp only [List.length_cons]
   omega
 unfold ky
 have := sZ (e.foldl (fun l p => if nmd p then l ++ [p.v] else l) a) []
 have := k e a
 simp at *
 omega
theorem vc {s : ae} {r : ab} (h1 : inV s r.out_) (h2 : ¬ (r.e.length : Int) > 24) (h3 : ¬ ∃ x ∈ dZ r, ¬ inV s x) : iT s r := by
 have h4 : ∀ x ∈ dZ r, inV s x := fun x hx => Classical.byContradiction (fun hc => h3 ⟨x, hx, hc⟩)
 exact ⟨h1, fun x hx => h4 x (jx hx), fun ho => Ab h4 ho, by omega⟩
theorem Ad {s : ae} {c : Int} {r : ab} {l : List Int} (hv : eT s) : iI r (ax.mk s c) (cd s l) = some (kA s l r, kA s l r) := by
 unfold iI kA
 rw [um]
 simp only [bSq, sc]
 by_cases h1 : inV s r.out_
 ·have h1' : 0 ≤ r.out_ ∧ r.out_ < (s.vars.length : Int) := h1
  simp only [h1', and_self, decide_true, Bool.not_true, Bool.false_eq_true, if_false, if_true, gS, tx h1, not_true_eq_false, h1]
  rw [sc]
  simp only [bSq]
  by_cases h2 : l.contains r.out_ = true
  ·rw [iP h2, iP h2, yS (by decide)]
  ·rw [iN h2, iN h2]
   unfold di
   rw [va]
   simp only [bSq, sc]
   by_cases h3 : aP r.op < 0
   ·rw [iP h3, iP trivial, iP (.inl h3), wa (by decide)]
   ·rw [iN h3]
    by_cases h4 : (r.a.length : Int) = aP r.op
    ·rw [iN (by simpa using h4), iN (fun hc => hc.elim h3 (fun h => h h4))]
     unfold dh
     rw [sc]
     simp only [bSq]
     by_cases h5 : (r.e.length : Int) > 24
     ·have e5 : decide ((r.e.length : Int) > 24) = true := by simpa using h5
      simp only [e5, if_true]
      rw [iP (by decide), iP h5]
     ·have e5 : decide ((r.e.length : Int) > 24) = false := by simpa using h5
      simp only [e5, Bool.false_eq_true, if_false, not_true_eq_false]
      rw [iN h5]
      have hle := qv r.op
      have hj : ∀ l' : List Int, (∀ x, x ∈ l' ↔ x ∈ dZ r) → l'.length ≤ 1000 → dR r (ax.mk s c) 0 l' =
        some (if ∃ x ∈ dZ r, ¬ inV s x then 16 else if az s r = some true then 0 else 10, if ∃ x ∈ dZ r, ¬ inV s x then 16 else if az s r = some true then 0 else 10) := by
       intro l' hm hl
       unfold dR
       show (bb (fun (x : Int × Int) => ce (ax.mk s c) l' x.1 x.2) (0, 0)).bind _ = _
       rw [wc hl]
       simp only [bSq, hm]
       unfold eI
       by_cases h6 : ∃ x ∈ dZ r, ¬ inV s x
       ·simp only [iP h6]
        rw [iN (by decide)]
       ·simp only [iN h6]
        rw [iP trivial]
        obtain ⟨f1, f2⟩ := yR (c := 0) hv (vc h1 h5 h6) h3 h4
        simp only [sc]
        rw [f1]
        cases hf : az s r with
        | none => exact absurd hf f2
        | some b => cases b <;> simp
      by_cases h7 : r.op ≥ 14
      ·rw [iP h7, mO _ (by omega) (by omega)]
       simp only [bSq]
       have hu : dZ r = ky r.a r.e := by unfold dZ; rw [iN (by omega)]
       have := mQ r.a r.e
       exact hj _ (fun x => by rw [hu]) (by omega)
      ·rw [iN h7]
       have hu : dZ r = ky r.a [] := by unfold dZ; rw [iP (by omega)]
       exact hj _ (fun x => by rw [hu, lu]; simp) (by omega)
    ·rw [iP (by simpa using h4), iP (.inr h4), wa (by decide)]
 ·have h1' : ¬ (0 ≤ r.out_ ∧ r.out_ < (s.vars.length : Int)) := h1
  simp only [h1', decide_false, Bool.not_false, if_true, h1, not_false_eq_true]
  rw [iN (by decide), se (by decide)]
  simp only [bSq]
  rw [yS (by decide)]
theorem yT {T Z : Type} (l : List Int) (p : Int → Prop) [DecidablePred p] (z : Z) (t : T) :
  eC l.length (fun k => if p (l.getD k default) then none else some z) t = if ∃ x ∈ l, ¬ p x then .inr z else .inl t := by
 rcases dd l.length (fun k => if p (l.getD k default) then none else some z) t with ⟨e, h⟩ | ⟨j, z', hj, hf, e⟩
 ·rw [e, iN]
  rintro ⟨x, hx, hp⟩
  obtain ⟨i, hi, rfl⟩ := List.mem_iff_getElem.1 hx
  have := h i hi
  have e2 : l.getD i default = l[i] := by simp [List.getD, hi]
  simp only [e2, iN hp] at this
  cases this
 ·rw [e, iP]
  ·split at hf
   ·cases hf
   ·simp only [sJ] at hf; rw [hf]
  ·split at hf
   ·cases hf
   ·rename_i hp; exact ⟨_, aN hj, hp⟩
structure pP (s : ae) : Prop where
 v : eT s
 nv : s.vars.length ≤ 400
 nr : s.rules.length ≤ 400
 ni : s.in_.length ≤ 400
 no : s.out_.length ≤ 400
 i : ∀ x ∈ s.in_, inV s x
 o : ∀ x ∈ s.out_, inV s x
theorem tz {s : ae} (h : (ml s).code = 0) : pP s := by
 unfold ml at h
 split at h
 ·cases h
 ·rename_i hl
  rcases dd s.vars.length (un s) () with ⟨e1, h1⟩ | ⟨j, z, hj, hf, e⟩
  ·rw [e1] at h
   rcases dd s.in_.length (inF s) () with ⟨e2, h2⟩ | ⟨j, z, hj, hf, e⟩
   ·simp only [e2] at h
    rcases dd s.out_.length (sY s) () with ⟨e3, h3⟩ | ⟨j, z, hj, hf, e⟩
    ·refine ⟨⟨fun v hv => ?_, fun v hv => ?_⟩, by omega, by omega, by omega, by omega, fun x hx => ?_, fun x hx => ?_⟩
     ·obtain ⟨i, hi, rfl⟩ := List.mem_iff_getElem.1 hv
      have := h1 i hi
      have e2 : s.vars.getD i default = s.vars[i] := by simp [List.getD, hi]
      unfold un yK at this
      rw [e2] at this
      split at this
      ·cases this
      ·unfold okE; omega
     ·obtain ⟨i, hi, rfl⟩ := List.mem_iff_getElem.1 hv
      have := h1 i hi
      have e2 : s.vars.getD i default = s.vars[i] := by simp [List.getD, hi]
      unfold un yK at this
      rw [e2] at this
      split at this
      ·cases this
      ·split at this
       ·cases this
       ·omega
     ·obtain ⟨i, hi, rfl⟩ := List.mem_iff_getElem.1 hx
      have := h2 i hi
      have e2 : s.in_.getD i default = s.in_[i] := by simp [List.getD, hi]
      unfold inF at this
      rw [e2] at this
      by_cases hh : inV s s.in_[i]
      ·exact hh
      ·rw [iP hh] at this; cases this
     ·obtain ⟨i, hi, rfl⟩ := List.mem_iff_getElem.1 hx
      have := h3 i hi
      have e2 : s.out_.getD i default = s.out_[i] := by simp [List.getD, hi]
      unfold sY at this
      rw [e2] at this
      by_cases hh : inV s s.out_[i]
      ·exact hh
      ·rw [iP hh] at this; cases this
    ·simp only [e] at h
     unfold sY at hf
     split at hf
     ·simp only [sJ] at hf; subst hf; cases h
     ·cases hf
   ·simp only [e] at h
    unfold inF at hf
    split at hf
    ·simp only [sJ] at hf; subst hf; cases h
    ·split at hf
     ·simp only [sJ] at hf; subst hf; cases h
     ·cases hf
  ·simp only [e] at h
   unfold un yK at hf
   split at hf
   ·simp only [sJ] at hf; subst hf; cases h
   ·split at hf
    ·simp only [sJ] at hf; subst hf; cases h
    ·cases hf
theorem mR {s : ae} {l : List Int} {r : ab} (h : kA s l r = 0) : iT s r ∧ (∀ x ∈ dZ r, inV s x) ∧ r.a.length ≤ 3 ∧ ¬ l.contains r.out_ = true ∧ ¬ aP r.op < 0 ∧ (r.a.length : Int) = aP r.op ∧ az s r = some true := by
 unfold kA at h
 by_cases h1 : inV s r.out_
 ·rw [iN (by simpa using h1)] at h
  by_cases h2 : l.contains r.out_ = true
  ·rw [iP h2] at h; cases h
  ·rw [iN h2] at h
   by_cases h3 : aP r.op < 0 ∨ ¬ (r.a.length : Int) = aP r.op
   ·rw [iP h3] at h; cases h
   ·rw [iN h3] at h
    by_cases h5 : (r.e.length : Int) > 24
    ·rw [iP h5] at h; cases h
    ·rw [iN h5] at h
     by_cases h6 : ∃ x ∈ dZ r, ¬ inV s x
     ·rw [iP h6] at h; cases h
     ·rw [iN h6] at h
      have hle := qv r.op
      refine ⟨vc h1 h5 h6, fun x hx => Classical.byContradiction (fun hc => h6 ⟨x, hx, hc⟩), by omega, h2, fun hc => h3 (.inl hc), Classical.byContradiction (fun hc => h3 (.inr hc)), ?_⟩
      by_cases h7 : az s r = some true
      ·exact h7
      ·rw [iN h7] at h; cases h
 ·rw [iP h1] at h; cases h
theorem kQ {s : ae} {l : List Int} {v : Int} (h : inV s v) : (cd s l).getD v.toNat default = true ↔ v ∈ l := by rw [tx h]; simp
theorem tA (s : ae) : List.replicate s.vars.length false = cd s [] := by
 apply List.ext_getElem
 ·simp [gS]
 ·intro i h1 h2; simp [cd]
theorem Ae {s : ae} (g : pP s) : bb (fun (x : List Bool × Int) => ew s x.1 x.2) (cd s [], 0) = some (cd s s.in_) := by
 have := gR (S := List Bool × Int) (T := List Bool) (fun i => (cd s (s.in_.take i), (i : Int))) (body := fun x => ew s x.1 x.2) s.in_.length (cd s s.in_)
  (by
   intro i hi
   show ew s (cd s (s.in_.take i)) (i : Int) = _
   have gi := g.i _ (aN hi)
   have gi' := gi
   unfold inV at gi'
   unfold ew
   rw [iP (ltI hi), iP (inI hi)]
   simp only [tN]
   rw [gS, iP gi', n3 gi, wrs i (by have := g.ni; omega), cA _ hi])
  (by
   show ew s (cd s (s.in_.take s.in_.length)) (s.in_.length : Int) = _
   unfold ew
   rw [iN (bH _), List.take_length])
 exact this
theorem we {s : ae} (g : pP s) : bb (fun (x : Int × List Bool × Int) => eu s x.1 x.2.1 x.2.2) (0, cd s s.in_, 0) = some (eC s.rules.length (mm s) (0, cd s (bV s s.rules.length))) := by
 have e0 : bV s 0 = s.in_ := by simp [bV]
 have := wV (S := Int × List Bool × Int) (T := Int × List Bool) (Z := av) (fun i => (0, cd s (bV s i), (i : Int))) (body := fun x => eu s x.1 x.2.1 x.2.2) s.rules.length (mm s) (0, cd s (bV s s.rules.length))
  (by
   intro i hi
   show eu s 0 (cd s (bV s i)) (i : Int) = _
   unfold eu
   rw [iP (ltI hi), iP (inI hi)]
   simp only [tN]
   rw [Ad g.v]
   simp only [bSq]
   unfold mm
   by_cases h : kA s (bV s i) (s.rules.getD i default) = 0
   ·obtain ⟨gr, _⟩ := mR h
    have go := gr.o
    have go' := go
    unfold inV at go'
    simp only [h, not_true_eq_false, if_false, if_true]
    rw [gS, iP go', n3 go, wrs i (by have := g.nr; omega), mP s hi]
   ·simp only [h, not_false_eq_true, if_true, if_false])
  (by
   show eu s 0 (cd s (bV s s.rules.length)) (s.rules.length : Int) = _
   unfold eu
   rw [iN (bH _)])
 rw [e0] at this
 exact this
theorem xM {s : ae} (g : pP s) (hr : ∀ i, i < s.rules.length → mm s i = none) :
  bb (fun x => i5 s (cd s (bV s s.rules.length)) x) 0 = some (eC s.rules.length (nd s) ()) := by
 refine eR s.rules.length (nd s) () (fun i hi => ?_) ?_
 ·have h0 := hr i hi
  unfold mm at h0
  have h0' : kA s (bV s i) (s.rules.getD i default) = 0 := by
   by_cases h : kA s (bV s i) (s.rules.getD i default) = 0
   ·exact h
   ·simp only [iN h] at h0; cases h0
  obtain ⟨gr, hu, ha, _⟩ := mR h0'
  have he := gr.e
  unfold i5
  rw [iP (ltI hi), iP (inI hi)]
  simp only [tN]
  generalize hR : s.rules.getD i default = r at *
  have hj : ∀ l : List Int, (∀ x, x ∈ l ↔ x ∈ dZ r) → l.length ≤ 1000 → hQ (cd s (bV s s.rules.length)) (i : Int) l = some (match nd s i with | some z => .inr (.inr z) | none => .inl ((i + 1 : Nat) : Int)) := by
   intro l hm hl
   unfold hQ
   rw [eR l.length (fun k => if l.getD k default ∈ bV s s.rules.length then none else some (av.mk 9 (i : Int))) () (fun k hk => by
    have gk := hu _ ((hm _).1 (aN hk))
    have gk' := gk
    unfold inV at gk'
    unfold jM
    rw [iP (ltI hk), iP (inI hk)]
    simp only [tN]
    rw [gS, iP gk', wrs k (by omega)]
    by_cases hc : l.getD k default ∈ bV s s.rules.length
    ·rw [iP ((kQ gk).2 hc), iP hc]
    ·rw [iN (fun h => hc ((kQ gk).1 h)), iN hc]) (by unfold jM; rw [iN (bH _)])]
   rw [yT l (fun x => x ∈ bV s s.rules.length)]
   unfold nd
   rw [hR]
   simp only [hm]
   by_cases h9 : ∃ x ∈ dZ r, ¬ x ∈ bV s s.rules.length
   ·simp only [iP h9]; rfl
   ·simp only [iN h9, bSq, Sum.elim_inl]
    unfold i4
    rw [wrs i (by have := g.nr; omega)]
  by_cases h7 : r.op ≥ 14
  ·rw [iP h7, mO _ (by omega) (by omega)]
   simp only [bSq]
   have hu' : dZ r = ky r.a r.e := by unfold dZ; rw [iN (by omega)]
   have := mQ r.a r.e
   rw [hj (ky r.a r.e) (fun x => by rw [hu']) (by omega)]
   cases nd s i <;> rfl
  ·rw [iN h7]
   have hu' : dZ r = ky r.a [] := by unfold dZ; rw [iP (by omega)]
   rw [hj r.a (fun x => by rw [hu', lu]; simp) (by omega)]
   cases nd s i <;> rfl
 ·unfold i5; rw [iN (bH _)]
theorem yU {s : ae} (g : pP s) : bb (fun x => i1 s (cd s (bV s s.rules.length)) x) 0 = some (eC s.out_.length (ur s) ()) := by
 refine eR s.out_.length (ur s) () (fun i hi => ?_) ?_
 ·have gk := g.o _ (aN hi)
  have gk' := gk
  unfold inV at gk'
  unfold i1 ur
  rw [iP (ltI hi), iP (inI hi)]
  simp only [tN]
  rw [gS, iP gk', wrs i (by have := g.no; omega)]
  by_cases hc : s.out_.getD i default ∈ bV s s.rules.length
  ·rw [iP ((kQ gk).2 hc), iP hc]
  ·rw [iN (fun h => hc ((kQ gk).1 h)), iN hc]
 ·unfold i1; rw [iN (bH _)]
theorem vd (s : ae) : mb s = some (eo s) := by
 unfold mb eo
 rw [vZ]
 simp only [bSq]
 by_cases h : (ml s).code = 0
 ·have g := tz h
  simp only [h, not_true_eq_false, if_false]
  rw [iP ⟨by omega, rW _ (by have := g.nv; omega)⟩]
  rw [tA]
  show (bb (fun (x : List Bool × Int) => ew s x.1 x.2) (cd s [], 0)).bind (fun z46 => hY s z46) = _
  rw [Ae g]
  simp only [bSq]
  unfold hY
  show (bb (fun (x : Int × List Bool × Int) => eu s x.1 x.2.1 x.2.2) (0, cd s s.in_, 0)).bind (Sum.elim (fun z => hU s z.1 z.2) (fun z36 => some z36)) = _
  rw [we g]
  simp only [bSq]
  rcases dd s.rules.length (mm s) ((0 : Int), cd s (bV s s.rules.length)) with ⟨e, h1⟩ | ⟨j, z, hj, hf, e⟩
  ·rw [e, mj h1]
   simp only [Sum.elim_inl]
   unfold hU
   rw [xM g h1]
   simp only [bSq]
   cases eC s.rules.length (nd s) () with
   | inr z => rfl
   | inl u =>
    simp only [Sum.elim_inl]
    unfold i2
    rw [yU g]
    simp only [bSq]
    cases eC s.out_.length (ur s) () <;> rfl
  ·rw [e]
   rcases dd s.rules.length (mm s) () with ⟨e', h1⟩ | ⟨j', z', hj', hf', e'⟩
   ·rw [h1 j hj] at hf; cases hf
   ·have : z = z' := by
     unfold eC at e e'
     cases hq : (List.range s.rules.length).findSome? (mm s) with
     | none => rw [hq] at e; cases e
     | some q => rw [hq] at e e'; simp at e e'; rw [← e, ← e']
    rw [e', this]; rfl
 ·simp only [h, not_false_eq_true, if_true]
def tB (s : ae) (i : Nat) : List Int := (s.rules.take i).map (fun r => r.out_)
theorem wg (s : ae) (i : Nat) : bV s i = s.in_ ++ tB s i := rfl
theorem xN (r : ab) : (dZ r).length ≤ r.a.length + r.e.length := by
 unfold dZ
 split
 ·have := mQ r.a []; simp at this; omega
 ·exact mQ _ _
structure ff (s : ae) : Prop where
 h : pP s
 r : ∀ i, i < s.rules.length → kA s (bV s i) (s.rules.getD i default) = 0
 u : ∀ i, i < s.rules.length → ∀ x ∈ dZ (s.rules.getD i default), x ∈ bV s s.rules.length
 o : ∀ x ∈ s.out_, x ∈ bV s s.rules.length
theorem j8 {s : ae} (h : (eo s).code = 0) : ff s ∧ eo s = av.mk 0 0 := by
 unfold eo at h ⊢
 by_cases h0 : (ml s).code = 0
 ·simp only [h0, not_true_eq_false, if_false] at h ⊢
  have g := tz h0
  rcases dd s.rules.length (mm s) () with ⟨e1, h1⟩ | ⟨j, z, hj, hf, e⟩
  ·simp only [e1] at h ⊢
   rcases dd s.rules.length (nd s) () with ⟨e2, h2⟩ | ⟨j, z, hj, hf, e⟩
   ·simp only [e2] at h ⊢
    rcases dd s.out_.length (ur s) () with ⟨e3, h3⟩ | ⟨j, z, hj, hf, e⟩
    ·simp only [e3]
     refine ⟨⟨g, fun i hi => ?_, fun i hi x hx => ?_, fun x hx => ?_⟩, trivial⟩
     ·have := h1 i hi
      unfold mm at this
      by_cases hc : kA s (bV s i) (s.rules.getD i default) = 0
      ·exact hc
      ·simp only [iN hc] at this; cases this
     ·have := h2 i hi
      unfold nd at this
      refine Classical.byContradiction fun hc => ?_
      rw [iP ⟨x, hx, hc⟩] at this
      cases this
     ·obtain ⟨i, hi, rfl⟩ := List.mem_iff_getElem.1 hx
      have := h3 i hi
      unfold ur at this
      have e2 : s.out_.getD i default = s.out_[i] := by simp [List.getD, hi]
      rw [e2] at this
      refine Classical.byContradiction fun hc => ?_
      rw [iN hc] at this
      cases this
    ·simp only [e] at h
     unfold ur at hf
     split at hf
     ·cases hf
     ·simp only [sJ] at hf; subst hf; cases h
   ·simp only [e] at h
    unfold nd at hf
    split at hf
    ·simp only [sJ] at hf; subst hf; cases h
    ·cases hf
  ·simp only [e] at h
   unfold mm at hf
   by_cases hc : kA s (bV s j) (s.rules.getD j default) = 0
   ·simp only [iP hc] at hf; cases hf
   ·simp only [iN hc, sJ] at hf; subst hf; exact absurd h hc
 ·simp only [h0, not_false_eq_true, if_true] at h
def eE (r : ab) : List Int := if r.op = 13 ∧ (r.a.length : Int) = 2 then [r.a.getD 0 default] else dZ r
theorem sf {r : ab} {x : Int} (h : x ∈ eE r) : x ∈ dZ r := by
 unfold eE at h
 split at h
 ·rename_i hc
  simp only [List.mem_singleton] at h
  subst h
  exact jx (aN (by omega))
 ·exact h
theorem wh (r : ab) : (eE r).length ≤ r.a.length + r.e.length := by
 unfold eE
 split
 ·simp; omega
 ·exact xN r
theorem yV (r : ab) (ha : r.a.length ≤ 100000) (he : r.e.length ≤ 100000) : kh r = some (eE r) := by
 have j1 : fq r = some (dZ r) := by
  unfold fq dZ
  by_cases h : r.op < 14
  ·rw [iP h, iP h]
   unfold fp
   rw [mO _ (by simp only; omega) (by simp)]
   rfl
  ·rw [iN h, iN h]
   unfold fp
   rw [mO _ (by simp only; omega) (by simp only; omega)]
   rfl
 unfold kh eE
 by_cases h1 : r.op = 13
 ·rw [iP h1]
  by_cases h2 : (r.a.length : Int) = 2
  ·rw [iP h2, iP (by omega), iP ⟨h1, h2⟩]; rfl
  ·rw [iN h2, iN (fun h => h2 h.2), j1]
 ·rw [iN h1, iN (fun h => h1 h.1), j1]
def mS (l : List Int) (r : ab) : Prop := ∀ x ∈ eE r, x ∈ l
instance (l : List Int) (r : ab) : Decidable (mS l r) := inferInstanceAs (Decidable (∀ x ∈ eE r, x ∈ l))
theorem yW {s : ae} {l : List Int} {r : ab} {a : List ah} {b c : List Int} {d : List ab} (hu : ∀ x ∈ eE r, inV s x) (ha : r.a.length ≤ 1000) (he : r.e.length ≤ 1000) :
  ft r a b c d (cd s l) = some (decide (mS l r)) := by
 unfold ft
 rw [yV r (by omega) (by omega)]
 simp only [bSq]
 unfold dJ dU
 have hn := wh r
 rw [eR (eE r).length (fun k => if (eE r).getD k default ∈ l then none else some (k : Int)) () (fun k hk => by
  have gk := hu _ (aN hk)
  have gk' := gk
  unfold inV at gk'
  unfold cj fW
  rw [iP (ltI hk), iP (inI hk)]
  simp only [tN]
  rw [gS, iP gk', wrs k (by omega)]
  simp only [bSq]
  by_cases hc : (eE r).getD k default ∈ l
  ·rw [(kQ gk).2 hc, iP hc]; rfl
  ·have : (cd s l).getD ((eE r).getD k default).toNat default = false := by
    cases hh : (cd s l).getD ((eE r).getD k default).toNat default
    ·rfl
    ·exact absurd ((kQ gk).1 hh) hc
   rw [this, iN hc]; rfl) (by unfold cj; rw [iN (bH _)])]
 rcases dd (eE r).length (fun k => if (eE r).getD k default ∈ l then none else some (k : Int)) () with ⟨e, h⟩ | ⟨j, z, hj, hf, e⟩
 ·rw [e]
  have : mS l r := by
   intro x hx
   obtain ⟨i, hi, rfl⟩ := List.mem_iff_getElem.1 hx
   have := h i hi
   have e2 : (eE r).getD i default = (eE r)[i] := by simp [List.getD, hi]
   rw [e2] at this
   refine Classical.byContradiction fun hc => ?_
   rw [iN hc] at this; cases this
  simp only [this, decide_true]
  rfl
 ·rw [e]
  split at hf
  ·cases hf
  ·rename_i hc
   simp only [sJ] at hf
   have : ¬ mS l r := fun h => hc (h _ (aN hj))
   simp only [this, decide_false, ← hf]
   simp only [bSq, Sum.elim_inr]
   simp
def f9 (s : ae) : Prop := ∀ i, i < s.rules.length → mS (bV s i) (s.rules.getD i default)
instance (s : ae) : Decidable (f9 s) := inferInstanceAs (Decidable (∀ i, i < s.rules.length → mS (bV s i) (s.rules.getD i default)))
theorem ff.rule {s : ae} (g : ff s) {i : Nat} (hi : i < s.rules.length) : iT s (s.rules.getD i default) ∧ (∀ x ∈ dZ (s.rules.getD i default), inV s x) ∧ (s.rules.getD i default).a.length ≤ 3 ∧ ¬ (bV s i).contains (s.rules.getD i default).out_ = true ∧ ¬ aP (s.rules.getD i default).op < 0 ∧ ((s.rules.getD i default).a.length : Int) = aP (s.rules.getD i default).op := by
 obtain ⟨h1, h2, h3, h4, h5, h6, _⟩ := mR (g.r i hi)
 exact ⟨h1, h2, h3, h4, h5, h6⟩
theorem yX {s : ae} (g : ff s) : kg s = some (s.vars, s.in_, s.out_, s.rules, cd s s.in_) := by
 unfold kg
 rw [iP ⟨by omega, rW _ (by have := g.h.nv; omega)⟩, tA]
 have := gR (S := List Bool × Int) (T := List Bool) (fun i => (cd s (s.in_.take i), (i : Int))) (body := fun x => dS s x.1 x.2) s.in_.length (cd s s.in_)
  (by
   intro i hi
   show dS s (cd s (s.in_.take i)) (i : Int) = _
   have gi := g.h.i _ (aN hi)
   have gi' := gi
   unfold inV at gi'
   unfold dS
   rw [iP (ltI hi), iP (inI hi)]
   simp only [tN]
   rw [gS, iP gi', n3 gi, wrs i (by have := g.h.ni; omega), cA _ hi])
  (by
   show dS s (cd s (s.in_.take s.in_.length)) (s.in_.length : Int) = _
   unfold dS
   rw [iN (bH _), List.take_length])
 show (bb (fun (x : List Bool × Int) => dS s x.1 x.2) (cd s [], 0)).bind (fun z => gH s z) = _
 rw [show s.in_.take 0 = [] from rfl, show ((0 : Nat) : Int) = 0 from rfl] at this
 rw [this]
 rfl
theorem mo {s : ae} (g : ff s) {i : Nat} (hi : i < s.rules.length) : ¬ (s.rules.getD i default).out_ ∈ bV s i := fun h => (g.rule hi).2.2.2.1 (List.contains_iff_mem.2 h)
theorem zb (s : ae) (x : Int) {i : Nat} (hi : i ≤ s.rules.length) : x ∈ tB s i ↔ ∃ k, k < i ∧ (s.rules.getD k default).out_ = x := by
 induction i with
 | zero => simp [tB]
 | succ i ih =>
  have e2 : tB s (i + 1) = tB s i ++ [(s.rules.getD i default).out_] := by unfold tB; rw [cA _ (by omega), List.map_append]; rfl
  rw [e2, List.mem_append, ih (by omega), List.mem_singleton]
  constructor
  ·rintro (⟨k, hk, h⟩ | h)
   ·exact ⟨k, by omega, h⟩
   ·exact ⟨i, by omega, h.symm⟩
  ·rintro ⟨k, hk, h⟩
   by_cases e : k = i
   ·subst e; exact .inr h.symm
   ·exact .inl ⟨k, by omega, h⟩
theorem mq (s : ae) (x : Int) {i : Nat} (hi : i ≤ s.rules.length) : x ∈ bV s i ↔ x ∈ s.in_ ∨ ∃ k, k < i ∧ (s.rules.getD k default).out_ = x := by
 rw [wg, List.mem_append, zb s x hi]
theorem vf {s : ae} (g : ff s) {i k : Nat} (hi : i < s.rules.length) (hk : k < s.rules.length) (h : (s.rules.getD k default).out_ = (s.rules.getD i default).out_) : k = i := by
 rcases Nat.lt_trichotomy k i with hh | hh | hh
 ·exact absurd ((mq s _ (by omega)).2 (.inr ⟨k, hh, h⟩)) (mo g hi)
 ·exact hh
 ·exact absurd ((mq s _ (by omega)).2 (.inr ⟨i, hh, h.symm⟩)) (mo g hk)
theorem tE {s : ae} (g : ff s) {i : Nat} (hi : i < s.rules.length) : ¬ (s.rules.getD i default).out_ ∈ s.in_ := fun h =>
 mo g hi ((mq s _ (by omega)).2 (.inl h))
theorem uv {α : Type} [Inhabited α] {l : List α} {i : Nat} (h : i < l.length) : l.getD i default = l[i] := by simp [List.getD, h]
def dI (d : List Nat) : List Int := d.map (fun (k : Nat) => (k : Int))
theorem wl (d : List Nat) : (dI d).length = d.length := by unfold dI; simp
theorem wm {d : List Nat} {k : Nat} (h : k < d.length) : (dI d).getD k default = ((d.getD k default : Nat) : Int) := by simp [dI, List.getD, h]
def jV (s : ae) (d : List Nat) : List Int := s.in_ ++ d.map (fun k => (s.rules.getD k default).out_)
theorem vg (s : ae) (d : List Nat) (i : Nat) : jV s (d ++ [i]) = jV s d ++ [(s.rules.getD i default).out_] := by simp [jV]
theorem vh (s : ae) : jV s [] = s.in_ := by simp [jV]
theorem jS {s : ae} {d : List Nat} {x : Int} : x ∈ jV s d ↔ x ∈ s.in_ ∨ ∃ k, k ∈ d ∧ (s.rules.getD k default).out_ = x := by
 unfold jV
 rw [List.mem_append, List.mem_map]
def pS (s : ae) (d : List Nat) (i : Nat) : Bool := decide (mS (jV s d) (s.rules.getD i default))
def b9 (s : ae) : List Nat := jR s.rules.length (pS s)
theorem tF {l l' : List Int} {r : ab} (h : mS l r) (hl : ∀ x, x ∈ l → x ∈ l') : mS l' r := fun x hx => hl x (h x hx)
theorem tG {A T Z : Type} (P : T → Prop) (f : Nat → A → T → A ⊕ Z) (h : ∀ i a x a', f i a x = .inl a' → P x) : ∀ (l : List T) (i : Nat) (a b : A), lq f i l a = .inl b → ∀ x ∈ l, P x
 | [], i, a, b, _, x, hx => by cases hx
 | y :: l, i, a, b, he, x, hx => by
  rw [lq] at he
  cases hf : f i a y with
  | inr z => rw [hf] at he; cases he
  | inl a' =>
   rw [hf] at he
   rcases List.mem_cons.1 hx with rfl | hx
   ·exact h _ _ _ _ hf
   ·exact tG P f h l _ _ _ he x hx
theorem qx {A T Z : Type} (P : Z → Prop) (f : Nat → A → T → A ⊕ Z) (h : ∀ i a x z, f i a x = .inr z → P z) : ∀ (l : List T) (i : Nat) (a : A) (z : Z), lq f i l a = .inr z → P z
 | [], i, a, z, he => by cases he
 | y :: l, i, a, z, he => by
  rw [lq] at he
  cases hf : f i a y with
  | inr z' => rw [hf] at he; simp only [Sum.inr.injEq] at he; subst he; exact h _ _ _ _ hf
  | inl a' => rw [hf] at he; exact qx P f h l _ _ _ he
structure vi (s : ae) (m : Nat) : Prop where
 nv : s.vars.length ≤ m
 nr : s.rules.length ≤ m
 ni : s.in_.length ≤ m
 no : s.out_.length ≤ m
 r : ∀ r ∈ s.rules, r.a.length ≤ 100 ∧ r.e.length ≤ 1000
theorem vj (s : ae) (m : Nat) (hm : m ≤ 100000) : ∃ b, fK s (m : Int) = some b ∧ (b = false → vi s m) := by
 unfold fK
 by_cases h1 : (s.vars.length : Int) > m
 ·rw [iP h1]; exact ⟨true, rfl, fun h => by cases h⟩
 rw [iN h1]
 by_cases h2 : (s.rules.length : Int) > m
 ·rw [iP h2]; exact ⟨true, rfl, fun h => by cases h⟩
 rw [iN h2]
 by_cases h3 : (s.in_.length : Int) > m
 ·rw [iP h3]; exact ⟨true, rfl, fun h => by cases h⟩
 rw [iN h3]
 by_cases h4 : (s.out_.length : Int) > m
 ·rw [iP h4]; exact ⟨true, rfl, fun h => by cases h⟩
 rw [iN h4]
 obtain ⟨e1, _⟩ := mN (A := Int) (T := ah) (O := Int) (Z := Bool) (S := Int × Int) (fun a i => (a, i)) (body := fun x => cy s x.1 x.2) s.vars
  (fun _ a v => if v.n > 1000 then .inr true else .inl (IntKind.wrap .i64 (a + dY v.n))) (fun _ _ => True) (fun a => a) 0 trivial
  (by
   intro i a hi _
   refine ⟨?_, fun _ _ => trivial⟩
   show cy s a (i : Int) = _
   unfold cy
   rw [iP (ltI hi), iP (inI hi)]
   simp only [tN, bP, bSq]
   rw [wrs i (by omega)]
   by_cases h : (s.vars.getD i default).n > 1000
   ·rw [iP h, iP h]
   ·rw [iN h, iN h])
  (by
   intro a _
   show cy s a (s.vars.length : Int) = _
   unfold cy
   rw [iN (bH _)])
 show ∃ b, (bb (fun (x : Int × Int) => cy s x.1 x.2) (0, 0)).bind (Sum.elim (fun z18 => dy s m z18) (fun z19 => some z19)) = some b ∧ _
 rw [e1]
 simp only [bSq]
 cases hE : lq (fun _ a v => if v.n > 1000 then .inr true else .inl (IntKind.wrap .i64 (a + dY v.n))) 0 s.vars (0 : Int) with
 | inr z =>
  refine ⟨z, rfl, fun hz => ?_⟩
  have := qx (fun z => z = true) _ (fun i a x z h => by
   split at h
   ·simp only [Sum.inr.injEq] at h; exact h.symm
   ·cases h) _ _ _ _ hE
  rw [hz] at this; cases this
 | inl a0 =>
  simp only [Sum.elim_inl]
  unfold dy
  obtain ⟨e2, _⟩ := mN (A := Int) (T := ab) (O := Int) (Z := Bool) (S := Int × Int) (fun a i => (a, i)) (body := fun x => cx s x.1 x.2) s.rules
   (fun _ a r => if (r.a.length : Int) > 100 ∨ (r.e.length : Int) > 1000 ∨ (r.op = 15 ∧ r.n > 1000) then .inr true else .inl (IntKind.wrap .i64 (a + IntKind.wrap .i64 ((r.a.length : Int) + (r.e.length : Int))))) (fun _ _ => True) (fun a => a) a0 trivial
   (by
    intro i a hi _
    refine ⟨?_, fun _ _ => trivial⟩
    show cx s a (i : Int) = _
    unfold cx eh
    rw [iP (ltI hi), iP (inI hi)]
    simp only [tN]
    rw [wrs i (by omega)]
    by_cases h1 : ((s.rules.getD i default).a.length : Int) > 100
    ·rw [iP h1, iP (.inl h1)]
    ·rw [iN h1]
     by_cases h2 : ((s.rules.getD i default).e.length : Int) > 1000
     ·rw [iP h2, iP (.inr (.inl h2))]
     ·rw [iN h2]
      by_cases h3 : (s.rules.getD i default).op = 15
      ·rw [iP h3]
       by_cases h4 : (s.rules.getD i default).n > 1000
       ·rw [iP h4, iP (.inr (.inr ⟨h3, h4⟩))]
       ·rw [iN h4, iN (fun h => h.elim h1 (fun h => h.elim h2 (fun h => h4 h.2)))]
      ·rw [iN h3, iN (fun h => h.elim h1 (fun h => h.elim h2 (fun h => h3 h.1)))])
   (by
    intro a _
    show cx s a (s.rules.length : Int) = _
    unfold cx
    rw [iN (bH _)])
  show ∃ b, (bb (fun (x : Int × Int) => cx s x.1 x.2) (a0, 0)).bind (Sum.elim (fun z9 => eg m z9) (fun z10 => some z10)) = some b ∧ _
  rw [e2]
  simp only [bSq]
  cases hF : lq (fun _ a r => if (r.a.length : Int) > 100 ∨ (r.e.length : Int) > 1000 ∨ (r.op = 15 ∧ r.n > 1000) then .inr true else .inl (IntKind.wrap .i64 (a + IntKind.wrap .i64 ((r.a.length : Int) + (r.e.length : Int))))) 0 s.rules a0 with
  | inr z =>
   refine ⟨z, rfl, fun hz => ?_⟩
   have := qx (fun z => z = true) _ (fun i a x z h => by
    split at h
    ·simp only [Sum.inr.injEq] at h; exact h.symm
    ·cases h) _ _ _ _ hF
   rw [hz] at this; cases this
  | inl a1 =>
   have hR := tG (fun r : ab => r.a.length ≤ 100 ∧ r.e.length ≤ 1000) _ (fun i a x a' h => by
    split at h
    ·cases h
    ·rename_i hc
     have h1 : ¬ (x.a.length : Int) > 100 := fun h => hc (.inl h)
     have h2 : ¬ (x.e.length : Int) > 1000 := fun h => hc (.inr (.inl h))
     omega) _ _ _ _ hF
   exact ⟨_, rfl, fun _ => ⟨by omega, by omega, by omega, by omega, hR⟩⟩
theorem vl (r : ab) (h : r.a.length ≤ 100 ∧ r.e.length ≤ 1000) : jO r = some r := by
 unfold jO
 have hm : maxLen = 9223372036854775807 := rfl
 rw [iP (by unfold dt; omega), iP (by unfold dt; omega)]
theorem Ah {s : ae} {m : Nat} (h : vi s m) (hm : m ≤ 100000) : iS s = some s := by
 unfold iS
 have hx : maxLen = 9223372036854775807 := rfl
 have h1 := h.nv
 have h2 := h.nr
 have h3 := h.ni
 have h4 := h.no
 rw [iP ⟨by unfold dt; omega, by unfold dt; omega, by unfold dt; omega⟩]
 have := gR (S := List ab × Int) (T := List ab) (fun i => (s.rules.take i, (i : Int))) (body := fun x => cJ s x.1 x.2) s.rules.length s.rules
  (by
   intro i hi
   show cJ s (s.rules.take i) (i : Int) = _
   unfold cJ
   rw [iP (ltI hi), iP (inI hi)]
   simp only [tN]
   rw [vl _ (h.r _ (aN hi))]
   simp only [bSq]
   rw [iP (by unfold dt; simp; omega), wrs i (by omega), cA _ hi]
   rfl)
  (by
   show cJ s (s.rules.take s.rules.length) (s.rules.length : Int) = _
   unfold cJ
   rw [iN (bH _), List.take_length])
 show (bb (fun x => cJ s x.1 x.2) ([], 0)).bind (fun z21 => eO s z21) = _
 have e0 : s.rules.take 0 = [] := rfl
 rw [e0] at this
 rw [show ((0 : Nat) : Int) = 0 from rfl] at this
 rw [this]
 rfl
theorem sj {s : ae} (g : ff s) {l : List Int} {L : List Nat} (hL : ∀ k ∈ L, k < s.rules.length) (hl : L.length ≤ 100000) {a : List ah} {b c : List Int} {d : List ab} :
  ∃ z, cC (dI L) s a b c d (cd s l) = some z ∧ ((z = -1 ∧ ∀ i, i < L.length → decide (mS l (s.rules.getD (L.getD i default) default)) = false) ∨
   ∃ j, j < L.length ∧ z = (j : Int) ∧ decide (mS l (s.rules.getD (L.getD j default) default)) = true ∧ ∀ i, i < j → decide (mS l (s.rules.getD (L.getD i default) default)) = false) := by
 unfold cC
 have hbl := wl L
 rw [eR (dI L).length (fun k => if decide (mS l (s.rules.getD (L.getD k default) default)) = true then some (k : Int) else none) () (fun k hk => by
  have hk2 : k < L.length := by omega
  have hb := hL _ (aN hk2)
  obtain ⟨gr, hu, ha, _⟩ := g.rule hb
  have he := gr.e
  unfold cI kG
  rw [iP (ltI hk), iP (inI hk), wrs k (by omega)]
  simp only [tN]
  rw [wm hk2, iP (inI hb), tN, yW (fun x hx => hu x (sf hx)) (by omega) (by omega)]
  simp only [bSq]
  cases decide (mS l (s.rules.getD (L.getD k default) default)) <;> rfl) (by unfold cI; rw [iN (bH _)])]
 rcases za (dI L).length (fun k => if decide (mS l (s.rules.getD (L.getD k default) default)) = true then some (k : Int) else none) () with ⟨e, h⟩ | ⟨j, z, hj, hz, hm, e⟩
 ·rw [e]
  refine ⟨-1, rfl, .inl ⟨rfl, fun i hi => ?_⟩⟩
  have := h i (by omega)
  cases hq : decide (mS l (s.rules.getD (L.getD i default) default))
  ·rfl
  ·simp only [hq, if_true] at this; cases this
 ·rw [e]
  refine ⟨z, rfl, .inr ⟨j, by omega, ?_⟩⟩
  cases hq : decide (mS l (s.rules.getD (L.getD j default) default))
  ·simp only [hq] at hz; cases hz
  ·simp only [hq, if_true, sJ] at hz
   refine ⟨hz.symm, rfl, fun i hi => ?_⟩
   have := hm i hi
   cases hq2 : decide (mS l (s.rules.getD (L.getD i default) default))
   ·rfl
   ·simp only [hq2, if_true] at this; cases this
theorem qS {n b : Nat} (h : n ≤ 200000) (hb : b ≤ 1000) : dt n b := by
 have hx : maxLen = 9223372036854775807 := rfl
 have : n * b ≤ 200000 * 1000 := Nat.mul_le_mul h hb
 unfold dt
 omega
theorem qy (l : List Int) (h : l.length ≤ 100000) : bJ l = some l := by
 unfold bJ
 by_cases h0 : l = []
 ·rw [iP h0, h0]
 ·rw [iN h0, iP (qS (by omega) (by omega))]
theorem tH {T : Type} (l : List T) (b : Nat) (h : l.length ≤ 100000) (hb : b ≤ 1000) [Decidable (l = [])] : (if l = [] then some [] else (if dt l.length b then some l else none)) = some l := by
 by_cases h0 : l = []
 ·rw [iP h0, h0]
 ·rw [iN h0, iP (qS (by omega) hb)]
theorem Bi (r : ab) (ha : r.a.length ≤ 1000) (he : r.e.length ≤ 1000) : mc r = some r := by
 unfold mc cV
 rw [qy _ (by omega)]
 simp only [bSq]
 rw [tH r.e 32 (by omega) (by omega)]
 rfl
def fE (s : ae) : ae := ae.mk s.vars s.in_ s.out_ ((b9 s).map (fun k => s.rules.getD k default))
def noS : ae := ae.mk [] [] [] []
def nJ (s : ae) : ae × av := if (b9 s).length = s.rules.length then (fE s, av.mk 0 0) else (noS, av.mk 15 (((cO s.rules.length (b9 s)).getD 0 default : Nat) : Int))
theorem mU {s : ae} {k : Nat} (h : k ∈ b9 s) : k < s.rules.length := Af h
theorem uw (s : ae) : (b9 s).length ≤ s.rules.length := uu
theorem mV (s : ae) : (b9 s).Nodup := wj
theorem sm {s : ae} {k : Nat} (hk : k < (b9 s).length) : iw s.rules.length (pS s) ((b9 s).take k) = some ((b9 s).getD k default) := yZ hk
theorem zc (s : ae) : iw s.rules.length (pS s) (b9 s) = none := ve
theorem Bj {L : List Nat} {j : Nat} : uf (dI L) j (j + 1) = dI (L.take j ++ L.drop (j + 1)) := by
 unfold uf dI
 rw [List.map_append, List.map_take, List.map_drop]
theorem Ai (s : ae) (hn : s.rules.length ≤ 100000) : bb (fun (x : List Int × Int) => dK s x.1 x.2) (List.replicate s.rules.length 0, 0) = some (dI (cO s.rules.length [])) := by
 have := gR (S := List Int × Int) (T := List Int) (fun i => (gl s.rules.length (fun u => if u < i then (u : Int) else 0), (i : Int))) (body := fun x => dK s x.1 x.2) s.rules.length (dI (cO s.rules.length []))
  (by
   intro i hi
   show dK s (gl s.rules.length (fun u => if u < i then (u : Int) else 0)) (i : Int) = _
   unfold dK
   rw [iP (ltI hi), jp, iP (inI hi), wrs i (by omega), tN, u7]
   congr 3
   apply lr
   intro v hv
   by_cases h : v = i
   ·subst h; simp
   ·rw [iN h]
    by_cases h2 : v < i
    ·rw [iP h2, iP (by omega)]
    ·rw [iN h2, iN (by omega)])
  (by
   show dK s (gl s.rules.length (fun u => if u < s.rules.length then (u : Int) else 0)) (s.rules.length : Int) = _
   unfold dK
   rw [iN (bH _)]
   congr 2
   have : cO s.rules.length [] = List.range s.rules.length := by unfold cO; rw [List.filter_eq_self]; intro a _; rfl
   rw [this]
   unfold dI gl
   apply List.map_congr_left
   intro v hv
   rw [iP (List.mem_range.1 hv)])
 rw [show ((0 : Nat) : Int) = 0 from rfl] at this
 have e : gl s.rules.length (fun u => if u < 0 then (u : Int) else 0) = List.replicate s.rules.length 0 := by
  rw [u9]
  apply lr
  intro v _
  rw [iN (by omega)]
 rw [e] at this
 exact this
theorem xQ {s : ae} (g : ff s) {k : Nat} (hk : k < (b9 s).length) (y : List ah × List Int × List Int × List ab × List Bool) :
  cQ s y (cd s (jV s ((b9 s).take k))) (dI (cO s.rules.length ((b9 s).take k))) (((b9 s).take k).map (fun k => s.rules.getD k default)) =
   some (.inl (cd s (jV s ((b9 s).take (k + 1))), dI (cO s.rules.length ((b9 s).take (k + 1))), ((b9 s).take (k + 1)).map (fun k => s.rules.getD k default))) := by
 have hn := g.h.nr
 have hL : ∀ i ∈ cO s.rules.length ((b9 s).take k), i < s.rules.length := fun i hi => (mn.1 hi).1
 have hLl : (cO s.rules.length ((b9 s).take k)).length ≤ s.rules.length := pQ (nI _ _) hL
 have hx := sm hk
 obtain ⟨z, hz, hc⟩ := sj g (l := jV s ((b9 s).take k)) hL (by omega) (a := y.1) (b := y.2.1) (c := y.2.2.1) (d := y.2.2.2.1)
 rcases hc with ⟨_, h⟩ | ⟨j, hj, rfl, h1, h2⟩
 ·have := wk (c := pS s) (d := (b9 s).take k) h
  rw [this] at hx; cases hx
 ·have := si (c := pS s) (d := (b9 s).take k) hj h1 h2
  rw [this] at hx
  have hx := sI hx
  have hb := hL _ (aN hj)
  obtain ⟨gr, hu, ha, _⟩ := g.rule hb
  have he := gr.e
  have go := gr.o
  have go' := go
  unfold inV at go'
  have hdl := wl (cO s.rules.length ((b9 s).take k))
  unfold cQ
  rw [iP (by rw [hdl]; omega), hz]
  simp only [bSq]
  rw [iN (by omega), tN, wm hj, hdl, iP ⟨inI hj, inI hb⟩, tN, Bi _ (by omega) (by omega)]
  simp only [bSq]
  have hle := uw s
  rw [iP (qS (by simp; omega) (by omega)), gS, iP go']
  unfold fH
  rw [wrs j (by omega), iP ⟨⟨by omega, by omega, by rw [hdl]; omega⟩, fun h => by rw [h] at hdl; simp at hdl; omega⟩]
  simp only [bSq, tN]
  rw [Bj, xO hj, n3 go, hx, cA _ hk, vg, List.map_append]
  rfl
theorem zd {s : ae} (g : ff s) : gh s (s.vars, s.in_, s.out_, s.rules, cd s s.in_) (dI (cO s.rules.length [])) = some (nJ s) := by
 have hn := g.h.nr
 have hni := g.h.ni
 have hno := g.h.no
 have hnv := g.h.nv
 unfold gh
 have e0 : jV s ((b9 s).take 0) = s.in_ := by rw [List.take_zero, vh]
 have hL : ∀ i ∈ cO s.rules.length (b9 s), i < s.rules.length := fun i hi => (mn.1 hi).1
 have hLl := xP (n := s.rules.length) (mV s) (fun i hi => mU hi)
 have hdl := wl (cO s.rules.length (b9 s))
 have key : ∀ t, cQ s (s.vars, s.in_, s.out_, s.rules, cd s s.in_) (cd s (jV s (b9 s))) (dI (cO s.rules.length (b9 s))) ((b9 s).map (fun k => s.rules.getD k default)) = some (.inr t) →
   bb (fun (x : List Bool × List Int × List ab) => cQ s (s.vars, s.in_, s.out_, s.rules, cd s s.in_) x.1 x.2.1 x.2.2) (cd s s.in_, dI (cO s.rules.length []), []) = some t := by
  intro t ht
  have := gR (S := List Bool × List Int × List ab) (fun k => (cd s (jV s ((b9 s).take k)), dI (cO s.rules.length ((b9 s).take k)), ((b9 s).take k).map (fun k => s.rules.getD k default)))
   (body := fun x => cQ s (s.vars, s.in_, s.out_, s.rules, cd s s.in_) x.1 x.2.1 x.2.2) (b9 s).length t (fun i hi => xQ g hi _) (by
    show cQ s (s.vars, s.in_, s.out_, s.rules, cd s s.in_) (cd s (jV s ((b9 s).take (b9 s).length))) (dI (cO s.rules.length ((b9 s).take (b9 s).length))) (((b9 s).take (b9 s).length).map (fun k => s.rules.getD k default)) = _
    rw [List.take_length]; exact ht)
  rw [e0] at this
  exact this
 show (bb (fun (x : List Bool × List Int × List ab) => cQ s (s.vars, s.in_, s.out_, s.rules, cd s s.in_) x.1 x.2.1 x.2.2) (cd s s.in_, dI (cO s.rules.length []), [])).bind _ = _
 unfold nJ
 by_cases hK : (b9 s).length = s.rules.length
 ·rw [iP hK, key (.inl (cd s (jV s (b9 s)), dI (cO s.rules.length (b9 s)), (b9 s).map (fun k => s.rules.getD k default))) (by
   unfold cQ
   rw [iN (by omega)])]
  show gg s (cd s (jV s (b9 s))) (dI (cO s.rules.length (b9 s))) ((b9 s).map (fun k => s.rules.getD k default)) = _
  unfold gg du
  rw [tH s.vars 16 (by omega) (by omega), qy _ (by omega)]
  simp only [bSq]
  rw [qy _ (by omega)]
  rfl
 ·have hle := uw s
  have hpos : 0 < (cO s.rules.length (b9 s)).length := by omega
  obtain ⟨z, hz, hc⟩ := sj g (l := jV s (b9 s)) hL (by omega) (a := s.vars) (b := s.in_) (c := s.out_) (d := s.rules)
  rw [iN hK, key (.inr (noS, av.mk 15 (((cO s.rules.length (b9 s)).getD 0 default : Nat) : Int))) (by
   unfold cQ
   rw [iP (by omega)]
   show Option.bind (cC (dI (cO s.rules.length (b9 s))) s s.vars s.in_ s.out_ s.rules (cd s (jV s (b9 s)))) _ = _
   rw [hz]
   rcases hc with ⟨rfl, h⟩ | ⟨j, hj, rfl, h1, h2⟩
   ·simp only [bSq]
    rw [iP (by omega), iP ⟨by omega, by omega⟩, wm hpos]
    rfl
   ·have := si (c := pS s) (d := b9 s) hj h1 h2
    rw [zc] at this; cases this)]
  rfl
theorem Aj (s : ae) : li s = some (if (eo s).code = 0 then nJ s else (noS, eo s)) := by
 unfold li
 rw [vd]
 simp only [bSq]
 by_cases hc : (eo s).code = 0
 ·obtain ⟨g, _⟩ := j8 hc
  rw [iN (by simpa using hc), iP hc, yX g]
  simp only [bSq]
  have hn := g.h.nr
  rw [iP ⟨⟨by omega, by omega⟩, qS (by omega) (by omega)⟩]
  show (bb (fun (x : List Int × Int) => dK s x.1 x.2) (List.replicate s.rules.length 0, 0)).bind _ = _
  rw [Ai s (by omega)]
  exact zd g
 ·rw [iP hc, iN hc]
  rfl
end Pam
namespace Pam
open Go
theorem vm {s : ae} (h0 : (ml s).code = 0) (hr : ∀ i, i < s.rules.length → kA s (bV s i) (s.rules.getD i default) = 0)
  (hu : ∀ i, i < s.rules.length → ∀ x ∈ dZ (s.rules.getD i default), x ∈ bV s s.rules.length) (ho : ∀ x ∈ s.out_, x ∈ bV s s.rules.length) : eo s = av.mk 0 0 := by
 unfold eo
 simp only [h0, not_true_eq_false, if_false]
 rw [mj (fun i hi => by unfold mm; simp only [iP (hr i hi)])]
 simp only
 rw [mj (fun i hi => by unfold nd; rw [iN (fun ⟨x, h1, h2⟩ => h2 (hu i hi x h1))])]
 simp only
 rw [mj (fun i hi => by unfold ur; rw [iP (ho _ (aN hi))])]
theorem xR (v : List ah) (i o : List Int) (R R' : List ab) (r : ab) : az (ae.mk v i o R) r = az (ae.mk v i o R') r := rfl
def cE (s : ae) (l : List Nat) : ae := ae.mk s.vars s.in_ s.out_ (l.map (fun k => s.rules.getD k default))
theorem jy (s : ae) (l : List Nat) : (cE s l).rules.length = l.length := by unfold cE; simp
theorem j9 (s : ae) {l : List Nat} {i : Nat} (h : i < l.length) : (cE s l).rules.getD i default = s.rules.getD (l.getD i default) default := by
 unfold cE; simp [List.getD, h]
theorem mW (s : ae) (l : List Nat) (i : Nat) : bV (cE s l) i = jV s (l.take i) := by
 unfold bV jV cE
 simp only [← List.map_take, List.map_map]
 rfl
theorem sn (s : ae) (l : List Nat) (r : ab) : az (cE s l) r = az s r := xR _ _ _ _ _ _
theorem wn {s : ae} {l : List Nat} (h : l.length = s.rules.length) : ml (cE s l) = ml s := by
 have e := jy s l
 unfold ml
 rw [e, h]
 rfl
theorem vn {l : List Nat} {n : Nat} (hn : l.Nodup) (hl : ∀ k ∈ l, k < n) (hlen : l.length = n) (s : ae) (h : n = s.rules.length) (x : Int) : x ∈ bV s s.rules.length → x ∈ jV s l := by
 intro hx
 rcases (mq s x (Nat.le_refl _)).1 hx with h1 | ⟨k, hk, h1⟩
 ·exact jS.2 (.inl h1)
 ·exact jS.2 (.inr ⟨k, lv hn hl hlen k (by omega), h1⟩)
theorem mX {s : ae} (hc : (eo s).code = 0) {l : List Nat} (hn : l.Nodup) (hl : ∀ k ∈ l, k < s.rules.length) (hlen : l.length = s.rules.length) : eo (cE s l) = av.mk 0 0 := by
 obtain ⟨g, _⟩ := j8 hc
 have hh : (ml s).code = 0 := by
  refine Classical.byContradiction fun h0 => ?_
  unfold eo at hc
  rw [iP h0] at hc
  exact h0 hc
 have hlen' := jy s l
 refine vm (by rw [wn hlen]; exact hh) (fun i hi => ?_) (fun i hi x hx => ?_) (fun x hx => ?_)
 ·have hi' : i < l.length := by omega
  have hk := hl _ (aN hi')
  have h1 := g.r _ hk
  rw [mW, j9 s hi']
  have c1 : (bV s (l.getD i default)).contains (s.rules.getD (l.getD i default) default).out_ = false := by
   cases hq : (bV s (l.getD i default)).contains (s.rules.getD (l.getD i default) default).out_
   ·rfl
   ·exact absurd (List.contains_iff_mem.1 hq) (mo g hk)
  have c2 : (jV s (l.take i)).contains (s.rules.getD (l.getD i default) default).out_ = false := by
   cases hq : (jV s (l.take i)).contains (s.rules.getD (l.getD i default) default).out_
   ·rfl
   ·rcases jS.1 (List.contains_iff_mem.1 hq) with h | ⟨k, h2, h3⟩
    ·exact absurd h (tE g hk)
    ·have e := vf g hk (hl k (List.mem_of_mem_take h2)) h3
     subst e
     obtain ⟨j, hj, e⟩ := List.mem_iff_getElem.1 h2
     rw [List.length_take] at hj
     rw [List.getElem_take] at e
     have := (List.getElem_inj hn).1 (e.trans (uv hi'))
     omega
  unfold kA at h1 ⊢
  rw [c1] at h1
  rw [c2, sn]
  exact h1
 ·have hi' : i < l.length := by omega
  rw [j9 s hi'] at hx
  rw [mW, hlen', List.take_length]
  exact vn hn hl hlen s rfl x (g.u _ (hl _ (aN hi')) x hx)
 ·rw [mW, hlen', List.take_length]
  exact vn hn hl hlen s rfl x (g.o x hx)
theorem so (s : ae) : fE s = cE s (b9 s) := rfl
theorem wo {s : ae} (hc : (eo s).code = 0) (hK : (b9 s).length = s.rules.length) : eo (fE s) = av.mk 0 0 :=
 mX hc (mV s) (fun _ h => mU h) hK
theorem ku {s : ae} : f9 (fE s) := by
 intro i hi
 rw [so, jy] at hi
 rw [so, mW, j9 s hi]
 have := (mT (sm hi)).2.2
 unfold pS at this
 exact of_decide_eq_true this
theorem qT {s : ae} (hs : f9 s) : b9 s = List.range s.rules.length := by
 have key : ∀ k, k ≤ s.rules.length → ie s.rules.length (pS s) k = List.range k := by
  intro k
  induction k with
  | zero => intro _; rfl
  | succ k ih =>
   intro hk
   have : iw s.rules.length (pS s) (List.range k) = some k := by
    unfold iw
    rw [List.find?_range_eq_some]
    refine ⟨?_, List.mem_range.2 (by omega), fun j hj => ?_⟩
    ·have h1 : (List.range k).contains k = false := by
      cases hq : (List.range k).contains k
      ·rfl
      ·exact absurd (List.mem_range.1 (List.contains_iff_mem.1 hq)) (by omega)
     have h2 : pS s (List.range k) k = true := by
      unfold pS
      refine dT (tF (hs k (by omega)) (fun x hx => ?_))
      rcases (mq s x (by omega)).1 hx with h | ⟨j, hj, h⟩
      ·exact jS.2 (.inl h)
      ·exact jS.2 (.inr ⟨j, List.mem_range.2 hj, h⟩)
     rw [h1, h2]; rfl
    ·rw [List.contains_iff_mem.2 (List.mem_range.2 hj)]; rfl
   rw [ie, ih (by omega), this, List.range_succ]
 exact key _ (Nat.le_refl _)
theorem nK {T : Type} [Inhabited T] (l : List T) : (List.range l.length).map (fun k => l.getD k default) = l := by
 apply List.ext_getElem
 ·simp
 ·intro i h1 h2
  simp [List.getD, h2]
theorem ux {s : ae} (hs : f9 s) : fE s = s := by
 unfold fE
 rw [qT hs, nK]
theorem Ak {s : ae} {L : List Int} (h1 : ∀ x ∈ s.in_, x ∈ L) (h3 : ∀ j, j < s.rules.length → (s.rules.getD j default).out_ ∈ L ∨ ¬ mS L (s.rules.getD j default)) : ∀ x ∈ jV s (b9 s), x ∈ L := by
 have key : ∀ k, k ≤ (b9 s).length → ∀ x ∈ jV s ((b9 s).take k), x ∈ L := by
  intro k
  induction k with
  | zero =>
   intro _ x hx
   rw [List.take_zero, vh] at hx
   exact h1 x hx
  | succ k ih =>
   intro hk x hx
   rw [cA _ (by omega), vg] at hx
   rcases List.mem_append.1 hx with hx | hx
   ·exact ih (by omega) x hx
   ·simp only [List.mem_singleton] at hx
    subst hx
    obtain ⟨q1, _, q3⟩ := mT (sm (s := s) (k := k) (by omega))
    rcases h3 _ q1 with h | h
    ·exact h
    ·unfold pS at q3
     exact absurd (tF (of_decide_eq_true q3) (ih (by omega))) h
 intro x hx
 have := key (b9 s).length (Nat.le_refl _)
 rw [List.take_length] at this
 exact this x hx
theorem wX {s t : ae} (gs : ff s) (gt : ff t) (hin : t.in_ = s.in_) (hst : ∀ j, j < s.rules.length → ∃ i, i < t.rules.length ∧ t.rules.getD i default = s.rules.getD j default)
  (hts : ∀ i, i < t.rules.length → ∃ j, j < s.rules.length ∧ s.rules.getD j default = t.rules.getD i default) (hK : (b9 s).length = s.rules.length) : (b9 t).length = t.rules.length := by
 have hsub : ∀ x ∈ jV s (b9 s), x ∈ jV t (b9 t) := Ak (fun x hx => jS.2 (.inl (hin ▸ hx))) (fun j hj => by
  obtain ⟨i, hi, e⟩ := hst j hj
  by_cases hm : i ∈ b9 t
  ·exact .inl (jS.2 (.inr ⟨i, hm, by rw [e]⟩))
  ·refine .inr ?_
   have h := wi (ve (n := t.rules.length) (c := pS t)) i hi hm
   unfold pS at h
   rw [← e]
   exact of_decide_eq_false h)
 have hall : ∀ i, i < t.rules.length → i ∈ b9 t := fun i hi => by
  obtain ⟨j, hj, e⟩ := hts i hi
  have hjm := lv (mV s) (fun _ h => mU h) hK j hj
  have hx := hsub _ (jS.2 (.inr ⟨j, hjm, rfl⟩))
  rw [e] at hx
  rcases jS.1 hx with h | ⟨k, hk, h⟩
  ·exact absurd h (tE gt hi)
  ·rw [← vf gt hi (mU hk) h]
   exact hk
 have h1 := uw t
 have h2 := n4 (l := List.range t.rules.length) (m := b9 t) List.nodup_range (fun x hx => hall x (List.mem_range.1 hx))
 rw [List.length_range] at h2
 omega
theorem xS {s : ae} (hc : (eo s).code = 0) {l : List Nat} (hn : l.Nodup) (hl : ∀ k ∈ l, k < s.rules.length) (hlen : l.length = s.rules.length) :
  (b9 (cE s l)).length = l.length ↔ (b9 s).length = s.rules.length := by
 obtain ⟨gs, _⟩ := j8 hc
 obtain ⟨gt, _⟩ := j8 (s := cE s l) (by rw [mX hc hn hl hlen])
 have hp := jy s l
 have h1 : ∀ j, j < s.rules.length → ∃ i, i < (cE s l).rules.length ∧ (cE s l).rules.getD i default = s.rules.getD j default := fun j hj => by
  obtain ⟨i, hi, e⟩ := List.mem_iff_getElem.1 (lv hn hl hlen j hj)
  exact ⟨i, by omega, by rw [j9 s hi, uv hi, e]⟩
 have h2 : ∀ i, i < (cE s l).rules.length → ∃ j, j < s.rules.length ∧ s.rules.getD j default = (cE s l).rules.getD i default := fun i hi =>
  ⟨l.getD i default, hl _ (aN (by omega)), by rw [j9 s (by omega)]⟩
 constructor
 ·intro h
  exact wX gt gs rfl h2 h1 (by omega)
 ·intro h
  rw [← hp]
  exact wX gs gt rfl h1 h2 h
def er (n c : Nat) : List Nat := (List.range n).drop c ++ (List.range n).take c
theorem qU (n c : Nat) : (er n c).Nodup := by
 unfold er
 have h : ((List.range n).take c ++ (List.range n).drop c).Nodup := by rw [List.take_append_drop]; exact List.nodup_range
 rw [List.nodup_append] at h ⊢
 exact ⟨h.2.1, h.1, fun a ha b hb e => h.2.2 b hb a ha e.symm⟩
theorem nL {n c k : Nat} (h : k ∈ er n c) : k < n := by
 unfold er at h
 rcases List.mem_append.1 h with h | h
 ·exact List.mem_range.1 (List.mem_of_mem_drop h)
 ·exact List.mem_range.1 (List.mem_of_mem_take h)
theorem qz {n c : Nat} (h : c ≤ n) : (er n c).length = n := by
 unfold er
 rw [List.length_append, List.length_drop, List.length_take, List.length_range]
 omega
theorem qA (s : ae) (c : Nat) : (er s.rules.length c).map (fun k => s.rules.getD k default) = s.rules.drop c ++ s.rules.take c := by
 unfold er
 rw [List.map_append, List.map_drop, List.map_take, nK]
end Pam
namespace Pam
open Go
theorem vo {s : ae} {mk : List Int} {r : ab} (h1 : inV s r.out_) (h2 : ¬ mk.contains r.out_ = true) (h3 : ¬ (aP r.op < 0 ∨ ¬ (r.a.length : Int) = aP r.op)) (h4 : ¬ (r.e.length : Int) > 24)
  (h5 : ¬ ∃ x ∈ dZ r, ¬ inV s x) (h6 : az s r = some true) : kA s mk r = 0 := by
 unfold kA
 rw [iN (not_not_intro h1), iN h2, iN h3, iN h4, iN h5, iP h6]
theorem mY (n : Int) : okI .i64 (IntKind.wrap .i64 n) := by
 show -9223372036854775808 ≤ IntKind.wrap .i64 n ∧ IntKind.wrap .i64 n ≤ 9223372036854775807
 rw [IntKind.wrap_i64]; omega
theorem pT (x t : Int) : IntKind.wrap .i64 (x + 18446744073709551616 * t) = IntKind.wrap .i64 x := by
 simp only [IntKind.wrap_i64]
 have : (x + 18446744073709551616 * t + 9223372036854775808) = (x + 9223372036854775808) + 18446744073709551616 * t := by omega
 rw [this, Int.add_mul_emod_self_left]
theorem wY (x : Int) : ∃ t, IntKind.wrap .i64 x = x + 18446744073709551616 * t := by
 refine ⟨-((x + 9223372036854775808) / 18446744073709551616), ?_⟩
 rw [IntKind.wrap_i64]; omega
theorem Al {n : Int} (h : okI .i64 n) : IntKind.wrap .i64 n = n := wr h.1 h.2
theorem xT (a b : Int) (ha : okI .i64 a) (hb : b ≠ 0) : okI .i64 (a.tmod b) ∧ IntKind.wrap .i64 (a - IntKind.wrap .i64 (IntKind.wrap .i64 (a.tdiv b) * b)) = a.tmod b := by
 have ha' : -9223372036854775808 ≤ a ∧ a ≤ 9223372036854775807 := ha
 have h1 := Int.mul_tdiv_add_tmod a b
 have hr : okI .i64 (a.tmod b) := by
  show -9223372036854775808 ≤ a.tmod b ∧ a.tmod b ≤ 9223372036854775807
  rcases Int.le_total 0 a with h | h
  ·have h2 := Int.tmod_nonneg b h
   have h3 : a.tmod b ≤ a := by
    rw [Int.tmod_eq_emod_of_nonneg h]
    have h4 := Int.mul_ediv_add_emod a b
    have h5 : 0 ≤ b * (a / b) := by
     rcases Int.le_total 0 b with hb0 | hb0
     ·exact Int.mul_nonneg hb0 (Int.ediv_nonneg h hb0)
     ·exact Int.mul_nonneg_of_nonpos_of_nonpos hb0 (Int.ediv_nonpos_of_nonneg_of_nonpos h hb0)
    omega
   omega
  ·have h2 : 0 ≤ (-a).tmod b := Int.tmod_nonneg b (by omega)
   have h3 : (-a).tmod b ≤ -a := by
    rw [Int.tmod_eq_emod_of_nonneg (by omega)]
    have h4 := Int.mul_ediv_add_emod (-a) b
    have h5 : 0 ≤ b * (-a / b) := by
     rcases Int.le_total 0 b with hb0 | hb0
     ·exact Int.mul_nonneg hb0 (Int.ediv_nonneg (by omega) hb0)
     ·exact Int.mul_nonneg_of_nonpos_of_nonpos hb0 (Int.ediv_nonpos_of_nonneg_of_nonpos (by omega) hb0)
    omega
   rw [Int.neg_tmod] at h2 h3
   omega
 refine ⟨hr, ?_⟩
 obtain ⟨t, ht⟩ := wY (a.tdiv b)
 rw [ht]
 have e1 : (a.tdiv b + 18446744073709551616 * t) * b = a.tdiv b * b + 18446744073709551616 * (t * b) := by rw [Int.add_mul, Int.mul_assoc]
 rw [e1, pT]
 obtain ⟨t2, ht2⟩ := wY (a.tdiv b * b)
 rw [ht2]
 have e2 : a - (a.tdiv b * b + 18446744073709551616 * t2) = a.tmod b + 18446744073709551616 * (-t2) := by rw [Int.mul_comm (a.tdiv b) b]; omega
 rw [e2, pT, Al hr]
noncomputable def app (k a b : Int) : Int := (aX k a b).getD 0
theorem gc (k a b : Int) (ha : okI .i64 a) (hb : okI .i64 b) : aX k a b = some (app k a b) ∧ br k a b = some (app k a b) ∧ okI .i64 (app k a b) := by
 have h01 : ∀ c : Bool, (if c = true then some (1 : Int) else some 0) = some (if c = true then 1 else 0) := fun c => by cases c <;> rfl
 have ok01 : ∀ c : Bool, okI .i64 (if c = true then (1 : Int) else 0) := fun c => by cases c <;> exact ⟨by decide, by decide⟩
 have key : ∀ v, aX k a b = some v → br k a b = some v → okI .i64 v → aX k a b = some (app k a b) ∧ br k a b = some (app k a b) ∧ okI .i64 (app k a b) := fun v h1 h2 h3 => by
  have : app k a b = v := by unfold app; rw [h1]; rfl
  rw [this]; exact ⟨h1, h2, h3⟩
 by_cases c1 : k = 1
 ·exact key _ (by unfold aX; rw [iP c1]) (by unfold br; rw [iP c1]) (mY _)
 by_cases c2 : k = 2
 ·exact key _ (by unfold aX; rw [iN c1, iP c2]) (by unfold br; rw [iN c1, iP c2]) (mY _)
 by_cases c3 : k = 3
 ·exact key _ (by unfold aX; rw [iN c1, iN c2, iP c3]) (by unfold br; rw [iN c1, iN c2, iP c3]) (mY _)
 by_cases c4 : k = 4
 ·subst c4
  by_cases z : b = 0
  ·exact key 0 (by simp [aX, aV, ia, z]) (by simp [br, z]) ⟨by decide, by decide⟩
  ·by_cases z1 : b = -1
   ·subst z1
    exact key (IntKind.wrap .i64 (0 - a)) (by simp [aX, aV, ia, Int.tdiv_neg, Int.tdiv_one]) (by simp [br]) (mY _)
   ·exact key (IntKind.wrap .i64 (a.tdiv b)) (by simp [aX, aV, ia, z]) (by simp [br, z, z1]) (mY _)
 by_cases c5 : k = 5
 ·subst c5
  by_cases z : b = 0
  ·exact key 0 (by simp [aX, aV, ia, z]) (by simp [br, z]) ⟨by decide, by decide⟩
  ·by_cases z1 : b = -1
   ·subst z1
    exact key 0 (by simp [aX, aV, ia, Int.tmod_neg, Int.tmod_one]) (by simp [br]) ⟨by decide, by decide⟩
   ·obtain ⟨m1, m2⟩ := xT a b ha z
    exact key (a.tmod b) (by simp [aX, aV, ia, z]) (by simp only [br]; rw [iN (by decide), iN (by decide), iN (by decide), iN (by decide), iN (by decide), iP trivial, iN z, iN z1, iP z, m2]) m1
 by_cases c6 : k = 6
 ·subst c6
  exact key (if b < a then b else a) (by simp [aX, aV]) (by simp only [br]; simp; split <;> rfl) (by split <;> assumption)
 by_cases c7 : k = 7
 ·subst c7
  exact key (if b > a then b else a) (by simp [aX, aV]) (by simp only [br]; simp; split <;> rfl) (by split <;> assumption)
 by_cases c8 : k = 8
 ·subst c8
  by_cases z : a < b
  ·exact key 1 (by simp [aX, aV, bO, z]) (by simp [br, be, z]) ⟨by decide, by decide⟩
  ·exact key 0 (by simp [aX, aV, bO, z]) (by simp [br, be, z]) ⟨by decide, by decide⟩
 by_cases c9 : k = 9
 ·subst c9
  by_cases z : a = b
  ·exact key 1 (by simp [aX, aV, bO, z]) (by simp [br, be, z]) ⟨by decide, by decide⟩
  ·exact key 0 (by simp [aX, aV, bO, z]) (by simp [br, be, z]) ⟨by decide, by decide⟩
 by_cases c10 : k = 10
 ·subst c10
  by_cases z : a = 0
  ·exact key 0 (by simp [aX, aV, bO, z]) (by simp [br, be, z]) ⟨by decide, by decide⟩
  ·by_cases z2 : b = 0
   ·exact key 0 (by simp [aX, aV, bO, z, z2]) (by simp [br, be, z, z2]) ⟨by decide, by decide⟩
   ·exact key 1 (by simp [aX, aV, bO, z, z2]) (by simp [br, be, z, z2]) ⟨by decide, by decide⟩
 by_cases c11 : k = 11
 ·subst c11
  by_cases z : a = 0
  ·by_cases z2 : b = 0
   ·exact key 0 (by simp [aX, aV, bO, z, z2]) (by simp [br, be, z, z2]) ⟨by decide, by decide⟩
   ·exact key 1 (by simp [aX, aV, bO, z, z2]) (by simp [br, be, z, z2]) ⟨by decide, by decide⟩
  ·exact key 1 (by simp [aX, aV, bO, z]) (by simp [br, be, z]) ⟨by decide, by decide⟩
 by_cases c12 : k = 12
 ·subst c12
  by_cases z : a = 0 <;> by_cases z2 : b = 0
  ·exact key 0 (by simp [aX, aV, bO, z, z2]) (by simp [br, be, z, z2]) ⟨by decide, by decide⟩
  ·exact key 1 (by simp [aX, aV, bO, z, z2]) (by simp [br, be, z, z2]) ⟨by decide, by decide⟩
  ·exact key 1 (by simp [aX, aV, bO, z, z2]) (by simp [br, be, z, z2]) ⟨by decide, by decide⟩
  ·have e1 : (a != 0) = true := by simp [z]
   have e2 : (b != 0) = true := by simp [z2]
   have e3 : (a == 0) = false := by simp [z]
   have e4 : (b == 0) = false := by simp [z2]
   exact key 0 (by simp [aX, aV, bO, e1, e2]) (by simp [br, be, e3, e4]) ⟨by decide, by decide⟩
 by_cases c13 : k = 13
 ·subst c13
  exact key (IntKind.wrap .i64 (0 - a)) (by simp [aX, aV]) (by simp [br]) (mY _)
 by_cases c14 : k = 14
 ·subst c14
  by_cases z : a = 0
  ·exact key 1 (by simp [aX, aV, bO, z]) (by simp [br, be, z]) ⟨by decide, by decide⟩
  ·exact key 0 (by simp [aX, aV, bO, z]) (by simp [br, be, z]) ⟨by decide, by decide⟩
 exact key 0 (by simp [aX, aV, c1, c2, c3, c4, c5, c6, c7, c8, c9, c10, c11, c12, c13, c14]) (by simp [br, be, c1, c2, c3, c4, c5, c6, c7, c8, c9, c10, c11, c12, c13, c14]) ⟨by decide, by decide⟩
theorem nM : okI .i64 0 := ⟨by decide, by decide⟩
theorem cK {l : List Int} (h : ∀ y ∈ l, okI .i64 y) (i : Nat) : okI .i64 (l.getD i default) := by
 by_cases hi : i < l.length
 ·exact h _ (aN hi)
 ·have : l.getD i default = 0 := by simp [List.getD, List.getElem?_eq_none (Nat.le_of_not_lt hi)]
  rw [this]; exact nM
def nV (s : ae) (v : Int) : Int := (vOf s v).n
def clN (s : ae) (v : Int) : Nat := (dY (nV s v)).toNat
structure uy (s : ae) (op n o a b c : Int) (e : List aq) : Prop where
 h1 : op = 1 → o = 0
 h2 : op = 2 → a = o
 h3 : op = 3 → a = o
 h4 : op = 4 → a = o ∧ b = o
 h5 : op = 5 → a = 0 ∧ b = o ∧ c = o
 h6 : op = 6 → a = 0 ∧ o = 0 ∧ b > 0
 h7 : op = 7 → a = 0 ∧ b = o ∧ o > 0
 h8 : op = 8 → a = 0 ∧ o > 0
 h9 : op = 9 → a > 0 ∧ b = 0 ∧ c = 0 ∧ o = 0
 h10 : op = 10 → a = o ∧ o > 0 ∧ b = 0 ∧ c = 0
 h11 : op = 11 → a > 0 ∧ o > 0 ∧ 0 ≤ n ∧ n + o ≤ a
 h12 : op = 12 → a > 0 ∧ b > 0 ∧ o = a + b
 h13 : op = 13 → a = o ∧ b = o
 h14 : op = 14 → jQ s (dY o) e ≠ 0
 h15 : op = 15 → a = 0 ∧ o = 0 ∧ 1 ≤ n ∧ n ≤ 300 ∧ jQ s n e ≠ 0
 h16 : op = 16 → a = 0 ∧ o > 0 ∧ jQ s o e ≠ 0
theorem wq {x : Int} (h : okE x) : x ≠ 0 := by unfold okE at h; omega
theorem sq {s : ae} {e : List aq} {n : Int} (hv : eT s) (hu : ∀ p ∈ e, nF s p) (hn : 1 ≤ n ∧ n ≤ 300) (he : e.length ≤ 800) : lp s e n = some (jQ s n e) := (tv (c := 0) hv hu hn he).2
theorem tI {n : Int} (h : 0 ≤ n ∧ n ≤ 300) : 1 ≤ dY n ∧ dY n ≤ 300 := by unfold dY; split <;> omega
theorem ze {s : ae} (hv : eT s) {r : ab} (h : iT s r) (hp : ¬ aP r.op < 0) (hl : (r.a.length : Int) = aP r.op) (hf : az s r = some true) :
  uy s r.op r.n (nV s r.out_) (nV s (r.a.getD 0 default)) (nV s (r.a.getD 1 default)) (nV s (r.a.getD 2 default)) r.e := by
 obtain ⟨op, k, o, n, a, e⟩ := r
 simp only at hp hl
 have ho : inV s o := h.o
 have go := aE hv ho
 have h3 : a.length ≤ 3 := by have := qv op; omega
 rw [cZ h.o h3 h.a] at hf
 have hop : 1 ≤ op ∧ op ≤ 16 := by
  by_cases hc : 1 ≤ op ∧ op ≤ 16
  ·exact hc
  ·unfold aP at hp; rw [iN hc] at hp; omega
 have ha : ∀ x ∈ a, inV s x := h.a
 have he : e.length ≤ 24 := h.e
 have hu : 14 ≤ op → ∀ p ∈ e, nF s p := h.u
 have hcs : op = 1 ∨ op = 2 ∨ op = 3 ∨ op = 4 ∨ op = 5 ∨ op = 6 ∨ op = 7 ∨ op = 8 ∨ op = 9 ∨ op = 10 ∨ op = 11 ∨ op = 12 ∨ op = 13 ∨ op = 14 ∨ op = 15 ∨ op = 16 := by omega
 have l0 : (a.length : Int) = 0 → a = [] := fun h => List.eq_nil_of_length_eq_zero (by omega)
 have l1 : (a.length : Int) = 1 → ∃ x, a = [x] := fun h => by
  match a, h with
  | [x], _ => exact ⟨x, rfl⟩
  | [], h => simp at h
  | _ :: _ :: _, h => simp at h; omega
 have l2 : (a.length : Int) = 2 → ∃ x y, a = [x, y] := fun h => by
  match a, h with
  | [x, y], _ => exact ⟨x, y, rfl⟩
  | [], h => simp at h
  | [_], h => simp at h
  | _ :: _ :: _ :: _, h => simp at h; omega
 have l3 : (a.length : Int) = 3 → ∃ x y z, a = [x, y, z] := fun h => by
  match a, h with
  | [x, y, z], _ => exact ⟨x, y, z, rfl⟩
  | [], h => simp at h
  | [_], h => simp at h
  | [_, _], h => simp at h
  | _ :: _ :: _ :: _ :: _, h => simp at h; omega
 rcases hcs with rfl | rfl | rfl | rfl | rfl | rfl | rfl | rfl | rfl | rfl | rfl | rfl | rfl | rfl | rfl | rfl
 ·obtain rfl := l0 (hl.trans (by decide))
  simp only [aA, bu, bSq, bq, bP, cY, List.length_cons, List.length_nil, List.getD_cons_zero, List.getD_cons_succ, eD, Nat.reduceAdd, Nat.reduceLT, if_true, if_false, reduceCtorEq, Int.reduceEq, reduceIte, Int.reduceLE, Int.reduceLT, and_self] at hf
  have key : (vOf s o).n = 0 := by grind
  exact ⟨(fun _ => key), (fun h => absurd h (show ¬ (1 : Int) = 2 by decide)), (fun h => absurd h (show ¬ (1 : Int) = 3 by decide)), (fun h => absurd h (show ¬ (1 : Int) = 4 by decide)), (fun h => absurd h (show ¬ (1 : Int) = 5 by decide)), (fun h => absurd h (show ¬ (1 : Int) = 6 by decide)), (fun h => absurd h (show ¬ (1 : Int) = 7 by decide)), (fun h => absurd h (show ¬ (1 : Int) = 8 by decide)), (fun h => absurd h (show ¬ (1 : Int) = 9 by decide)), (fun h => absurd h (show ¬ (1 : Int) = 10 by decide)), (fun h => absurd h (show ¬ (1 : Int) = 11 by decide)), (fun h => absurd h (show ¬ (1 : Int) = 12 by decide)), (fun h => absurd h (show ¬ (1 : Int) = 13 by decide)), (fun h => absurd h (show ¬ (1 : Int) = 14 by decide)), (fun h => absurd h (show ¬ (1 : Int) = 15 by decide)), (fun h => absurd h (show ¬ (1 : Int) = 16 by decide))⟩
 ·obtain ⟨x, rfl⟩ := l1 (hl.trans (by decide))
  have gx := aE hv (ha x (by simp))
  simp only [aA, bu, bSq, bq, bP, cY, List.length_cons, List.length_nil, List.getD_cons_zero, List.getD_cons_succ, eD, Nat.reduceAdd, Nat.reduceLT, if_true, if_false, reduceCtorEq, Int.reduceEq, reduceIte, Int.reduceLE, Int.reduceLT, and_self] at hf
  have key : (vOf s x).n = (vOf s o).n := by grind
  exact ⟨(fun h => absurd h (show ¬ (2 : Int) = 1 by decide)), (fun _ => key), (fun h => absurd h (show ¬ (2 : Int) = 3 by decide)), (fun h => absurd h (show ¬ (2 : Int) = 4 by decide)), (fun h => absurd h (show ¬ (2 : Int) = 5 by decide)), (fun h => absurd h (show ¬ (2 : Int) = 6 by decide)), (fun h => absurd h (show ¬ (2 : Int) = 7 by decide)), (fun h => absurd h (show ¬ (2 : Int) = 8 by decide)), (fun h => absurd h (show ¬ (2 : Int) = 9 by decide)), (fun h => absurd h (show ¬ (2 : Int) = 10 by decide)), (fun h => absurd h (show ¬ (2 : Int) = 11 by decide)), (fun h => absurd h (show ¬ (2 : Int) = 12 by decide)), (fun h => absurd h (show ¬ (2 : Int) = 13 by decide)), (fun h => absurd h (show ¬ (2 : Int) = 14 by decide)), (fun h => absurd h (show ¬ (2 : Int) = 15 by decide)), (fun h => absurd h (show ¬ (2 : Int) = 16 by decide))⟩
 ·obtain ⟨x, rfl⟩ := l1 (hl.trans (by decide))
  have gx := aE hv (ha x (by simp))
  simp only [aA, bu, bSq, bq, bP, cY, List.length_cons, List.length_nil, List.getD_cons_zero, List.getD_cons_succ, eD, Nat.reduceAdd, Nat.reduceLT, if_true, if_false, reduceCtorEq, Int.reduceEq, reduceIte, Int.reduceLE, Int.reduceLT, and_self] at hf
  have key : (vOf s x).n = (vOf s o).n := by grind
  exact ⟨(fun h => absurd h (show ¬ (3 : Int) = 1 by decide)), (fun h => absurd h (show ¬ (3 : Int) = 2 by decide)), (fun _ => key), (fun h => absurd h (show ¬ (3 : Int) = 4 by decide)), (fun h => absurd h (show ¬ (3 : Int) = 5 by decide)), (fun h => absurd h (show ¬ (3 : Int) = 6 by decide)), (fun h => absurd h (show ¬ (3 : Int) = 7 by decide)), (fun h => absurd h (show ¬ (3 : Int) = 8 by decide)), (fun h => absurd h (show ¬ (3 : Int) = 9 by decide)), (fun h => absurd h (show ¬ (3 : Int) = 10 by decide)), (fun h => absurd h (show ¬ (3 : Int) = 11 by decide)), (fun h => absurd h (show ¬ (3 : Int) = 12 by decide)), (fun h => absurd h (show ¬ (3 : Int) = 13 by decide)), (fun h => absurd h (show ¬ (3 : Int) = 14 by decide)), (fun h => absurd h (show ¬ (3 : Int) = 15 by decide)), (fun h => absurd h (show ¬ (3 : Int) = 16 by decide))⟩
 ·obtain ⟨x, y, rfl⟩ := l2 (hl.trans (by decide))
  have gx := aE hv (ha x (by simp))
  have gy := aE hv (ha y (by simp))
  simp only [aA, bu, bSq, bq, bP, cY, List.length_cons, List.length_nil, List.getD_cons_zero, List.getD_cons_succ, eD, Nat.reduceAdd, Nat.reduceLT, if_true, if_false, reduceCtorEq, Int.reduceEq, reduceIte, Int.reduceLE, Int.reduceLT, and_self] at hf
  have key : (vOf s x).n = (vOf s o).n ∧ (vOf s y).n = (vOf s o).n := by grind
  exact ⟨(fun h => absurd h (show ¬ (4 : Int) = 1 by decide)), (fun h => absurd h (show ¬ (4 : Int) = 2 by decide)), (fun h => absurd h (show ¬ (4 : Int) = 3 by decide)), (fun _ => key), (fun h => absurd h (show ¬ (4 : Int) = 5 by decide)), (fun h => absurd h (show ¬ (4 : Int) = 6 by decide)), (fun h => absurd h (show ¬ (4 : Int) = 7 by decide)), (fun h => absurd h (show ¬ (4 : Int) = 8 by decide)), (fun h => absurd h (show ¬ (4 : Int) = 9 by decide)), (fun h => absurd h (show ¬ (4 : Int) = 10 by decide)), (fun h => absurd h (show ¬ (4 : Int) = 11 by decide)), (fun h => absurd h (show ¬ (4 : Int) = 12 by decide)), (fun h => absurd h (show ¬ (4 : Int) = 13 by decide)), (fun h => absurd h (show ¬ (4 : Int) = 14 by decide)), (fun h => absurd h (show ¬ (4 : Int) = 15 by decide)), (fun h => absurd h (show ¬ (4 : Int) = 16 by decide))⟩
 ·obtain ⟨x, y, z, rfl⟩ := l3 (hl.trans (by decide))
  have gx := aE hv (ha x (by simp))
  have gy := aE hv (ha y (by simp))
  have gz := aE hv (ha z (by simp))
  simp only [aA, bu, bSq, bq, bP, cY, List.length_cons, List.length_nil, List.getD_cons_zero, List.getD_cons_succ, eD, Nat.reduceAdd, Nat.reduceLT, if_true, if_false, reduceCtorEq, Int.reduceEq, reduceIte, Int.reduceLE, Int.reduceLT, and_self] at hf
  have key : (vOf s x).n = 0 ∧ (vOf s y).n = (vOf s o).n ∧ (vOf s z).n = (vOf s o).n := by grind
  exact ⟨(fun h => absurd h (show ¬ (5 : Int) = 1 by decide)), (fun h => absurd h (show ¬ (5 : Int) = 2 by decide)), (fun h => absurd h (show ¬ (5 : Int) = 3 by decide)), (fun h => absurd h (show ¬ (5 : Int) = 4 by decide)), (fun _ => key), (fun h => absurd h (show ¬ (5 : Int) = 6 by decide)), (fun h => absurd h (show ¬ (5 : Int) = 7 by decide)), (fun h => absurd h (show ¬ (5 : Int) = 8 by decide)), (fun h => absurd h (show ¬ (5 : Int) = 9 by decide)), (fun h => absurd h (show ¬ (5 : Int) = 10 by decide)), (fun h => absurd h (show ¬ (5 : Int) = 11 by decide)), (fun h => absurd h (show ¬ (5 : Int) = 12 by decide)), (fun h => absurd h (show ¬ (5 : Int) = 13 by decide)), (fun h => absurd h (show ¬ (5 : Int) = 14 by decide)), (fun h => absurd h (show ¬ (5 : Int) = 15 by decide)), (fun h => absurd h (show ¬ (5 : Int) = 16 by decide))⟩
 ·obtain ⟨x, y, rfl⟩ := l2 (hl.trans (by decide))
  have gx := aE hv (ha x (by simp))
  have gy := aE hv (ha y (by simp))
  simp only [aA, bu, bSq, bq, bP, cY, List.length_cons, List.length_nil, List.getD_cons_zero, List.getD_cons_succ, eD, Nat.reduceAdd, Nat.reduceLT, if_true, if_false, reduceCtorEq, Int.reduceEq, reduceIte, Int.reduceLE, Int.reduceLT, and_self] at hf
  have key : (vOf s x).n = 0 ∧ (vOf s o).n = 0 ∧ (vOf s y).n > 0 := by grind
  exact ⟨(fun h => absurd h (show ¬ (6 : Int) = 1 by decide)), (fun h => absurd h (show ¬ (6 : Int) = 2 by decide)), (fun h => absurd h (show ¬ (6 : Int) = 3 by decide)), (fun h => absurd h (show ¬ (6 : Int) = 4 by decide)), (fun h => absurd h (show ¬ (6 : Int) = 5 by decide)), (fun _ => key), (fun h => absurd h (show ¬ (6 : Int) = 7 by decide)), (fun h => absurd h (show ¬ (6 : Int) = 8 by decide)), (fun h => absurd h (show ¬ (6 : Int) = 9 by decide)), (fun h => absurd h (show ¬ (6 : Int) = 10 by decide)), (fun h => absurd h (show ¬ (6 : Int) = 11 by decide)), (fun h => absurd h (show ¬ (6 : Int) = 12 by decide)), (fun h => absurd h (show ¬ (6 : Int) = 13 by decide)), (fun h => absurd h (show ¬ (6 : Int) = 14 by decide)), (fun h => absurd h (show ¬ (6 : Int) = 15 by decide)), (fun h => absurd h (show ¬ (6 : Int) = 16 by decide))⟩
 ·obtain ⟨x, y, rfl⟩ := l2 (hl.trans (by decide))
  have gx := aE hv (ha x (by simp))
  have gy := aE hv (ha y (by simp))
  simp only [aA, bu, bSq, bq, bP, cY, List.length_cons, List.length_nil, List.getD_cons_zero, List.getD_cons_succ, eD, Nat.reduceAdd, Nat.reduceLT, if_true, if_false, reduceCtorEq, Int.reduceEq, reduceIte, Int.reduceLE, Int.reduceLT, and_self] at hf
  have key : (vOf s x).n = 0 ∧ (vOf s y).n = (vOf s o).n ∧ (vOf s o).n > 0 := by grind
  exact ⟨(fun h => absurd h (show ¬ (7 : Int) = 1 by decide)), (fun h => absurd h (show ¬ (7 : Int) = 2 by decide)), (fun h => absurd h (show ¬ (7 : Int) = 3 by decide)), (fun h => absurd h (show ¬ (7 : Int) = 4 by decide)), (fun h => absurd h (show ¬ (7 : Int) = 5 by decide)), (fun h => absurd h (show ¬ (7 : Int) = 6 by decide)), (fun _ => key), (fun h => absurd h (show ¬ (7 : Int) = 8 by decide)), (fun h => absurd h (show ¬ (7 : Int) = 9 by decide)), (fun h => absurd h (show ¬ (7 : Int) = 10 by decide)), (fun h => absurd h (show ¬ (7 : Int) = 11 by decide)), (fun h => absurd h (show ¬ (7 : Int) = 12 by decide)), (fun h => absurd h (show ¬ (7 : Int) = 13 by decide)), (fun h => absurd h (show ¬ (7 : Int) = 14 by decide)), (fun h => absurd h (show ¬ (7 : Int) = 15 by decide)), (fun h => absurd h (show ¬ (7 : Int) = 16 by decide))⟩
 ·obtain ⟨x, rfl⟩ := l1 (hl.trans (by decide))
  have gx := aE hv (ha x (by simp))
  simp only [aA, bu, bSq, bq, bP, cY, List.length_cons, List.length_nil, List.getD_cons_zero, List.getD_cons_succ, eD, Nat.reduceAdd, Nat.reduceLT, if_true, if_false, reduceCtorEq, Int.reduceEq, reduceIte, Int.reduceLE, Int.reduceLT, and_self] at hf
  have key : (vOf s x).n = 0 ∧ (vOf s o).n > 0 := by grind
  exact ⟨(fun h => absurd h (show ¬ (8 : Int) = 1 by decide)), (fun h => absurd h (show ¬ (8 : Int) = 2 by decide)), (fun h => absurd h (show ¬ (8 : Int) = 3 by decide)), (fun h => absurd h (show ¬ (8 : Int) = 4 by decide)), (fun h => absurd h (show ¬ (8 : Int) = 5 by decide)), (fun h => absurd h (show ¬ (8 : Int) = 6 by decide)), (fun h => absurd h (show ¬ (8 : Int) = 7 by decide)), (fun _ => key), (fun h => absurd h (show ¬ (8 : Int) = 9 by decide)), (fun h => absurd h (show ¬ (8 : Int) = 10 by decide)), (fun h => absurd h (show ¬ (8 : Int) = 11 by decide)), (fun h => absurd h (show ¬ (8 : Int) = 12 by decide)), (fun h => absurd h (show ¬ (8 : Int) = 13 by decide)), (fun h => absurd h (show ¬ (8 : Int) = 14 by decide)), (fun h => absurd h (show ¬ (8 : Int) = 15 by decide)), (fun h => absurd h (show ¬ (8 : Int) = 16 by decide))⟩
 ·obtain ⟨x, y, z, rfl⟩ := l3 (hl.trans (by decide))
  have gx := aE hv (ha x (by simp))
  have gy := aE hv (ha y (by simp))
  have gz := aE hv (ha z (by simp))
  simp only [aA, bu, bSq, bq, bP, cY, List.length_cons, List.length_nil, List.getD_cons_zero, List.getD_cons_succ, eD, Nat.reduceAdd, Nat.reduceLT, if_true, if_false, reduceCtorEq, Int.reduceEq, reduceIte, Int.reduceLE, Int.reduceLT, and_self] at hf
  have key : (vOf s x).n > 0 ∧ (vOf s y).n = 0 ∧ (vOf s z).n = 0 ∧ (vOf s o).n = 0 := by grind
  exact ⟨(fun h => absurd h (show ¬ (9 : Int) = 1 by decide)), (fun h => absurd h (show ¬ (9 : Int) = 2 by decide)), (fun h => absurd h (show ¬ (9 : Int) = 3 by decide)), (fun h => absurd h (show ¬ (9 : Int) = 4 by decide)), (fun h => absurd h (show ¬ (9 : Int) = 5 by decide)), (fun h => absurd h (show ¬ (9 : Int) = 6 by decide)), (fun h => absurd h (show ¬ (9 : Int) = 7 by decide)), (fun h => absurd h (show ¬ (9 : Int) = 8 by decide)), (fun _ => key), (fun h => absurd h (show ¬ (9 : Int) = 10 by decide)), (fun h => absurd h (show ¬ (9 : Int) = 11 by decide)), (fun h => absurd h (show ¬ (9 : Int) = 12 by decide)), (fun h => absurd h (show ¬ (9 : Int) = 13 by decide)), (fun h => absurd h (show ¬ (9 : Int) = 14 by decide)), (fun h => absurd h (show ¬ (9 : Int) = 15 by decide)), (fun h => absurd h (show ¬ (9 : Int) = 16 by decide))⟩
 ·obtain ⟨x, y, z, rfl⟩ := l3 (hl.trans (by decide))
  have gx := aE hv (ha x (by simp))
  have gy := aE hv (ha y (by simp))
  have gz := aE hv (ha z (by simp))
  simp only [aA, bu, bSq, bq, bP, cY, List.length_cons, List.length_nil, List.getD_cons_zero, List.getD_cons_succ, eD, Nat.reduceAdd, Nat.reduceLT, if_true, if_false, reduceCtorEq, Int.reduceEq, reduceIte, Int.reduceLE, Int.reduceLT, and_self] at hf
  have key : (vOf s x).n = (vOf s o).n ∧ (vOf s o).n > 0 ∧ (vOf s y).n = 0 ∧ (vOf s z).n = 0 := by grind
  exact ⟨(fun h => absurd h (show ¬ (10 : Int) = 1 by decide)), (fun h => absurd h (show ¬ (10 : Int) = 2 by decide)), (fun h => absurd h (show ¬ (10 : Int) = 3 by decide)), (fun h => absurd h (show ¬ (10 : Int) = 4 by decide)), (fun h => absurd h (show ¬ (10 : Int) = 5 by decide)), (fun h => absurd h (show ¬ (10 : Int) = 6 by decide)), (fun h => absurd h (show ¬ (10 : Int) = 7 by decide)), (fun h => absurd h (show ¬ (10 : Int) = 8 by decide)), (fun h => absurd h (show ¬ (10 : Int) = 9 by decide)), (fun _ => key), (fun h => absurd h (show ¬ (10 : Int) = 11 by decide)), (fun h => absurd h (show ¬ (10 : Int) = 12 by decide)), (fun h => absurd h (show ¬ (10 : Int) = 13 by decide)), (fun h => absurd h (show ¬ (10 : Int) = 14 by decide)), (fun h => absurd h (show ¬ (10 : Int) = 15 by decide)), (fun h => absurd h (show ¬ (10 : Int) = 16 by decide))⟩
 ·obtain ⟨x, rfl⟩ := l1 (hl.trans (by decide))
  have gx := aE hv (ha x (by simp))
  simp only [aA, bu, bSq, bq, bP, cY, List.length_cons, List.length_nil, List.getD_cons_zero, List.getD_cons_succ, eD, Nat.reduceAdd, Nat.reduceLT, if_true, if_false, reduceCtorEq, Int.reduceEq, reduceIte, Int.reduceLE, Int.reduceLT, and_self] at hf
  have w := (wrd gx.2 go.2).1
  rw [w] at hf
  have key : (vOf s x).n > 0 ∧ (vOf s o).n > 0 ∧ 0 ≤ n ∧ n + (vOf s o).n ≤ (vOf s x).n := by grind
  exact ⟨(fun h => absurd h (show ¬ (11 : Int) = 1 by decide)), (fun h => absurd h (show ¬ (11 : Int) = 2 by decide)), (fun h => absurd h (show ¬ (11 : Int) = 3 by decide)), (fun h => absurd h (show ¬ (11 : Int) = 4 by decide)), (fun h => absurd h (show ¬ (11 : Int) = 5 by decide)), (fun h => absurd h (show ¬ (11 : Int) = 6 by decide)), (fun h => absurd h (show ¬ (11 : Int) = 7 by decide)), (fun h => absurd h (show ¬ (11 : Int) = 8 by decide)), (fun h => absurd h (show ¬ (11 : Int) = 9 by decide)), (fun h => absurd h (show ¬ (11 : Int) = 10 by decide)), (fun _ => key), (fun h => absurd h (show ¬ (11 : Int) = 12 by decide)), (fun h => absurd h (show ¬ (11 : Int) = 13 by decide)), (fun h => absurd h (show ¬ (11 : Int) = 14 by decide)), (fun h => absurd h (show ¬ (11 : Int) = 15 by decide)), (fun h => absurd h (show ¬ (11 : Int) = 16 by decide))⟩
 ·obtain ⟨x, y, rfl⟩ := l2 (hl.trans (by decide))
  have gx := aE hv (ha x (by simp))
  have gy := aE hv (ha y (by simp))
  simp only [aA, bu, bSq, bq, bP, cY, List.length_cons, List.length_nil, List.getD_cons_zero, List.getD_cons_succ, eD, Nat.reduceAdd, Nat.reduceLT, if_true, if_false, reduceCtorEq, Int.reduceEq, reduceIte, Int.reduceLE, Int.reduceLT, and_self] at hf
  have w := (wrd gx.2 gy.2).2
  rw [w] at hf
  have key : (vOf s x).n > 0 ∧ (vOf s y).n > 0 ∧ (vOf s o).n = (vOf s x).n + (vOf s y).n := by grind
  exact ⟨(fun h => absurd h (show ¬ (12 : Int) = 1 by decide)), (fun h => absurd h (show ¬ (12 : Int) = 2 by decide)), (fun h => absurd h (show ¬ (12 : Int) = 3 by decide)), (fun h => absurd h (show ¬ (12 : Int) = 4 by decide)), (fun h => absurd h (show ¬ (12 : Int) = 5 by decide)), (fun h => absurd h (show ¬ (12 : Int) = 6 by decide)), (fun h => absurd h (show ¬ (12 : Int) = 7 by decide)), (fun h => absurd h (show ¬ (12 : Int) = 8 by decide)), (fun h => absurd h (show ¬ (12 : Int) = 9 by decide)), (fun h => absurd h (show ¬ (12 : Int) = 10 by decide)), (fun h => absurd h (show ¬ (12 : Int) = 11 by decide)), (fun _ => key), (fun h => absurd h (show ¬ (12 : Int) = 13 by decide)), (fun h => absurd h (show ¬ (12 : Int) = 14 by decide)), (fun h => absurd h (show ¬ (12 : Int) = 15 by decide)), (fun h => absurd h (show ¬ (12 : Int) = 16 by decide))⟩
 ·obtain ⟨x, y, rfl⟩ := l2 (hl.trans (by decide))
  have gx := aE hv (ha x (by simp))
  have gy := aE hv (ha y (by simp))
  simp only [aA, bu, bSq, bq, bP, cY, List.length_cons, List.length_nil, List.getD_cons_zero, List.getD_cons_succ, eD, Nat.reduceAdd, Nat.reduceLT, if_true, if_false, reduceCtorEq, Int.reduceEq, reduceIte, Int.reduceLE, Int.reduceLT, and_self] at hf
  have key : (vOf s x).n = (vOf s o).n ∧ (vOf s y).n = (vOf s o).n := by grind
  exact ⟨(fun h => absurd h (show ¬ (13 : Int) = 1 by decide)), (fun h => absurd h (show ¬ (13 : Int) = 2 by decide)), (fun h => absurd h (show ¬ (13 : Int) = 3 by decide)), (fun h => absurd h (show ¬ (13 : Int) = 4 by decide)), (fun h => absurd h (show ¬ (13 : Int) = 5 by decide)), (fun h => absurd h (show ¬ (13 : Int) = 6 by decide)), (fun h => absurd h (show ¬ (13 : Int) = 7 by decide)), (fun h => absurd h (show ¬ (13 : Int) = 8 by decide)), (fun h => absurd h (show ¬ (13 : Int) = 9 by decide)), (fun h => absurd h (show ¬ (13 : Int) = 10 by decide)), (fun h => absurd h (show ¬ (13 : Int) = 11 by decide)), (fun h => absurd h (show ¬ (13 : Int) = 12 by decide)), (fun _ => key), (fun h => absurd h (show ¬ (13 : Int) = 14 by decide)), (fun h => absurd h (show ¬ (13 : Int) = 15 by decide)), (fun h => absurd h (show ¬ (13 : Int) = 16 by decide))⟩
 ·obtain rfl := l0 (hl.trans (by decide))
  have ht := sq hv (hu (by omega)) (tI ⟨go.2.1, go.2.2⟩) (by omega : e.length ≤ 800)
  simp only [aA, bu, bSq, bq, bP, cY, List.length_cons, List.length_nil, List.getD_cons_zero, List.getD_cons_succ, eD, Nat.reduceAdd, Nat.reduceLT, if_true, if_false, reduceCtorEq, Int.reduceEq, reduceIte, Int.reduceLE, Int.reduceLT, and_self, ht] at hf
  have nz := wq go.1
  have key : jQ s (dY (vOf s o).n) e ≠ 0 := by grind
  exact ⟨(fun h => absurd h (show ¬ (14 : Int) = 1 by decide)), (fun h => absurd h (show ¬ (14 : Int) = 2 by decide)), (fun h => absurd h (show ¬ (14 : Int) = 3 by decide)), (fun h => absurd h (show ¬ (14 : Int) = 4 by decide)), (fun h => absurd h (show ¬ (14 : Int) = 5 by decide)), (fun h => absurd h (show ¬ (14 : Int) = 6 by decide)), (fun h => absurd h (show ¬ (14 : Int) = 7 by decide)), (fun h => absurd h (show ¬ (14 : Int) = 8 by decide)), (fun h => absurd h (show ¬ (14 : Int) = 9 by decide)), (fun h => absurd h (show ¬ (14 : Int) = 10 by decide)), (fun h => absurd h (show ¬ (14 : Int) = 11 by decide)), (fun h => absurd h (show ¬ (14 : Int) = 12 by decide)), (fun h => absurd h (show ¬ (14 : Int) = 13 by decide)), (fun _ => key), (fun h => absurd h (show ¬ (14 : Int) = 15 by decide)), (fun h => absurd h (show ¬ (14 : Int) = 16 by decide))⟩
 ·obtain ⟨x, rfl⟩ := l1 (hl.trans (by decide))
  have gx := aE hv (ha x (by simp))
  have ht := fun hn => sq hv (n := n) (hu (by omega)) hn (by omega : e.length ≤ 800)
  simp only [aA, bu, bSq, bq, bP, cY, List.length_cons, List.length_nil, List.getD_cons_zero, List.getD_cons_succ, eD, Nat.reduceAdd, Nat.reduceLT, if_true, if_false, reduceCtorEq, Int.reduceEq, reduceIte, Int.reduceLE, Int.reduceLT, and_self] at hf
  have nz := wq go.1
  have key : (vOf s x).n = 0 ∧ (vOf s o).n = 0 ∧ 1 ≤ n ∧ n ≤ 300 ∧ jQ s n e ≠ 0 := by
   by_cases hn : 1 ≤ n ∧ n ≤ 300
   ·rw [ht hn] at hf; grind
   ·exfalso; grind
  exact ⟨(fun h => absurd h (show ¬ (15 : Int) = 1 by decide)), (fun h => absurd h (show ¬ (15 : Int) = 2 by decide)), (fun h => absurd h (show ¬ (15 : Int) = 3 by decide)), (fun h => absurd h (show ¬ (15 : Int) = 4 by decide)), (fun h => absurd h (show ¬ (15 : Int) = 5 by decide)), (fun h => absurd h (show ¬ (15 : Int) = 6 by decide)), (fun h => absurd h (show ¬ (15 : Int) = 7 by decide)), (fun h => absurd h (show ¬ (15 : Int) = 8 by decide)), (fun h => absurd h (show ¬ (15 : Int) = 9 by decide)), (fun h => absurd h (show ¬ (15 : Int) = 10 by decide)), (fun h => absurd h (show ¬ (15 : Int) = 11 by decide)), (fun h => absurd h (show ¬ (15 : Int) = 12 by decide)), (fun h => absurd h (show ¬ (15 : Int) = 13 by decide)), (fun h => absurd h (show ¬ (15 : Int) = 14 by decide)), (fun _ => key), (fun h => absurd h (show ¬ (15 : Int) = 16 by decide))⟩
 ·obtain ⟨x, rfl⟩ := l1 (hl.trans (by decide))
  have gx := aE hv (ha x (by simp))
  have ht := fun hn => sq hv (n := (vOf s o).n) (hu (by omega)) hn (by omega : e.length ≤ 800)
  simp only [aA, bu, bSq, bq, bP, cY, List.length_cons, List.length_nil, List.getD_cons_zero, List.getD_cons_succ, eD, Nat.reduceAdd, Nat.reduceLT, if_true, if_false, reduceCtorEq, Int.reduceEq, reduceIte, Int.reduceLE, Int.reduceLT, and_self] at hf
  have nz := wq go.1
  have key : (vOf s x).n = 0 ∧ (vOf s o).n > 0 ∧ jQ s (vOf s o).n e ≠ 0 := by
   by_cases hn : 1 ≤ (vOf s o).n ∧ (vOf s o).n ≤ 300
   ·rw [ht hn] at hf; grind
   ·exfalso; grind
  exact ⟨(fun h => absurd h (show ¬ (16 : Int) = 1 by decide)), (fun h => absurd h (show ¬ (16 : Int) = 2 by decide)), (fun h => absurd h (show ¬ (16 : Int) = 3 by decide)), (fun h => absurd h (show ¬ (16 : Int) = 4 by decide)), (fun h => absurd h (show ¬ (16 : Int) = 5 by decide)), (fun h => absurd h (show ¬ (16 : Int) = 6 by decide)), (fun h => absurd h (show ¬ (16 : Int) = 7 by decide)), (fun h => absurd h (show ¬ (16 : Int) = 8 by decide)), (fun h => absurd h (show ¬ (16 : Int) = 9 by decide)), (fun h => absurd h (show ¬ (16 : Int) = 10 by decide)), (fun h => absurd h (show ¬ (16 : Int) = 11 by decide)), (fun h => absurd h (show ¬ (16 : Int) = 12 by decide)), (fun h => absurd h (show ¬ (16 : Int) = 13 by decide)), (fun h => absurd h (show ¬ (16 : Int) = 14 by decide)), (fun h => absurd h (show ¬ (16 : Int) = 15 by decide)), (fun _ => key)⟩
def sr (l : List Int) (at_ o : Int) : Int := if 0 ≤ at_ ∧ at_ < (l.length : Int) then l.getD at_.toNat default else o
noncomputable def nf (V : Int → List Int) (k : Int) (p : aq) (st : List Int) : List Int :=
 if p.op = 1 then p.n :: st
 else if p.op = 2 then (V p.v).getD 0 default :: st
 else if p.op = 3 then (V p.v).getD (k + p.n).toNat default :: st
 else if p.op = 4 then IntKind.wrap .i64 (k + p.n) :: st
 else if p.op = 5 then app p.k (st.getD 0 default) 0 :: st.drop 1
 else if p.op = 6 then app p.k (st.getD 1 default) (st.getD 0 default) :: st.drop 2
 else if p.op = 7 then (if ¬ st.getD 2 default = 0 then st.getD 1 default else st.getD 0 default) :: st.drop 3
 else sr (V p.v) (st.getD 1 default) (st.getD 0 default) :: st.drop 2
noncomputable def uz (V : Int → List Int) (k : Int) : List aq → List Int → List Int
 | [], st => st
 | p :: r, st => uz V k r (nf V k p st)
noncomputable def oU (V : Int → List Int) (k : Int) (l : List aq) (i : Nat) : List Int := uz V k (l.take i) []
noncomputable def s7 (V : Int → List Int) (k : Int) (l : List aq) : Int := (oU V k l l.length).getD 0 default
structure gn (s : ae) (V : Int → List Int) (v : Int) : Prop where
 len : (V v).length = clN s v
 ok : ∀ y ∈ V v, okI .i64 y
theorem qV (V : Int → List Int) (k : Int) : ∀ (l m : List aq) (st : List Int), uz V k (l ++ m) st = uz V k m (uz V k l st)
 | [], m, st => rfl
 | s :: l, m, st => by simp only [List.cons_append, uz]; exact qV V k l m _
theorem tJ (V : Int → List Int) (k : Int) (l : List aq) (i : Nat) (hi : i < l.length) : oU V k l (i + 1) = nf V k (l.getD i default) (oU V k l i) := by
 unfold oU
 have : l.take (i + 1) = l.take i ++ [l.getD i default] := by
  rw [List.take_succ, List.getElem?_eq_getElem hi]
  simp [List.getD, hi]
 rw [this, qV]
 rfl
theorem xU (V : Int → List Int) (k : Int) (l : List aq) : oU V k l 0 = [] := rfl
theorem n5 (s : ae) (v : Int) : 1 ≤ clN s v := by unfold clN dY; split <;> omega
theorem mZ {s : ae} {v : Int} (h : nV s v > 0) : (clN s v : Int) = nV s v := by unfold clN dY; rw [iN (by omega)]; omega
theorem rh {s : ae} {v : Int} (h : nV s v = 0) : clN s v = 1 := by unfold clN dY; rw [iP (by omega)]; rfl
theorem zf {s : ae} {V : Int → List Int} {n k : Int} {p : aq} {rs rs' st : List Int} (h : dm s n p rs = some rs') (hl : st.length = rs.length) (hp : okI .i64 p.n) (hV : (p.op = 2 ∨ p.op = 3 ∨ p.op = 8) → gn s V p.v) (hst : ∀ y ∈ st, okI .i64 y) :
  (nf V k p st).length = rs'.length ∧ ∀ y ∈ nf V k p st, okI .i64 y := by
 unfold dm at h
 unfold nf
 have hd : ∀ n, ∀ y ∈ st.drop n, okI .i64 y := fun n y hy => hst y (List.mem_of_mem_drop hy)
 have cons : ∀ {v : Int} {r : List Int}, okI .i64 v → (∀ y ∈ r, okI .i64 y) → ∀ y ∈ v :: r, okI .i64 y := fun hv hr y hy => by
  rcases List.mem_cons.1 hy with rfl | hy
  ·exact hv
  ·exact hr y hy
 by_cases o1 : p.op = 1
 ·rw [iP o1] at h ⊢
  refine ⟨?_, cons hp hst⟩
  repeat' split at h
  all_goals first | (simp only [sJ] at h; subst h; simp; omega) | cases h
 rw [iN o1] at h ⊢
 by_cases o2 : p.op = 2
 ·rw [iP o2] at h ⊢
  refine ⟨?_, cons (cK (hV (.inl o2)).ok _) hst⟩
  split at h
  ·simp only [sJ] at h; subst h; simp; omega
  ·cases h
 rw [iN o2] at h ⊢
 by_cases o3 : p.op = 3
 ·rw [iP o3] at h ⊢
  refine ⟨?_, cons (cK (hV (.inr (.inl o3))).ok _) hst⟩
  split at h
  ·simp only [sJ] at h; subst h; simp; omega
  ·cases h
 rw [iN o3] at h ⊢
 by_cases o4 : p.op = 4
 ·rw [iP o4] at h ⊢
  refine ⟨?_, cons (mY _) hst⟩
  split at h
  ·simp only [sJ] at h; subst h; simp; omega
  ·cases h
 rw [iN o4] at h ⊢
 by_cases o5 : p.op = 5
 ·rw [iP o5] at h ⊢
  refine ⟨?_, cons (gc _ _ _ (cK hst 0) nM).2.2 (hd 1)⟩
  split at h
  ·split at h
   ·simp only [sJ] at h; subst h; simp at hl ⊢; omega
   ·cases h
  ·cases h
 rw [iN o5] at h ⊢
 by_cases o6 : p.op = 6
 ·rw [iP o6] at h ⊢
  refine ⟨?_, cons (gc _ _ _ (cK hst 1) (cK hst 0)).2.2 (hd 2)⟩
  split at h
  ·split at h
   ·simp only [sJ] at h; subst h; simp at hl ⊢; omega
   ·cases h
  ·cases h
 rw [iN o6] at h ⊢
 by_cases o7 : p.op = 7
 ·rw [iP o7] at h ⊢
  refine ⟨?_, cons (by split; exact cK hst 1; exact cK hst 0) (hd 3)⟩
  split at h
  ·split at h
   ·simp only [sJ] at h; subst h; simp at hl ⊢; omega
   ·cases h
  ·cases h
 rw [iN o7] at h ⊢
 by_cases o8 : p.op = 8
 ·rw [iP o8] at h
  refine ⟨?_, cons (by unfold sr; split; exact cK (hV (.inr (.inr o8))).ok _; exact cK hst 0) (hd 2)⟩
  split at h
  ·split at h
   ·simp only [sJ] at h; subst h; simp at hl ⊢; omega
   ·cases h
  ·cases h
 ·rw [iN o8] at h; cases h
theorem qB (s : ae) (n : Int) : ∀ (a b : List aq) (rs : List Int), jP s n (a ++ b) rs = (jP s n a rs).bind (jP s n b)
 | [], b, rs => rfl
 | p :: a, b, rs => by
  rw [List.cons_append, jP, jP]
  cases dm s n p rs with
  | none => rfl
  | some r => exact qB s n a b r
theorem vp {s : ae} {V : Int → List Int} {n k : Int} {l : List aq} {fin : List Int} (hlo : ∀ p ∈ l, okI .i64 p.n) (hV : ∀ p ∈ l, (p.op = 2 ∨ p.op = 3 ∨ p.op = 8) → gn s V p.v) (h : jP s n l [] = some fin) :
  ∀ i, i ≤ l.length → ∃ rs, jP s n (l.take i) [] = some rs ∧ (oU V k l i).length = rs.length ∧ rs.length ≤ i ∧ (∀ y ∈ oU V k l i, okI .i64 y) ∧ (i < l.length → ∃ rs', dm s n (l.getD i default) rs = some rs') := by
 have nxt : ∀ i rs, i < l.length → jP s n (l.take i) [] = some rs → ∃ rs', dm s n (l.getD i default) rs = some rs' := by
  intro i rs hi hrs
  have hsp : l = l.take i ++ (l.getD i default :: l.drop (i + 1)) := by
   have : l.drop i = l.getD i default :: l.drop (i + 1) := by
    rw [List.drop_eq_getElem_cons hi]; simp [List.getD, hi]
   rw [← this, List.take_append_drop]
  rw [hsp, qB, hrs] at h
  simp only [bSq, jP] at h
  cases hn : dm s n (l.getD i default) rs with
  | none => rw [hn] at h; cases h
  | some rs' => exact ⟨rs', rfl⟩
 intro i
 induction i with
 | zero =>
  intro _
  refine ⟨[], rfl, rfl, Nat.le_refl _, fun y hy => ?_, fun hi => nxt 0 [] hi rfl⟩
  rw [xU] at hy; simp at hy
 | succ i ih =>
  intro hi
  obtain ⟨rs, h1, h2, h3, h4, h5⟩ := ih (by omega)
  obtain ⟨rs', hn⟩ := h5 (by omega)
  have hm : l.getD i default ∈ l := aN (by omega)
  obtain ⟨q1, q2⟩ := zf (V := V) (k := k) hn h2 (hlo _ hm) (hV _ hm) h4
  have htk : jP s n (l.take (i + 1)) [] = some rs' := by
   have : l.take (i + 1) = l.take i ++ [l.getD i default] := by
    rw [List.take_succ, List.getElem?_eq_getElem (by omega)]
    simp [List.getD, (show i < l.length by omega)]
   rw [this, qB, h1]
   simp only [bSq, jP, hn]
  have hlen : rs'.length ≤ rs.length + 1 := by
   have : (nf V k (l.getD i default) (oU V k l i)).length ≤ (oU V k l i).length + 1 := by
    unfold nf
    repeat' split
    all_goals simp
    all_goals omega
   omega
  rw [tJ V k l i (by omega)]
  exact ⟨rs', htk, q1, by omega, q2, fun hi' => nxt (i + 1) rs' hi' htk⟩
def fd (l : List (List Int)) (v : Int) : List Int := l.getD v.toNat default
theorem wZ (l : List Int) (a o : Int) : kN l a o = some (sr l a o) := by
 unfold kN sr
 by_cases h1 : a < 0
 ·rw [iP h1, iN (by omega)]
 ·by_cases h2 : a ≥ (l.length : Int)
  ·rw [iN h1, iP h2, iN (by omega)]
  ·rw [iN h1, iN h2, iP (by omega), iP (by omega)]
theorem iU (n : Nat) (h : n ≤ 1000000) : dt n 8 := by
 unfold dt
 have : maxLen = 9223372036854775807 := rfl
 omega
theorem zg {s : ae} {L : List (List Int)} {e : List aq} {n k : Int} {rs rs' st : List Int} {i : Nat} (hi : i < e.length) (hi' : i < 100000) (h : dm s n (e.getD i default) rs = some rs') (hl : st.length = rs.length) (hb : rs.length ≤ 900)
  (hk : 0 ≤ k ∧ k < n) (hn : n ≤ 300) (hL : L.length = s.vars.length) (hu : nF s (e.getD i default)) (hV : ((e.getD i default).op = 2 ∨ (e.getD i default).op = 3 ∨ (e.getD i default).op = 8) → gn s (fd L) (e.getD i default).v) (hst : ∀ y ∈ st, okI .i64 y) (hv : eT s) :
  cD e k L st.reverse (i : Int) = some (.inl ((nf (fd L) k (e.getD i default) st).reverse, ((i + 1 : Nat) : Int))) := by
 unfold cD
 rw [iP (ltI hi), iP (inI hi)]
 simp only [tN]
 rw [wrs i (by omega)]
 have hin : ∀ v : Int, inV s v → 0 ≤ v ∧ v < (L.length : Int) := fun v hv => by unfold inV at hv; omega
 have he : ∀ v : Int, L.getD v.toNat default = fd L v := fun _ => rfl
 have hvo : ∀ v : Int, s.vars.getD v.toNat default = vOf s v := fun _ => rfl
 have hlr : st.reverse.length ≤ 900 := by simp; omega
 revert h hu hV
 generalize e.getD i default = p
 intro h hu hV
 unfold dm at h
 unfold nf
 simp only [he]
 simp only [hvo] at h
 by_cases o1 : p.op = 1
 ·rw [iP o1, iP o1, iP (iU _ (by omega)), e9]
 rw [iN o1] at h ⊢
 rw [iN o1]
 by_cases o2 : p.op = 2
 ·rw [iP o2] at h
  rw [iP o2, iP o2]
  have g := (hV (.inl o2)).len
  have := n5 s p.v
  rw [iP ⟨hin _ (hu (.inl o2)), by omega, iU _ (by omega)⟩, e9]
 rw [iN o2] at h ⊢
 rw [iN o2]
 by_cases o3 : p.op = 3
 ·rw [iP o3] at h
  rw [iP o3, iP o3]
  split at h
  ·rename_i hh
   have g := (hV (.inr (.inl o3))).len
   have hc : (clN s p.v : Int) = (vOf s p.v).n := mZ (show nV s p.v > 0 from hh.1)
   have go := aE hv (hu (.inr (.inl o3)))
   rw [wr (n := k + p.n) (by omega) (by omega), iP ⟨hin _ (hu (.inr (.inl o3))), by omega, iU _ (by omega)⟩, e9]
  ·cases h
 rw [iN o3] at h ⊢
 rw [iN o3]
 by_cases o4 : p.op = 4
 ·rw [iP o4, iP o4, iP (iU _ (by omega)), e9]
 rw [iN o4] at h ⊢
 rw [iN o4]
 by_cases o5 : p.op = 5
 ·rw [iP o5] at h
  rw [iP o5, iP o5]
  match rs, h with
  | a :: r, h =>
   match st, hl, hst with
   | x :: q, hl, hst =>
    have hq : q.length ≤ 900 := by simp at hl hb; omega
    rw [wl1 x q (by omega)]
    simp only [tN]
    rw [iP ⟨by omega, by rw [dp, List.length_cons]; omega⟩, (rv1 x q).1, (gc p.k x 0 (hst x (by simp)) nM).1]
    simp only [bSq, yO, List.getD_cons_zero, List.drop_succ_cons, List.drop_zero]
   | [], hl, _ => simp at hl
  | [], h => cases h
 rw [iN o5] at h ⊢
 rw [iN o5]
 by_cases o6 : p.op = 6
 ·rw [iP o6] at h
  rw [iP o6, iP o6]
  match rs, h with
  | a :: b :: r, h =>
   match st, hl, hst with
   | x :: y :: q, hl, hst =>
    have hq : q.length ≤ 900 := by simp at hl hb; omega
    rw [(wl2 x y q (by omega)).1, (wl2 x y q (by omega)).2]
    simp only [tN]
    rw [iP ⟨⟨by omega, by rw [dp, List.length_cons, List.length_cons]; omega⟩, ⟨by omega, by rw [dp, List.length_cons, List.length_cons]; omega⟩, ⟨by omega, by rw [dp, List.length_cons, List.length_cons]; omega⟩⟩, (rv2 x y q).1, (rv2 x y q).2.1, (gc p.k y x (hst y (by simp)) (hst x (by simp))).1]
    simp only [bSq]
    rw [iP (iU _ (by omega)), (rv2 x y q).2.2, e9]
    rfl
   | [x], hl, _ => simp at hl
   | [], hl, _ => simp at hl
  | [a], h => cases h
  | [], h => cases h
 rw [iN o6] at h ⊢
 rw [iN o6]
 by_cases o7 : p.op = 7
 ·rw [iP o7] at h
  rw [iP o7, iP o7]
  match rs, h with
  | a :: b :: c :: r, h =>
   match st, hl, hst with
   | x :: y :: z :: q, hl, hst =>
    have hq : q.length ≤ 900 := by simp at hl hb; omega
    have j2 : ∀ v, d9 (x :: y :: z :: q).reverse (i : Int) v = some (.inl ((v :: q).reverse, ((i + 1 : Nat) : Int))) := fun v => by
     unfold d9
     rw [(wl3 x y z q (by omega)).1, wrs i (by omega)]
     simp only [tN]
     rw [iP ⟨⟨by omega, by rw [dp, List.length_cons, List.length_cons, List.length_cons]; omega⟩, iU _ (by omega)⟩, (rv3 x y z q).2.2.2, e9]
    rw [(wl3 x y z q (by omega)).1, (wl3 x y z q (by omega)).2.1, (wl3 x y z q (by omega)).2.2]
    simp only [tN]
    rw [iP ⟨by omega, by rw [dp, List.length_cons, List.length_cons, List.length_cons]; omega⟩, iP ⟨by omega, by rw [dp, List.length_cons, List.length_cons, List.length_cons]; omega⟩, (rv3 x y z q).1, (rv3 x y z q).2.1, (rv3 x y z q).2.2.1]
    by_cases hz : z = 0
    ·rw [iN (by simpa using hz), j2]
     simp [hz]
    ·rw [iP hz, iP ⟨by omega, by rw [dp, List.length_cons, List.length_cons, List.length_cons]; omega⟩, j2]
     simp [hz]
   | [x, y], hl, _ => simp at hl
   | [x], hl, _ => simp at hl
   | [], hl, _ => simp at hl
  | [a, b], h => cases h
  | [a], h => cases h
  | [], h => cases h
 rw [iN o7] at h ⊢
 rw [iN o7]
 by_cases o8 : p.op = 8
 ·rw [iP o8] at h
  rw [iP o8]
  match rs, h with
  | a :: b :: r, h =>
   match st, hl, hst with
   | x :: y :: q, hl, hst =>
    have hq : q.length ≤ 900 := by simp at hl hb; omega
    rw [(wl2 x y q (by omega)).1, (wl2 x y q (by omega)).2]
    simp only [tN]
    rw [iP ⟨⟨by omega, by rw [dp, List.length_cons, List.length_cons]; omega⟩, hin _ (hu (.inr (.inr o8))), ⟨by omega, by rw [dp, List.length_cons, List.length_cons]; omega⟩, ⟨by omega, by rw [dp, List.length_cons, List.length_cons]; omega⟩⟩, (rv2 x y q).1, (rv2 x y q).2.1, wZ]
    simp only [bSq]
    rw [iP (iU _ (by omega)), (rv2 x y q).2.2, e9]
    rfl
   | [x], hl, _ => simp at hl
   | [], hl, _ => simp at hl
  | [a], h => cases h
  | [], h => cases h
 ·rw [iN o8] at h; cases h
theorem ss {s : ae} {n : Int} {e : List aq} (h : jQ s n e ≠ 0) : ∃ x, jP s n e [] = some [x] := by
 unfold jQ at h
 split at h
 ·rename_i x hx; exact ⟨x, hx⟩
 ·exact absurd rfl h
theorem n6 {s : ae} {V : Int → List Int} {n k : Int} {l : List aq} (hlo : ∀ p ∈ l, okI .i64 p.n) (hV : ∀ p ∈ l, (p.op = 2 ∨ p.op = 3 ∨ p.op = 8) → gn s V p.v) (h : jQ s n l ≠ 0) :
  oU V k l l.length = [s7 V k l] ∧ okI .i64 (s7 V k l) := by
 obtain ⟨x, hx⟩ := ss h
 obtain ⟨rs, h1, h2, _, h4, _⟩ := vp (k := k) hlo hV hx l.length (Nat.le_refl _)
 rw [List.take_length, hx] at h1
 simp only [sJ] at h1
 subst h1
 unfold s7
 match hs : oU V k l l.length, h2 with
 | [v], _ =>
  refine ⟨rfl, ?_⟩
  rw [hs] at h4
  exact h4 v (by simp)
theorem zh {s : ae} {L : List (List Int)} {e : List aq} {n k : Int} (p3 : List ah) (p4 p5 : List Int) (p6 : List ab) (p8 : List (Int × List Int)) (hv : eT s) (he : e.length ≤ 24) (hk : 0 ≤ k ∧ k < n) (hn : n ≤ 300) (hL : L.length = s.vars.length)
  (hu : ∀ p ∈ e, nF s p) (hlo : ∀ p ∈ e, okI .i64 p.n) (hV : ∀ p ∈ e, (p.op = 2 ∨ p.op = 3 ∨ p.op = 8) → gn s (fd L) p.v) (h : jQ s n e ≠ 0) :
  fe e k p3 p4 p5 p6 L p8 = some (s7 (fd L) k e) := by
 obtain ⟨x, hx⟩ := ss h
 have inv := vp (k := k) hlo hV hx
 have key : bb (fun (y : List Int × Int) => cD e k L y.1 y.2) (([] : List Int), ((0 : Nat) : Int)) = some ((oU (fd L) k e e.length).reverse) := by
  refine gR (S := List Int × Int) (fun i => ((oU (fd L) k e i).reverse, (i : Int))) e.length _ (fun i hi => ?_) ?_
  ·obtain ⟨rs, h1, h2, h3, h4, h5⟩ := inv i (by omega)
   obtain ⟨rs', hn'⟩ := h5 hi
   have hm : e.getD i default ∈ e := aN hi
   show cD e k L (oU (fd L) k e i).reverse (i : Int) = _
   rw [zg hi (by omega) hn' h2 (by omega) hk hn hL (hu _ hm) (hV _ hm) h4 hv, tJ _ _ _ _ hi]
  ·show cD e k L _ (e.length : Int) = _
   unfold cD
   rw [iN (bH _)]
 unfold fe
 show (bb (fun (y : List Int × Int) => cD e k L y.1 y.2) (([] : List Int), ((0 : Nat) : Int))).bind _ = _
 rw [key, (n6 (k := k) hlo hV h).1]
 unfold fj
 rfl
noncomputable def iV (k : Int) : Int → List Int → List Int
  | _, [] => []
  | x, y :: r => app k x y :: iV k (app k x y) r
theorem gT (k : Int) : ∀ (x : Int) (l : List Int), (iV k x l).length = l.length
  | _, [] => rfl
  | x, y :: r => by simp [iV, gT k (app k x y) r]
theorem nO (k : Int) : ∀ (x : Int) (l : List Int), okI .i64 x → (∀ y ∈ l, okI .i64 y) → ∀ y ∈ iV k x l, okI .i64 y
  | _, [], _, _, y, hy => by simp [iV] at hy
  | x, a :: r, hx, hl, y, hy => by
    have ha := (gc k x a hx (hl a (by simp))).2.2
    rw [iV] at hy
    rcases List.mem_cons.1 hy with rfl | hy
    · exact ha
    · exact nO k _ r ha (fun y h => hl y (by simp [h])) y hy
noncomputable def su (k x : Int) (l : List Int) (i : Nat) : Int := (l.take i).foldl (app k) x
theorem tK (k x : Int) (l : List Int) (i : Nat) (h : i < l.length) : su k x l (i + 1) = app k (su k x l i) (l.getD i default) := by
  have e : l.take (i + 1) = l.take i ++ [l.getD i default] := by
    rw [List.take_succ, List.getElem?_eq_getElem h]
    simp [List.getD, h]
  unfold su
  rw [e, List.foldl_append]
  rfl
theorem w4 (k x : Int) (l : List Int) (hx : okI .i64 x) (hl : ∀ y ∈ l, okI .i64 y) : ∀ i, i ≤ l.length → okI .i64 (su k x l i)
  | 0, _ => by unfold su; simpa using hx
  | i + 1, h => by
    rw [tK k x l i (by omega)]
    exact (gc k _ _ (w4 k x l hx hl i (by omega)) (hl _ (aN (by omega)))).2.2
theorem tL (k : Int) : ∀ (x : Int) (l : List Int) (i : Nat), i < l.length → (iV k x l).getD i default = su k x l (i + 1)
  | x, y :: r, 0, _ => by simp [iV, su]
  | x, y :: r, i + 1, h => by
    have := tL k (app k x y) r i (by simpa using h)
    simp only [iV, List.getD_cons_succ]
    rw [this]
    simp [su]
theorem ws (k x : Int) (l : List Int) (i : Nat) (h : i < l.length) : (iV k x l).take (i + 1) = (iV k x l).take i ++ [su k x l (i + 1)] := by
  have hl : i < (iV k x l).length := by rw [gT]; exact h
  rw [List.take_succ, List.getElem?_eq_getElem hl]
  have := tL k x l i h
  simp only [List.getD, List.getElem?_eq_getElem hl, Option.getD_some] at this
  rw [← this]; rfl
def cS (r : ab) (i : Nat) : Int := r.a.getD i default
noncomputable def lw (V : Int → List Int) (n : Nat) (e : List aq) : List Int := gl n fun k => s7 V (k : Int) e
noncomputable def sv (l : List Int) : List Int := l.drop (l.length - 1)
noncomputable def kB (s : ae) (V : Int → List Int) (kp : List Int) (r : ab) : List Int :=
  if r.op = 1 then [r.n]
  else if r.op = 2 then V (cS r 0)
  else if r.op = 3 then gl (clN s r.out_) fun i => app r.k ((V (cS r 0)).getD i default) 0
  else if r.op = 4 then gl (clN s r.out_) fun i => app r.k ((V (cS r 0)).getD i default) ((V (cS r 1)).getD i default)
  else if r.op = 5 then (if (V (cS r 0)).getD 0 default = 0 then V (cS r 2) else V (cS r 1))
  else if r.op = 6 then sv (iV r.k ((V (cS r 0)).getD 0 default) (V (cS r 1)))
  else if r.op = 7 then iV r.k ((V (cS r 0)).getD 0 default) (V (cS r 1))
  else if r.op = 8 then gl (clN s r.out_) fun _ => (V (cS r 0)).getD 0 default
  else if r.op = 9 then [sr (V (cS r 0)) ((V (cS r 1)).getD 0 default) ((V (cS r 2)).getD 0 default)]
  else if r.op = 10 then gl (clN s r.out_) fun i => if (i : Int) = (V (cS r 1)).getD 0 default then (V (cS r 2)).getD 0 default else (V (cS r 0)).getD i default
  else if r.op = 11 then gl (clN s r.out_) fun i => (V (cS r 0)).getD (i + r.n).toNat default
  else if r.op = 12 then V (cS r 0) ++ V (cS r 1)
  else if r.op = 14 then lw V (clN s r.out_) r.e
  else if r.op = 15 then sv (iV r.k ((V (cS r 0)).getD 0 default) (lw V r.n.toNat r.e))
  else if r.op = 16 then iV r.k ((V (cS r 0)).getD 0 default) (lw V (clN s r.out_) r.e)
  else if kp = [] then V (cS r 0) else kp
theorem kS {n : Nat} {B : List Int × Int → Option ((List Int × Int) ⊕ List Int)} (g : Nat → Int)
    (hB : ∀ i l, i < n → l.length = n → B (l, (i : Int)) = some (.inl (l.set i (g i), ((i + 1 : Nat) : Int)))) (hE : ∀ l, B (l, (n : Int)) = some (.inr l)) : bb B (List.replicate n 0, ((0 : Nat) : Int)) = some (gl n g) := by
  have h := gR (S := List Int × Int) (fun i => (gl n (fun u => if u < i then g u else 0), (i : Int))) (body := B) n (gl n g) (fun i hi => by
    show B (_, (i : Int)) = _
    rw [hB i _ hi (jp _ _), u7]
    congr 3
    refine lr fun v _ => ?_
    by_cases e : v = i
    · subst e; rw [iP rfl, iP (by omega)]
    · rw [iN e]
      by_cases h' : v < i
      · rw [iP h', iP (by omega)]
      · rw [iN h', iN (by omega)]) (by
    show B (_, (n : Int)) = _
    rw [hE]
    congr 2
    exact lr fun v hv => iP hv)
  rw [u9]
  simpa using h
theorem n7 {ys : List Int} {k x : Int} {B : List Int × Int × Int → Option ((List Int × Int × Int) ⊕ List Int)} (hx : okI .i64 x) (hys : ∀ y ∈ ys, okI .i64 y)
    (hB : ∀ i l a, i < ys.length → l.length ≤ i → okI .i64 a → B (l, a, (i : Int)) = some (.inl (l ++ [app k a (ys.getD i default)], app k a (ys.getD i default), ((i + 1 : Nat) : Int)))) (hE : ∀ l a, B (l, a, (ys.length : Int)) = some (.inr l)) :
    bb B ([], x, ((0 : Nat) : Int)) = some (iV k x ys) := by
  have h := gR (S := List Int × Int × Int) (fun i => ((iV k x ys).take i, su k x ys i, (i : Int))) (body := B) ys.length (iV k x ys) (fun i hi => by
    show B (_, _, (i : Int)) = _
    rw [hB i _ _ hi (by rw [List.length_take]; omega) (w4 k x ys hx hys i (by omega)), ← tK k x ys i hi, ← ws k x ys i hi]) (by
    show B (_, _, (ys.length : Int)) = _
    rw [hE, List.take_of_length_le (by rw [gT]; omega)])
  simpa [su] using h
structure m0 (s : ae) (V : Int → List Int) (kp : List Int) (r : ab) : Prop where
  v : eT s
  g : iT s r
  ar : (r.a.length : Int) = aP r.op
  op : 1 ≤ r.op ∧ r.op ≤ 16
  sh : uy s r.op r.n (nV s r.out_) (nV s (cS r 0)) (nV s (cS r 1)) (nV s (cS r 2)) r.e
  n : okI .i64 r.n
  e : ∀ p ∈ r.e, okI .i64 p.n
  a : ∀ i, i < r.a.length → (r.op = 13 → i = 0) → gn s V (cS r i)
  p : 14 ≤ r.op → ∀ p ∈ r.e, (p.op = 2 ∨ p.op = 3 ∨ p.op = 8) → gn s V p.v
  k : kp = [] ∨ (kp.length = clN s r.out_ ∧ ∀ y ∈ kp, okI .i64 y)
theorem lz {s : ae} {v w : Int} (h : nV s v = nV s w) : clN s v = clN s w := by unfold clN; rw [h]
theorem m3 {s : ae} (hv : eT s) {v : Int} (h : inV s v) : clN s v ≤ 300 := by
  have := aE hv h
  have := (tI ⟨this.2.1, this.2.2⟩).2
  unfold clN nV
  omega
theorem iW (V : Int → List Int) (n : Nat) (e : List aq) : (lw V n e).length = n := jp _ _
theorem tM {l : List Int} (h : 0 < l.length) : (sv l).length = 1 := by unfold sv; rw [List.length_drop]; omega
theorem tO {l : List Int} {y : Int} (h : y ∈ sv l) : y ∈ l := List.mem_of_mem_drop h
theorem kc {n : Nat} {g : Nat → Int} (h : ∀ i, i < n → okI .i64 (g i)) : ∀ y ∈ gl n g, okI .i64 y := by
  intro y hy
  unfold gl at hy
  obtain ⟨i, hi, rfl⟩ := List.mem_map.1 hy
  exact h i (List.mem_range.1 hi)
theorem zi {l : List Int} {a o : Int} (h : ∀ y ∈ l, okI .i64 y) (ho : okI .i64 o) : okI .i64 (sr l a o) := by
  unfold sr
  split
  · exact cK h _
  · exact ho
theorem zj {s : ae} {V : Int → List Int} {kp : List Int} {r : ab} (h : m0 s V kp r) : (kB s V kp r).length = clN s r.out_ ∧ ∀ y ∈ kB s V kp r, okI .i64 y := by
  have hop := h.op
  have har := h.ar
  have hcs : r.op = 1 ∨ r.op = 2 ∨ r.op = 3 ∨ r.op = 4 ∨ r.op = 5 ∨ r.op = 6 ∨ r.op = 7 ∨ r.op = 8 ∨ r.op = 9 ∨ r.op = 10 ∨ r.op = 11 ∨ r.op = 12 ∨ r.op = 13 ∨ r.op = 14 ∨ r.op = 15 ∨ r.op = 16 := by omega
  have E : ∀ i, i < r.a.length → (r.op = 13 → i = 0) → gn s V (cS r i) := h.a
  have hc := n5 s r.out_
  rcases hcs with o | o | o | o | o | o | o | o | o | o | o | o | o | o | o | o <;> (rw [o] at har; simp only [kB, o, Int.reduceEq, if_true, if_false, reduceIte])
  · exact ⟨(rh (h.sh.h1 o)).symm, fun y hy => by rw [List.mem_singleton] at hy; rw [hy]; exact h.n⟩
  · have e0 := E 0 (by have : aP 2 = 1 := by decide
                       omega) (fun h => by omega)
    exact ⟨by rw [e0.len]; exact lz (h.sh.h2 o), e0.ok⟩
  · have e0 := E 0 (by have : aP 3 = 1 := by decide
                       omega) (fun h => by omega)
    exact ⟨jp _ _, kc fun i _ => (gc _ _ _ (cK e0.ok i) nM).2.2⟩
  · have hp : aP 4 = 2 := by decide
    have e0 := E 0 (by omega) (fun h => by omega)
    have e1 := E 1 (by omega) (fun h => by omega)
    exact ⟨jp _ _, kc fun i _ => (gc _ _ _ (cK e0.ok i) (cK e1.ok i)).2.2⟩
  · have hp : aP 5 = 3 := by decide
    have e1 := E 1 (by omega) (fun h => by omega)
    have e2 := E 2 (by omega) (fun h => by omega)
    obtain ⟨_, q1, q2⟩ := h.sh.h5 o
    split
    · exact ⟨by rw [e2.len]; exact lz q2, e2.ok⟩
    · exact ⟨by rw [e1.len]; exact lz q1, e1.ok⟩
  · have hp : aP 6 = 2 := by decide
    have e0 := E 0 (by omega) (fun h => by omega)
    have e1 := E 1 (by omega) (fun h => by omega)
    obtain ⟨_, q1, q2⟩ := h.sh.h6 o
    have := n5 s (cS r 1)
    exact ⟨by rw [tM (by rw [gT, e1.len]; omega), rh q1], fun y hy => nO _ _ _ (cK e0.ok 0) e1.ok y (tO hy)⟩
  · have hp : aP 7 = 2 := by decide
    have e0 := E 0 (by omega) (fun h => by omega)
    have e1 := E 1 (by omega) (fun h => by omega)
    obtain ⟨_, q1, q2⟩ := h.sh.h7 o
    exact ⟨by rw [gT, e1.len]; exact lz q1, fun y hy => nO _ _ _ (cK e0.ok 0) e1.ok y hy⟩
  · have hp : aP 8 = 1 := by decide
    have e0 := E 0 (by omega) (fun h => by omega)
    exact ⟨jp _ _, kc fun i _ => cK e0.ok 0⟩
  · have hp : aP 9 = 3 := by decide
    have e0 := E 0 (by omega) (fun h => by omega)
    have e2 := E 2 (by omega) (fun h => by omega)
    obtain ⟨_, _, _, q⟩ := h.sh.h9 o
    exact ⟨(rh q).symm, fun y hy => by rw [List.mem_singleton] at hy; rw [hy]; exact zi e0.ok (cK e2.ok 0)⟩
  · have hp : aP 10 = 3 := by decide
    have e0 := E 0 (by omega) (fun h => by omega)
    have e2 := E 2 (by omega) (fun h => by omega)
    exact ⟨jp _ _, kc fun i _ => by split; exact cK e2.ok 0; exact cK e0.ok i⟩
  · have hp : aP 11 = 1 := by decide
    have e0 := E 0 (by omega) (fun h => by omega)
    exact ⟨jp _ _, kc fun i _ => cK e0.ok _⟩
  · have hp : aP 12 = 2 := by decide
    have e0 := E 0 (by omega) (fun h => by omega)
    have e1 := E 1 (by omega) (fun h => by omega)
    obtain ⟨q1, q2, q3⟩ := h.sh.h12 o
    refine ⟨?_, fun y hy => ?_⟩
    · rw [List.length_append, e0.len, e1.len]
      have a1 := mZ q1
      have a2 := mZ q2
      have a3 := mZ (s := s) (v := r.out_) (by omega)
      omega
    · rcases List.mem_append.1 hy with hy | hy
      · exact e0.ok y hy
      · exact e1.ok y hy
  · have hp : aP 13 = 2 := by decide
    have e0 := E 0 (by omega) (fun _ => rfl)
    obtain ⟨q1, q2⟩ := h.sh.h13 o
    rcases h.k with hk | hk
    · rw [iP hk]; exact ⟨by rw [e0.len]; exact lz q1, e0.ok⟩
    · by_cases z : kp = []
      · rw [iP z]; exact ⟨by rw [e0.len]; exact lz q1, e0.ok⟩
      · rw [iN z]; exact hk
  · have q := h.sh.h14 o
    exact ⟨iW _ _ _, kc fun i _ => (n6 h.e (h.p (by omega)) q).2⟩
  · have hp : aP 15 = 1 := by decide
    have e0 := E 0 (by omega) (fun h => by omega)
    obtain ⟨_, q1, q2, q3, q4⟩ := h.sh.h15 o
    exact ⟨by rw [tM (by rw [gT, iW]; omega), rh q1], fun y hy => nO _ _ _ (cK e0.ok 0) (kc fun i _ => (n6 h.e (h.p (by omega)) q4).2) y (tO hy)⟩
  · have hp : aP 16 = 1 := by decide
    have e0 := E 0 (by omega) (fun h => by omega)
    obtain ⟨_, q1, q2⟩ := h.sh.h16 o
    exact ⟨by rw [gT, iW], fun y hy => nO _ _ _ (cK e0.ok 0) (kc fun i _ => (n6 h.e (h.p (by omega)) q2).2) y hy⟩
theorem zk (n : Nat) (h : n ≤ 200000) : dG (n : Int) = some [] := by
 have w0 : IntKind.wrap .i64 (0 - 0) = 0 := wr (by omega) (by omega)
 unfold dG
 rw [iN (by omega), w0, Int.sub_zero, wr (by omega) (by omega)]
 by_cases z : (n : Int) > 0
 ·rw [iP z, iP ⟨by omega, iU _ (by omega)⟩, iP ⟨by omega, by omega⟩, List.take_zero]
 ·rw [iN z]
theorem wt (a b : List Int) (ha : a.length ≤ 6000) (hb : b.length ≤ 120000) : db (lit [a, b]) = some (a ++ b) := by
 unfold db
 rw [show lit ([a, b] : List (List Int)) = [a, b] from rfl]
 have hlen : (([a, b] : List (List Int)).length : Int) = 2 := rfl
 have e1 : IntKind.wrap .i64 (0 + (a.length : Int)) = (a.length : Int) := by rw [Int.zero_add]; exact wr (by omega) (by omega)
 have e2 : IntKind.wrap .i64 ((a.length : Int) + (b.length : Int)) = ((a.length + b.length : Nat) : Int) := by rw [wr (by omega) (by omega)]; omega
 have s1 : bi [a, b] 0 0 = some (.inl ((a.length : Int), 1)) := by
  unfold bi
  rw [iP (by rw [hlen]; omega), iP (by rw [hlen]; omega)]
  show (if IntKind.wrap .i64 (0 + (a.length : Int)) < 0 then none else (some (.inl (IntKind.wrap .i64 (0 + (a.length : Int)), IntKind.wrap .i64 (0 + 1))) : Option ((Int × Int) ⊕ Int))) = _
  rw [e1, iN (by omega)]; rfl
 have s2 : bi [a, b] (a.length : Int) 1 = some (.inl (((a.length + b.length : Nat) : Int), 2)) := by
  unfold bi
  rw [iP (by rw [hlen]; omega), iP (by rw [hlen]; omega)]
  show (if IntKind.wrap .i64 ((a.length : Int) + (b.length : Int)) < 0 then none else (some (.inl (IntKind.wrap .i64 ((a.length : Int) + (b.length : Int)), IntKind.wrap .i64 (1 + 1))) : Option ((Int × Int) ⊕ Int))) = _
  rw [e2, iN (by omega)]; rfl
 have s3 : ∀ x, bi [a, b] x 2 = some (.inr x) := by
  intro x
  unfold bi
  rw [iN (by rw [hlen]; omega)]
 rw [eF (s' := ((a.length : Int), 1)) s1, eF (s' := (((a.length + b.length : Nat) : Int), 2)) s2, eG (s3 _)]
 simp only [bSq]
 unfold bW
 rw [zk _ (by omega)]
 simp only [bSq]
 have t1 : bh [a, b] [] 0 = some (.inl (a, 1)) := by
  unfold bh
  rw [iP (by rw [hlen]; omega), iP (by rw [hlen]; omega)]
  show (if dt (0 + a.length) 8 then (some (.inl ([] ++ a, IntKind.wrap .i64 (0 + 1))) : Option ((List Int × Int) ⊕ List Int)) else none) = _
  rw [iP (iU _ (by omega))]; rfl
 have t2 : bh [a, b] a 1 = some (.inl (a ++ b, 2)) := by
  unfold bh
  rw [iP (by rw [hlen]; omega), iP (by rw [hlen]; omega)]
  show (if dt (a.length + b.length) 8 then (some (.inl (a ++ b, IntKind.wrap .i64 (1 + 1))) : Option ((List Int × Int) ⊕ List Int)) else none) = _
  rw [iP (iU _ (by omega))]; rfl
 have t3 : bh [a, b] (a ++ b) 2 = some (.inr (a ++ b)) := by
  unfold bh
  rw [iN (by rw [hlen]; omega)]
 rw [eF (s' := (a, 1)) t1, eF (s' := (a ++ b, 2)) t2, eG t3]
 rfl
theorem kT (l : List Int) (h : l.length ≤ 1000000) : bm l = some l := by
 unfold bm
 by_cases h0 : l = []
 ·rw [iP h0, h0]
 ·rw [iN h0, iP (iU _ h)]
theorem qC (n : Int) : jZ n = some (dY n) := rfl
section
variable {s : ae} {L : List (List Int)} {M : List (Int × List Int)} {kp : List Int} {r : ab} (p4 p5 : List Int) (p6 : List ab)
theorem wu (h : m0 s (fd L) kp r) (hL : L.length = s.vars.length) (i : Nat) (hi : i < r.a.length) : aK (i : Int) r s.vars p4 p5 p6 L M = some (fd L (cS r i)) := by
 have g := h.g.a _ (aN hi)
 unfold inV at g
 unfold aK
 rw [tN, iP ⟨inI hi, by omega⟩]
 rfl
theorem Am (h : m0 s (fd L) kp r) (hL : L.length = s.vars.length) (hi : 0 < r.a.length) : aK 0 r s.vars p4 p5 p6 L M = some (fd L (cS r 0)) := wu p4 p5 p6 h hL 0 hi
theorem An (h : m0 s (fd L) kp r) (hL : L.length = s.vars.length) (hi : 1 < r.a.length) : aK 1 r s.vars p4 p5 p6 L M = some (fd L (cS r 1)) := wu p4 p5 p6 h hL 1 hi
theorem Ao (h : m0 s (fd L) kp r) (hL : L.length = s.vars.length) (hi : 2 < r.a.length) : aK 2 r s.vars p4 p5 p6 L M = some (fd L (cS r 2)) := wu p4 p5 p6 h hL 2 hi
theorem uA (h : m0 s (fd L) kp r) (hL : L.length = s.vars.length) {n : Int} {k : Nat} (ho : 14 ≤ r.op) (hk : (k : Int) < n) (hn : n ≤ 300) (ht : jQ s n r.e ≠ 0) : fe r.e (k : Int) s.vars p4 p5 p6 L M = some (s7 (fd L) (k : Int) r.e) :=
 zh _ _ _ _ _ h.v h.g.e ⟨by omega, hk⟩ hn hL (h.g.u ho) h.e (h.p ho) ht
theorem qD (n : Nat) (hn : n ≤ 300) (g : Nat → Int) (hf : ∀ i : Nat, i < n → jg (i : Int) r s.vars p4 p5 p6 L M = some (g i)) : jh r (List.replicate n 0) s.vars p4 p5 p6 L M = some (gl n g) := by
 have k := kS (n := n) (B := fun (x : List Int × Int) => cW r (List.replicate n 0) s.vars p4 p5 p6 L M x.1 x.2) g (fun i l hi hl => by
  show cW r _ s.vars p4 p5 p6 L M l (i : Int) = _
  unfold cW
  rw [List.length_replicate, iP (by omega), hf i hi]
  simp only [bSq, tN]
  rw [iP (by omega), wrs i (by omega)]) (fun l => by
  show cW r _ s.vars p4 p5 p6 L M l (n : Int) = _
  unfold cW
  rw [List.length_replicate, iN (by omega)])
 unfold jh
 show (bb (fun (x : List Int × Int) => cW r (List.replicate n 0) s.vars p4 p5 p6 L M x.1 x.2) (List.replicate n 0, ((0 : Nat) : Int))).bind _ = _
 rw [k]
 rfl
theorem oV (n : Nat) (hn : n ≤ 300) (g : Nat → Int) (hf : ∀ i : Nat, i < n → ji (i : Int) r s.vars p4 p5 p6 L M = some (g i)) : ii r (List.replicate n 0) s.vars p4 p5 p6 L M = some (gl n g) := by
 have k := kS (n := n) (B := fun (x : List Int × Int) => cm r (List.replicate n 0) s.vars p4 p5 p6 L M x.1 x.2) g (fun i l hi hl => by
  show cm r _ s.vars p4 p5 p6 L M l (i : Int) = _
  unfold cm
  rw [List.length_replicate, iP (by omega), hf i hi]
  simp only [bSq, tN]
  rw [iP (by omega), wrs i (by omega)]) (fun l => by
  show cm r _ s.vars p4 p5 p6 L M l (n : Int) = _
  unfold cm
  rw [List.length_replicate, iN (by omega)])
 unfold ii
 show (bb (fun (x : List Int × Int) => cm r (List.replicate n 0) s.vars p4 p5 p6 L M x.1 x.2) (List.replicate n 0, ((0 : Nat) : Int))).bind _ = _
 rw [k]
 rfl
theorem oW (n : Nat) (hn : n ≤ 300) (g : Nat → Int) (hf : ∀ i : Nat, i < n → jl (i : Int) r s.vars p4 p5 p6 L M = some (g i)) : ij r (List.replicate n 0) s.vars p4 p5 p6 L M = some (gl n g) := by
 have k := kS (n := n) (B := fun (x : List Int × Int) => cn r (List.replicate n 0) s.vars p4 p5 p6 L M x.1 x.2) g (fun i l hi hl => by
  show cn r _ s.vars p4 p5 p6 L M l (i : Int) = _
  unfold cn
  rw [List.length_replicate, iP (by omega), hf i hi]
  simp only [bSq, tN]
  rw [iP (by omega), wrs i (by omega)]) (fun l => by
  show cn r _ s.vars p4 p5 p6 L M l (n : Int) = _
  unfold cn
  rw [List.length_replicate, iN (by omega)])
 unfold ij
 show (bb (fun (x : List Int × Int) => cn r (List.replicate n 0) s.vars p4 p5 p6 L M x.1 x.2) (List.replicate n 0, ((0 : Nat) : Int))).bind _ = _
 rw [k]
 rfl
theorem oX (n : Nat) (hn : n ≤ 300) (g : Nat → Int) (hf : ∀ i : Nat, i < n → jm (i : Int) r s.vars p4 p5 p6 L M = some (g i)) : ik r (List.replicate n 0) s.vars p4 p5 p6 L M = some (gl n g) := by
 have k := kS (n := n) (B := fun (x : List Int × Int) => co r (List.replicate n 0) s.vars p4 p5 p6 L M x.1 x.2) g (fun i l hi hl => by
  show co r _ s.vars p4 p5 p6 L M l (i : Int) = _
  unfold co
  rw [List.length_replicate, iP (by omega), hf i hi]
  simp only [bSq, tN]
  rw [iP (by omega), wrs i (by omega)]) (fun l => by
  show co r _ s.vars p4 p5 p6 L M l (n : Int) = _
  unfold co
  rw [List.length_replicate, iN (by omega)])
 unfold ik
 show (bb (fun (x : List Int × Int) => co r (List.replicate n 0) s.vars p4 p5 p6 L M x.1 x.2) (List.replicate n 0, ((0 : Nat) : Int))).bind _ = _
 rw [k]
 rfl
theorem oY (n : Nat) (hn : n ≤ 300) (g : Nat → Int) (hf : ∀ i : Nat, i < n → jn (i : Int) r s.vars p4 p5 p6 L M = some (g i)) : il r (List.replicate n 0) s.vars p4 p5 p6 L M = some (gl n g) := by
 have k := kS (n := n) (B := fun (x : List Int × Int) => cp r (List.replicate n 0) s.vars p4 p5 p6 L M x.1 x.2) g (fun i l hi hl => by
  show cp r _ s.vars p4 p5 p6 L M l (i : Int) = _
  unfold cp
  rw [List.length_replicate, iP (by omega), hf i hi]
  simp only [bSq, tN]
  rw [iP (by omega), wrs i (by omega)]) (fun l => by
  show cp r _ s.vars p4 p5 p6 L M l (n : Int) = _
  unfold cp
  rw [List.length_replicate, iN (by omega)])
 unfold il
 show (bb (fun (x : List Int × Int) => cp r (List.replicate n 0) s.vars p4 p5 p6 L M x.1 x.2) (List.replicate n 0, ((0 : Nat) : Int))).bind _ = _
 rw [k]
 rfl
theorem oZ (n : Nat) (hn : n ≤ 300) (g : Nat → Int) (hf : ∀ i : Nat, i < n → iL (i : Int) r s.vars p4 p5 p6 L M = some (g i)) : im r (List.replicate n 0) s.vars p4 p5 p6 L M = some (gl n g) := by
 have k := kS (n := n) (B := fun (x : List Int × Int) => cq r (List.replicate n 0) s.vars p4 p5 p6 L M x.1 x.2) g (fun i l hi hl => by
  show cq r _ s.vars p4 p5 p6 L M l (i : Int) = _
  unfold cq
  rw [List.length_replicate, iP (by omega), hf i hi]
  simp only [bSq, tN]
  rw [iP (by omega), wrs i (by omega)]) (fun l => by
  show cq r _ s.vars p4 p5 p6 L M l (n : Int) = _
  unfold cq
  rw [List.length_replicate, iN (by omega)])
 unfold im
 show (bb (fun (x : List Int × Int) => cq r (List.replicate n 0) s.vars p4 p5 p6 L M x.1 x.2) (List.replicate n 0, ((0 : Nat) : Int))).bind _ = _
 rw [k]
 rfl
theorem uB (k x : Int) (ys : List Int) (hn : ys.length ≤ 300) (hx : okI .i64 x) (hys : ∀ y ∈ ys, okI .i64 y) (hf : ∀ i : Nat, i < ys.length → jj (i : Int) r s.vars p4 p5 p6 L M = some (ys.getD i default)) : md k x (ys.length : Int) r s.vars p4 p5 p6 L M = some (iV k x ys) := by
 have q := n7 (ys := ys) (k := k) (x := x) (B := fun (z : List Int × Int × Int) => fc k (ys.length : Int) r s.vars p4 p5 p6 L M z.1 z.2.1 z.2.2) hx hys (fun i l a hi hl ha => by
  show fc k (ys.length : Int) r s.vars p4 p5 p6 L M l a (i : Int) = _
  unfold fc
  rw [iP (ltI hi), hf i hi]
  simp only [bSq]
  rw [(gc k a _ ha (hys _ (aN hi))).1]
  simp only [bSq]
  rw [iP (iU _ (by omega)), wrs i (by omega)]
  rfl) (fun l a => by
  show fc k (ys.length : Int) r s.vars p4 p5 p6 L M l a (ys.length : Int) = _
  unfold fc
  rw [iN (bH _)])
 unfold md
 show (bb (fun (z : List Int × Int × Int) => fc k (ys.length : Int) r s.vars p4 p5 p6 L M z.1 z.2.1 z.2.2) ([], x, ((0 : Nat) : Int))).bind _ = _
 rw [q]
 rfl
theorem sw (k x : Int) (ys : List Int) (hn : ys.length ≤ 300) (hx : okI .i64 x) (hys : ∀ y ∈ ys, okI .i64 y) (hf : ∀ i : Nat, i < ys.length → jk (i : Int) r s.vars p4 p5 p6 L M = some (ys.getD i default)) : ki k x (ys.length : Int) r s.vars p4 p5 p6 L M = some (iV k x ys) := by
 have q := n7 (ys := ys) (k := k) (x := x) (B := fun (z : List Int × Int × Int) => dV k (ys.length : Int) r s.vars p4 p5 p6 L M z.1 z.2.1 z.2.2) hx hys (fun i l a hi hl ha => by
  show dV k (ys.length : Int) r s.vars p4 p5 p6 L M l a (i : Int) = _
  unfold dV
  rw [iP (ltI hi), hf i hi]
  simp only [bSq]
  rw [(gc k a _ ha (hys _ (aN hi))).1]
  simp only [bSq]
  rw [iP (iU _ (by omega)), wrs i (by omega)]
  rfl) (fun l a => by
  show dV k (ys.length : Int) r s.vars p4 p5 p6 L M l a (ys.length : Int) = _
  unfold dV
  rw [iN (bH _)])
 unfold ki
 show (bb (fun (z : List Int × Int × Int) => dV k (ys.length : Int) r s.vars p4 p5 p6 L M z.1 z.2.1 z.2.2) ([], x, ((0 : Nat) : Int))).bind _ = _
 rw [q]
 rfl
theorem sx (k x : Int) (ys : List Int) (hn : ys.length ≤ 300) (hx : okI .i64 x) (hys : ∀ y ∈ ys, okI .i64 y) (hf : ∀ i : Nat, i < ys.length → iM (i : Int) r s.vars p4 p5 p6 L M = some (ys.getD i default)) : kj k x (ys.length : Int) r s.vars p4 p5 p6 L M = some (iV k x ys) := by
 have q := n7 (ys := ys) (k := k) (x := x) (B := fun (z : List Int × Int × Int) => dW k (ys.length : Int) r s.vars p4 p5 p6 L M z.1 z.2.1 z.2.2) hx hys (fun i l a hi hl ha => by
  show dW k (ys.length : Int) r s.vars p4 p5 p6 L M l a (i : Int) = _
  unfold dW
  rw [iP (ltI hi), hf i hi]
  simp only [bSq]
  rw [(gc k a _ ha (hys _ (aN hi))).1]
  simp only [bSq]
  rw [iP (iU _ (by omega)), wrs i (by omega)]
  rfl) (fun l a => by
  show dW k (ys.length : Int) r s.vars p4 p5 p6 L M l a (ys.length : Int) = _
  unfold dW
  rw [iN (bH _)])
 unfold kj
 show (bb (fun (z : List Int × Int × Int) => dW k (ys.length : Int) r s.vars p4 p5 p6 L M z.1 z.2.1 z.2.2) ([], x, ((0 : Nat) : Int))).bind _ = _
 rw [q]
 rfl
theorem sy (k x : Int) (ys : List Int) (hn : ys.length ≤ 300) (hx : okI .i64 x) (hys : ∀ y ∈ ys, okI .i64 y) (hf : ∀ i : Nat, i < ys.length → iQ (i : Int) r s.vars p4 p5 p6 L M = some (ys.getD i default)) : km k x (ys.length : Int) r s.vars p4 p5 p6 L M = some (iV k x ys) := by
 have q := n7 (ys := ys) (k := k) (x := x) (B := fun (z : List Int × Int × Int) => dX k (ys.length : Int) r s.vars p4 p5 p6 L M z.1 z.2.1 z.2.2) hx hys (fun i l a hi hl ha => by
  show dX k (ys.length : Int) r s.vars p4 p5 p6 L M l a (i : Int) = _
  unfold dX
  rw [iP (ltI hi), hf i hi]
  simp only [bSq]
  rw [(gc k a _ ha (hys _ (aN hi))).1]
  simp only [bSq]
  rw [iP (iU _ (by omega)), wrs i (by omega)]
  rfl) (fun l a => by
  show dX k (ys.length : Int) r s.vars p4 p5 p6 L M l a (ys.length : Int) = _
  unfold dX
  rw [iN (bH _)])
 unfold km
 show (bb (fun (z : List Int × Int × Int) => dX k (ys.length : Int) r s.vars p4 p5 p6 L M z.1 z.2.1 z.2.2) ([], x, ((0 : Nat) : Int))).bind _ = _
 rw [q]
 rfl
theorem w7 (l : List Int) (h : 0 < l.length) (hl : l.length ≤ 300) : (if (0 ≤ (IntKind.wrap .i64 ((l.length : Int) - 1)) ∧ (IntKind.wrap .i64 ((l.length : Int) - 1)) ≤ (l.length : Int)) then (some (l.drop ((IntKind.wrap .i64 ((l.length : Int) - 1)).toNat))) else none) = some (sv l) := by
 rw [wr (by omega) (by omega), iP (by omega)]
 unfold sv
 rw [show ((l.length : Int) - 1).toNat = l.length - 1 by omega]
end
theorem Ch {s : ae} {L : List (List Int)} {M : List (Int × List Int)} {r : ab} (p4 p5 : List Int) (p6 : List ab) (i : Nat) (hi : i < 9000000) (h : m0 s (fd L) ((mgL M (i : Int)).getD []) r) (hL : L.length = s.vars.length) :
  ko (i : Int) r s.vars p4 p5 p6 L M = some (kB s (fd L) ((mgL M (i : Int)).getD []) r) := by
 have hop := h.op
 have har := h.ar
 have hcs : r.op = 1 ∨ r.op = 2 ∨ r.op = 3 ∨ r.op = 4 ∨ r.op = 5 ∨ r.op = 6 ∨ r.op = 7 ∨ r.op = 8 ∨ r.op = 9 ∨ r.op = 10 ∨ r.op = 11 ∨ r.op = 12 ∨ r.op = 13 ∨ r.op = 14 ∨ r.op = 15 ∨ r.op = 16 := by omega
 have E : ∀ i, i < r.a.length → (r.op = 13 → i = 0) → gn s (fd L) (cS r i) := h.a
 have ho := h.g.o
 have ho' := ho
 have hn := m3 h.v ho
 have hc1 := n5 s r.out_
 unfold inV at ho'
 have A0 := Am p4 p5 p6 (M := M) h hL
 have A1 := An p4 p5 p6 (M := M) h hL
 have A2 := Ao p4 p5 p6 (M := M) h hL
 have hcv : dY (s.vars.getD r.out_.toNat default).n = (clN s r.out_ : Int) := by
  show dY (nV s r.out_) = _
  have : 1 ≤ dY (nV s r.out_) := by unfold dY; split <;> omega
  unfold clN; omega
 have cl : ∀ v, inV s v → gn s (fd L) v → (fd L v).length ≤ 300 ∧ 0 < (fd L v).length := fun v hv e => by
  have := m3 h.v hv
  have := n5 s v
  rw [e.len]; omega
 have ain : ∀ i, i < r.a.length → inV s (cS r i) := fun i hi => h.g.a _ (aN hi)
 unfold ko
 rw [iP ho', qC, hcv]
 simp only [bSq, tN]
 rw [iP ⟨by omega, iU _ (by omega)⟩]
 rcases hcs with o | o | o | o | o | o | o | o | o | o | o | o | o | o | o | o <;> (rw [o] at har; simp only [kB, o, Int.reduceEq, if_true, if_false, reduceIte])
 ·rfl
 ·have hp : aP 2 = 1 := by decide
  have e0 := E 0 (by omega) (fun h => by omega)
  rw [A0 (by omega)]
  simp only [bSq]
  rw [kT _ (by have := (cl _ (ain 0 (by omega)) e0).1; omega)]
  rfl
 ·have hp : aP 3 = 1 := by decide
  have e0 := E 0 (by omega) (fun h => by omega)
  have l0 : (fd L (cS r 0)).length = clN s r.out_ := by rw [e0.len]; exact lz (h.sh.h3 o)
  rw [qD p4 p5 p6 _ hn _ (fun j hj => by
   unfold jg
   rw [A0 (by omega)]
   simp only [bSq, tN]
   rw [iP (by omega), (gc r.k _ 0 (cK e0.ok j) nM).1]
   rfl)]
  rfl
 ·have hp : aP 4 = 2 := by decide
  have e0 := E 0 (by omega) (fun h => by omega)
  have e1 := E 1 (by omega) (fun h => by omega)
  obtain ⟨q0, q1⟩ := h.sh.h4 o
  have l0 : (fd L (cS r 0)).length = clN s r.out_ := by rw [e0.len]; exact lz q0
  have l1 : (fd L (cS r 1)).length = clN s r.out_ := by rw [e1.len]; exact lz q1
  rw [oV p4 p5 p6 _ hn _ (fun j hj => by
   unfold ji
   rw [A0 (by omega), A1 (by omega)]
   simp only [bSq, tN]
   rw [iP (by omega), iP (by omega), (gc r.k _ _ (cK e0.ok j) (cK e1.ok j)).1]
   rfl)]
  rfl
 ·have hp : aP 5 = 3 := by decide
  have e0 := E 0 (by omega) (fun h => by omega)
  have e1 := E 1 (by omega) (fun h => by omega)
  have e2 := E 2 (by omega) (fun h => by omega)
  have c0 := cl _ (ain 0 (by omega)) e0
  have c1 := cl _ (ain 1 (by omega)) e1
  have c2 := cl _ (ain 2 (by omega)) e2
  rw [A0 (by omega), A1 (by omega), A2 (by omega)]
  simp only [bSq]
  rw [iP (by omega), kT _ (by omega), kT _ (by omega)]
  simp only [bSq]
  by_cases z : (fd L (cS r 0)).getD 0 default = 0
  ·rw [iN (by simpa using z), iP z]
  ·rw [iP z, iN z]
 ·have hp : aP 6 = 2 := by decide
  have e0 := E 0 (by omega) (fun h => by omega)
  have e1 := E 1 (by omega) (fun h => by omega)
  have c0 := cl _ (ain 0 (by omega)) e0
  have c1 := cl _ (ain 1 (by omega)) e1
  rw [A0 (by omega), A1 (by omega)]
  simp only [bSq]
  rw [iP (by omega), uB p4 p5 p6 _ _ (fd L (cS r 1)) c1.1 (cK e0.ok 0) e1.ok (fun j hj => by
   unfold jj
   rw [A1 (by omega)]
   simp only [bSq, tN]
   rw [iP (by omega)])]
  simp only [bSq]
  exact w7 _ (by rw [gT]; omega) (by rw [gT]; omega)
 ·have hp : aP 7 = 2 := by decide
  have e0 := E 0 (by omega) (fun h => by omega)
  have e1 := E 1 (by omega) (fun h => by omega)
  have c0 := cl _ (ain 0 (by omega)) e0
  have c1 := cl _ (ain 1 (by omega)) e1
  rw [A0 (by omega), A1 (by omega)]
  simp only [bSq]
  rw [iP (by omega), sw p4 p5 p6 _ _ (fd L (cS r 1)) c1.1 (cK e0.ok 0) e1.ok (fun j hj => by
   unfold jk
   rw [A1 (by omega)]
   simp only [bSq, tN]
   rw [iP (by omega)])]
  rfl
 ·have hp : aP 8 = 1 := by decide
  have e0 := E 0 (by omega) (fun h => by omega)
  have c0 := cl _ (ain 0 (by omega)) e0
  rw [oW p4 p5 p6 _ hn _ (fun j hj => by
   unfold jl
   rw [A0 (by omega)]
   simp only [bSq, tN]
   rw [iP (by omega)])]
  rfl
 ·have hp : aP 9 = 3 := by decide
  have e0 := E 0 (by omega) (fun h => by omega)
  have e1 := E 1 (by omega) (fun h => by omega)
  have e2 := E 2 (by omega) (fun h => by omega)
  have c1 := cl _ (ain 1 (by omega)) e1
  have c2 := cl _ (ain 2 (by omega)) e2
  rw [A0 (by omega), A1 (by omega), A2 (by omega)]
  simp only [bSq]
  rw [iP (by omega), iP (by omega), wZ]
  rfl
 ·have hp : aP 10 = 3 := by decide
  have e0 := E 0 (by omega) (fun h => by omega)
  have e1 := E 1 (by omega) (fun h => by omega)
  have e2 := E 2 (by omega) (fun h => by omega)
  have c1 := cl _ (ain 1 (by omega)) e1
  have c2 := cl _ (ain 2 (by omega)) e2
  have l0 : (fd L (cS r 0)).length = clN s r.out_ := by rw [e0.len]; exact lz (h.sh.h10 o).1
  rw [oX p4 p5 p6 _ hn (fun i => if (i : Int) = (fd L (cS r 1)).getD 0 default then (fd L (cS r 2)).getD 0 default else (fd L (cS r 0)).getD i default) (fun j hj => by
   unfold jm
   rw [A0 (by omega), A1 (by omega), A2 (by omega)]
   simp only [bSq, tN]
   rw [iP (by omega)]
   by_cases z : (j : Int) = (fd L (cS r 1)).getD 0 default
   ·rw [iP z, iP (by omega), iP z]
   ·rw [iN z, iP (by omega), iN z])]
  rfl
 ·have hp : aP 11 = 1 := by decide
  have e0 := E 0 (by omega) (fun h => by omega)
  obtain ⟨q1, q2, q3, q4⟩ := h.sh.h11 o
  have l0 := e0.len
  have a0 := mZ q1
  have a1 := mZ q2
  have g0 := aE h.v (ain 0 (by omega))
  have g0' : nV s (cS r 0) ≤ 300 := g0.2.2
  rw [oY p4 p5 p6 _ hn _ (fun j hj => by
   unfold jn
   rw [A0 (by omega)]
   simp only [bSq]
   rw [wr (n := (j : Int) + r.n) (by omega) (by omega), iP (by omega)])]
  rfl
 ·have hp : aP 12 = 2 := by decide
  have e0 := E 0 (by omega) (fun h => by omega)
  have e1 := E 1 (by omega) (fun h => by omega)
  have c0 := cl _ (ain 0 (by omega)) e0
  have c1 := cl _ (ain 1 (by omega)) e1
  rw [A0 (by omega), A1 (by omega)]
  simp only [bSq]
  rw [wt _ _ (by omega) (by omega)]
  rfl
 ·have hp : aP 13 = 2 := by decide
  have e0 := E 0 (by omega) (fun _ => rfl)
  have c0 := cl _ (ain 0 (by omega)) e0
  rw [iP (by omega), A0 (by omega)]
  simp only [bSq]
  rw [kT _ (by omega)]
  simp only [bSq]
  exact (apply_ite some _ _ _).symm
 ·have q := h.sh.h14 o
  have hcc : (clN s r.out_ : Int) = dY (nV s r.out_) := hcv.symm
  rw [oZ p4 p5 p6 _ hn (fun j => s7 (fd L) (j : Int) r.e) (fun j hj => by
   unfold iL
   rw [uA p4 p5 p6 h hL (n := dY (nV s r.out_)) (by omega) (by omega) (by omega) q]
   rfl)]
  rfl
 ·have hp : aP 15 = 1 := by decide
  have e0 := E 0 (by omega) (fun h => by omega)
  have c0 := cl _ (ain 0 (by omega)) e0
  obtain ⟨_, q1, q2, q3, q4⟩ := h.sh.h15 o
  rw [A0 (by omega)]
  simp only [bSq]
  have hlen : ((lw (fd L) r.n.toNat r.e).length : Int) = r.n := by rw [iW]; omega
  have f := sx p4 p5 p6 (r := r) (s := s) (L := L) (M := M) r.k ((fd L (cS r 0)).getD 0 default) (lw (fd L) r.n.toNat r.e) (by omega) (cK e0.ok 0) (kc fun i _ => (n6 h.e (h.p (by omega)) q4).2) (fun j hj => by
   rw [iW] at hj
   unfold iM
   rw [uA p4 p5 p6 h hL (n := r.n) (by omega) (by omega) (by omega) q4]
   unfold lw
   rw [sa hj]
   rfl)
  rw [hlen] at f
  rw [iP (by omega), f]
  simp only [bSq]
  exact w7 _ (by rw [gT]; omega) (by rw [gT]; omega)
 ·have hp : aP 16 = 1 := by decide
  have e0 := E 0 (by omega) (fun h => by omega)
  have c0 := cl _ (ain 0 (by omega)) e0
  obtain ⟨_, q1, q2⟩ := h.sh.h16 o
  have a1 := mZ q1
  have g0' : nV s r.out_ ≤ 300 := (aE h.v ho).2.2
  rw [A0 (by omega)]
  simp only [bSq]
  have f := sy p4 p5 p6 (r := r) (s := s) (L := L) (M := M) r.k ((fd L (cS r 0)).getD 0 default) (lw (fd L) (clN s r.out_) r.e) (by rw [iW]; omega) (cK e0.ok 0) (kc fun i _ => (n6 h.e (h.p (by omega)) q2).2) (fun j hj => by
   rw [iW] at hj
   unfold iQ
   rw [uA p4 p5 p6 h hL (n := nV s r.out_) (by omega) (by omega) (by omega) q2]
   unfold lw
   rw [sa hj]
   rfl)
  rw [iW] at f
  rw [iP (by omega), f]
  rfl
def rl (s : ae) (i : Nat) : ab := s.rules.getD i default
inductive Nd (s : ae) : Nat → Prop
 | base (i : Nat) (hi : i < s.rules.length) (h : (rl s i).out_ ∈ s.out_) : Nd s i
 | step (i k : Nat) (hi : i < s.rules.length) (hk : Nd s k) (h : (rl s i).out_ ∈ dZ (rl s k)) : Nd s i
theorem Nd.lt {s : ae} {i : Nat} (h : Nd s i) : i < s.rules.length := by cases h <;> assumption
def Fl (s : ae) (l : List Bool) : Prop := l.length = s.rules.length ∧ ∀ i, i < s.rules.length → (l.getD i default = true ↔ Nd s i)
abbrev fl (l : List Bool) (i : Nat) : Prop := l.getD i default = true
def clo (s : ae) (l : List Bool) : Prop := ∀ i, i < s.rules.length → ((rl s i).out_ ∈ s.out_ ∨ ∃ k, k < s.rules.length ∧ fl l k ∧ (rl s i).out_ ∈ dZ (rl s k)) → fl l i
theorem Fl.of {s : ae} {l : List Bool} (hl : l.length = s.rules.length) (h : ∀ i, i < s.rules.length → fl l i → Nd s i) (hc : clo s l) : Fl s l := by
 refine ⟨hl, fun i hi => ⟨h i hi, fun hn => ?_⟩⟩
 clear hi
 induction hn with
 | base i hi h => exact hc i hi (.inl h)
 | step i k hi hk h ih => exact hc i hi (.inr ⟨k, hk.lt, ih, h⟩)
structure WI (s : ae) (l : List Bool) (row : List Int) : Prop where
 len : l.length = s.rules.length
 snd : ∀ i, i < s.rules.length → fl l i → Nd s i
 rowp : ∀ v ∈ row, v ∈ s.out_ ∨ ∃ k, k < s.rules.length ∧ fl l k ∧ v ∈ dZ (rl s k)
 cou : ∀ i, i < s.rules.length → (rl s i).out_ ∈ s.out_ → fl l i ∨ (rl s i).out_ ∈ row
 cus : ∀ k, k < s.rules.length → fl l k → ∀ i, i < s.rules.length → (rl s i).out_ ∈ dZ (rl s k) → fl l i ∨ (rl s i).out_ ∈ row
end Pam
namespace Pam
open Go
theorem vq {V V' : Int → List Int} {k : Int} {p : aq} {st : List Int} (hop : p.op = 2 ∨ p.op = 3 ∨ ¬ (1 ≤ p.op ∧ p.op ≤ 7) → V p.v = V' p.v) : nf V k p st = nf V' k p st := by
  unfold nf
  by_cases o1 : p.op = 1
  · rw [iP o1, iP o1]
  rw [iN o1, iN o1]
  by_cases o2 : p.op = 2
  · rw [iP o2, iP o2, hop (.inl o2)]
  rw [iN o2, iN o2]
  by_cases o3 : p.op = 3
  · rw [iP o3, iP o3, hop (.inr (.inl o3))]
  rw [iN o3, iN o3]
  by_cases o4 : p.op = 4
  · rw [iP o4, iP o4]
  rw [iN o4, iN o4]
  by_cases o5 : p.op = 5
  · rw [iP o5, iP o5]
  rw [iN o5, iN o5]
  by_cases o6 : p.op = 6
  · rw [iP o6, iP o6]
  rw [iN o6, iN o6]
  by_cases o7 : p.op = 7
  · rw [iP o7, iP o7]
  rw [iN o7, iN o7, hop (.inr (.inr (by omega)))]
theorem sC {V V' : Int → List Int} {k : Int} : ∀ {l : List aq} {st : List Int}, (∀ p ∈ l, p.op = 2 ∨ p.op = 3 ∨ ¬ (1 ≤ p.op ∧ p.op ≤ 7) → V p.v = V' p.v) → uz V k l st = uz V' k l st
  | [], st, _ => rfl
  | p :: l, st, h => by
    unfold uz
    rw [vq (h p (by simp))]
    exact sC fun q hq => h q (by simp [hq])
theorem wv {V V' : Int → List Int} {k : Int} {l : List aq} (h : ∀ p ∈ l, p.op = 2 ∨ p.op = 3 ∨ ¬ (1 ≤ p.op ∧ p.op ≤ 7) → V p.v = V' p.v) : s7 V k l = s7 V' k l := by
  unfold s7 oU
  rw [sC fun p hp => h p (List.mem_of_mem_take hp)]
theorem Ap {s : ae} {n : Int} {p : aq} {rs rs' : List Int} (h : dm s n p rs = some rs') : 1 ≤ p.op ∧ p.op ≤ 8 := by
  unfold dm at h
  by_cases hc : 1 ≤ p.op ∧ p.op ≤ 8
  · exact hc
  · rw [iN (by omega), iN (by omega), iN (by omega), iN (by omega), iN (by omega), iN (by omega), iN (by omega), iN (by omega)] at h
    cases h
theorem vr {s : ae} {n : Int} : ∀ {l : List aq} {rs rs' : List Int}, jP s n l rs = some rs' → ∀ p ∈ l, 1 ≤ p.op ∧ p.op ≤ 8
  | [], _, _, _, p, hp => by simp at hp
  | q :: l, rs, rs', h, p, hp => by
    unfold jP at h
    cases hn : dm s n q rs with
    | none => rw [hn] at h; cases h
    | some r =>
      rw [hn] at h
      rcases List.mem_cons.1 hp with rfl | hp
      · exact Ap hn
      · exact vr h p hp
theorem s8 {s : ae} {r : ab} {a b c : Int} {o : Int} (sh : uy s r.op r.n o a b c r.e) (ho : 14 ≤ r.op ∧ r.op ≤ 16) : ∀ p ∈ r.e, 1 ≤ p.op ∧ p.op ≤ 8 := by
  have key : ∀ n, jQ s n r.e ≠ 0 → ∀ p ∈ r.e, 1 ≤ p.op ∧ p.op ≤ 8 := fun n h => by
    obtain ⟨x, hx⟩ := ss h
    exact vr hx
  rcases (show r.op = 14 ∨ r.op = 15 ∨ r.op = 16 by omega) with o | o | o
  · exact key _ (sh.h14 o)
  · exact key _ (sh.h15 o).2.2.2.2
  · exact key _ (sh.h16 o).2.2
theorem qW {r : ab} {i : Nat} (hi : i < r.a.length) (h : r.op = 13 → i = 0) : cS r i ∈ eE r := by
  unfold eE
  split
  · rename_i hc
    rw [h hc.1]
    simp [cS]
  · exact jx (aN hi)
theorem qX {r : ab} (ho : 14 ≤ r.op) {p : aq} (hp : p ∈ r.e) (hn : p.op = 2 ∨ p.op = 3 ∨ p.op = 8) : p.v ∈ eE r := by
  unfold eE
  rw [iN (by omega)]
  unfold dZ
  rw [iN (by omega), lu]
  exact .inr ⟨p, hp, (wW p).2 hn, rfl⟩
structure w8 (s : ae) (r : ab) : Prop where
  v : eT s
  g : iT s r
  ar : (r.a.length : Int) = aP r.op
  op : 1 ≤ r.op ∧ r.op ≤ 16
  sh : uy s r.op r.n (nV s r.out_) (nV s (cS r 0)) (nV s (cS r 1)) (nV s (cS r 2)) r.e
  n : okI .i64 r.n
  e : ∀ p ∈ r.e, okI .i64 p.n
theorem w8.ok {s : ae} {r : ab} {V : Int → List Int} {kp : List Int} (k : w8 s r) (h : ∀ v ∈ eE r, gn s V v) (hk : kp = [] ∨ (kp.length = clN s r.out_ ∧ ∀ y ∈ kp, okI .i64 y)) : m0 s V kp r :=
  ⟨k.v, k.g, k.ar, k.op, k.sh, k.n, k.e, fun _ hi h13 => h _ (qW hi h13), fun ho _ hp hn => h _ (qX ho hp hn), hk⟩
theorem nP {s : ae} {r : ab} {V V' : Int → List Int} {kp : List Int} (k : w8 s r) (h : ∀ v ∈ eE r, V v = V' v) : kB s V kp r = kB s V' kp r := by
  have hop := k.op
  have har := k.ar
  have A : ∀ i, i < r.a.length → (r.op = 13 → i = 0) → V (cS r i) = V' (cS r i) := fun i hi h13 => h _ (qW hi h13)
  have T : 14 ≤ r.op → ∀ n, lw V n r.e = lw V' n r.e := fun ho n => lr fun i _ => wv fun p hp hn => by
    have := s8 k.sh ⟨ho, hop.2⟩ p hp
    exact h _ (qX ho hp (by omega))
  have hcs : r.op = 1 ∨ r.op = 2 ∨ r.op = 3 ∨ r.op = 4 ∨ r.op = 5 ∨ r.op = 6 ∨ r.op = 7 ∨ r.op = 8 ∨ r.op = 9 ∨ r.op = 10 ∨ r.op = 11 ∨ r.op = 12 ∨ r.op = 13 ∨ r.op = 14 ∨ r.op = 15 ∨ r.op = 16 := by omega
  have p2 : aP 2 = 1 := by decide
  have p3 : aP 3 = 1 := by decide
  have p4 : aP 4 = 2 := by decide
  have p5 : aP 5 = 3 := by decide
  have p6 : aP 6 = 2 := by decide
  have p7 : aP 7 = 2 := by decide
  have p8 : aP 8 = 1 := by decide
  have p9 : aP 9 = 3 := by decide
  have p10 : aP 10 = 3 := by decide
  have p11 : aP 11 = 1 := by decide
  have p12 : aP 12 = 2 := by decide
  have p13 : aP 13 = 2 := by decide
  have p15 : aP 15 = 1 := by decide
  have p16 : aP 16 = 1 := by decide
  rcases hcs with o | o | o | o | o | o | o | o | o | o | o | o | o | o | o | o <;> (rw [o] at har; simp only [kB, o, Int.reduceEq, if_true, if_false, reduceIte])
  · rw [A 0 (by omega) (by omega)]
  · rw [A 0 (by omega) (by omega)]
  · rw [A 0 (by omega) (by omega), A 1 (by omega) (by omega)]
  · rw [A 0 (by omega) (by omega), A 1 (by omega) (by omega), A 2 (by omega) (by omega)]
  · rw [A 0 (by omega) (by omega), A 1 (by omega) (by omega)]
  · rw [A 0 (by omega) (by omega), A 1 (by omega) (by omega)]
  · rw [A 0 (by omega) (by omega)]
  · rw [A 0 (by omega) (by omega), A 1 (by omega) (by omega), A 2 (by omega) (by omega)]
  · rw [A 0 (by omega) (by omega), A 1 (by omega) (by omega), A 2 (by omega) (by omega)]
  · rw [A 0 (by omega) (by omega)]
  · rw [A 0 (by omega) (by omega), A 1 (by omega) (by omega)]
  · rw [A 0 (by omega) (fun _ => rfl)]
  · exact T (by omega) _
  · rw [A 0 (by omega) (by omega), T (by omega)]
  · rw [A 0 (by omega) (by omega), T (by omega)]
theorem nQ {s : ae} (g : ff s) (hs : s.ok) {i : Nat} (hi : i < s.rules.length) : w8 s (rl s i) := by
  have h := mR (g.r i hi)
  have hr : ab.ok (rl s i) := hs.2.2.2 _ (aN hi)
  have hop : 1 ≤ (rl s i).op ∧ (rl s i).op ≤ 16 := by
    have h5 := h.2.2.2.2.1
    unfold aP at h5
    by_cases hc : 1 ≤ (s.rules.getD i default).op ∧ (s.rules.getD i default).op ≤ 16
    · exact hc
    · rw [iN hc] at h5; omega
  exact ⟨g.h.v, h.1, h.2.2.2.2.2.1, hop, ze g.h.v h.1 h.2.2.2.2.1 h.2.2.2.2.2.1 h.2.2.2.2.2.2, hr.2.2.2.1, fun p hp => (hr.2.2.2.2.2 p hp).2.2.2⟩
def upd (V : Int → List Int) (v : Int) (x : List Int) : Int → List Int := fun w => if w = v then x else V w
theorem qE (V : Int → List Int) (v : Int) (x : List Int) : upd V v x v = x := iP rfl
theorem qF {V : Int → List Int} {v w : Int} (x : List Int) (h : w ≠ v) : upd V v x w = V w := iN h
def i7 (P : Int → List Int) (r : ab) : List Int := if r.op = 13 then P (cS r 1) else []
noncomputable def stV (s : ae) (P W : Int → List Int) : Nat → Int → List Int
  | 0 => W
  | i + 1 => upd (stV s P W i) (rl s i).out_ (kB s (stV s P W i) (i7 P (rl s i)) (rl s i))
noncomputable def o9 (s : ae) (P W : Int → List Int) : Int → List Int := stV s P W s.rules.length
def m4 (s : ae) (P : Int → List Int) : Prop := ∀ i, i < s.rules.length → (rl s i).op = 13 → P (cS (rl s i) 1) = [] ∨ gn s P (cS (rl s i) 1)
theorem w9 {s : ae} (g : ff s) (hs : s.ok) {P : Int → List Int} (hP : m4 s P) {i : Nat} (hi : i < s.rules.length) : i7 P (rl s i) = [] ∨ ((i7 P (rl s i)).length = clN s (rl s i).out_ ∧ ∀ y ∈ i7 P (rl s i), okI .i64 y) := by
  unfold i7
  by_cases o : (rl s i).op = 13
  · rw [iP o]
    rcases hP i hi o with h | h
    · exact .inl h
    · exact .inr ⟨by rw [h.len]; exact lz ((nQ g hs hi).sh.h13 o).2, h.ok⟩
  · rw [iN o]; exact .inl rfl
theorem ww {s : ae} (g : ff s) (hs : s.ok) (hso : f9 s) {P W : Int → List Int} (hP : m4 s P) (hW : ∀ v ∈ s.in_, gn s W v) : ∀ i, i ≤ s.rules.length → ∀ v ∈ bV s i, gn s (stV s P W i) v
  | 0, _, v, hv => hW v (by simpa [bV] using hv)
  | i + 1, hi, v, hv => by
    have ih := ww g hs hso hP hW i (by omega)
    have hil : i < s.rules.length := by omega
    rw [mP s hil, List.mem_append, List.mem_singleton] at hv
    have R := (nQ g hs hil).ok (V := stV s P W i) (fun v hv => ih v (hso i hil v hv)) (w9 g hs hP hil)
    have := zj R
    show gn s (upd _ _ _) v
    by_cases e : v = (rl s i).out_
    · subst e
      exact ⟨by rw [qE]; exact this.1, by rw [qE]; exact this.2⟩
    · rcases hv with hv | hv
      · have q := ih v hv
        exact ⟨by rw [qF _ e]; exact q.len, by rw [qF _ e]; exact q.ok⟩
      · exact absurd hv e
theorem pU {s : ae} (g : ff s) (P W : Int → List Int) {i : Nat} : ∀ {k : Nat}, i ≤ k → k ≤ s.rules.length → ∀ v ∈ bV s i, stV s P W k v = stV s P W i v
  | 0, h, _, v, _ => by obtain rfl : i = 0 := by omega
                        rfl
  | k + 1, h, hk, v, hv => by
    by_cases e : i = k + 1
    · subst e; rfl
    · have hkl : k < s.rules.length := by omega
      have hm : v ∈ bV s k := by
        rw [mq s _ (by omega)] at hv ⊢
        rcases hv with hv | ⟨j, hj, hv⟩
        · exact .inl hv
        · exact .inr ⟨j, by omega, hv⟩
      have hne : v ≠ (rl s k).out_ := fun e => mo g hkl (by rw [e] at hm; exact hm)
      show upd _ _ _ v = _
      rw [qF _ hne]
      exact pU g P W (by omega) (by omega) v hv
structure zl (s : ae) (P W V : Int → List Int) : Prop where
  i : ∀ v ∈ s.in_, V v = W v
  r : ∀ j, j < s.rules.length → V (rl s j).out_ = kB s V (i7 P (rl s j)) (rl s j)
theorem vt {s : ae} (g : ff s) (hs : s.ok) (hso : f9 s) (P W : Int → List Int) : zl s P W (o9 s P W) := by
  refine ⟨fun v hv => ?_, fun j hj => ?_⟩
  · exact pU g P W (Nat.zero_le _) (Nat.le_refl _) v (by simpa [bV] using hv)
  · have h1 : o9 s P W (rl s j).out_ = stV s P W (j + 1) (rl s j).out_ := pU g P W (by omega) (Nat.le_refl _) _ (by rw [mP s hj, List.mem_append, List.mem_singleton]; exact .inr rfl)
    rw [h1]
    show upd _ _ _ _ = _
    rw [qE]
    exact nP (nQ g hs hj) fun v hv => (pU g P W (by omega) (Nat.le_refl _) v (hso j hj v hv)).symm
theorem tP {s : ae} (g : ff s) (hs : s.ok) (hso : f9 s) {P W V V' : Int → List Int} (h : zl s P W V) (h' : zl s P W V') : ∀ i, i ≤ s.rules.length → ∀ v ∈ bV s i, V v = V' v
  | 0, _, v, hv => by
    have : v ∈ s.in_ := by simpa [bV] using hv
    rw [h.i v this, h'.i v this]
  | i + 1, hi, v, hv => by
    have ih := tP g hs hso h h' i (by omega)
    have hil : i < s.rules.length := by omega
    rw [mP s hil, List.mem_append, List.mem_singleton] at hv
    rcases hv with hv | hv
    · exact ih v hv
    · rw [hv]
      show V (rl s i).out_ = V' (rl s i).out_
      rw [h.r i hil, h'.r i hil]
      exact nP (nQ g hs hil) fun w hw => ih w (hso i hil w hw)
def pV (s : ae) (l : List Int) (i : Nat) : Nat := ((l.take i).map (clN s)).sum
theorem kU (s : ae) (l : List Int) {i : Nat} (h : i < l.length) : pV s l (i + 1) = pV s l i + clN s (l.getD i default) := by
  unfold pV
  rw [cA _ h, List.map_append, List.sum_append]
  simp
theorem ri (s : ae) (l : List Int) {i : Nat} : ∀ {k : Nat}, i ≤ k → k ≤ l.length → pV s l i ≤ pV s l k
  | 0, h, _ => by obtain rfl : i = 0 := by omega
                  exact Nat.le_refl _
  | k + 1, h, hk => by
    by_cases e : i = k + 1
    · subst e; exact Nat.le_refl _
    · rw [kU s l (by omega)]
      have := ri s l (i := i) (k := k) (by omega) (by omega)
      omega
theorem pW {s : ae} (hv : eT s) {l : List Int} (hl : ∀ x ∈ l, inV s x) : ∀ i, i ≤ l.length → pV s l i ≤ 300 * i
  | 0, _ => Nat.le_refl _
  | i + 1, h => by
    rw [kU s l (by omega)]
    have := pW hv hl i (by omega)
    have := m3 hv (hl _ (aN (show i < l.length by omega)))
    omega
theorem tQ (s : ae) (v : Int) : dY (s.vars.getD v.toNat default).n = (clN s v : Int) := by
  show dY (nV s v) = _
  have : 1 ≤ dY (nV s v) := by unfold dY; split <;> omega
  unfold clN; omega
theorem vu {s : ae} (hv : eT s) {l : List Int} (hl : ∀ x ∈ l, inV s x) (hb : l.length ≤ 1000) : hZ s l = some (pV s l l.length : Int) := by
  have k := gR (S := Int × Int) (fun i => ((pV s l i : Int), (i : Int))) (body := fun x => ez s l x.1 x.2) l.length (pV s l l.length : Int) (fun i hi => by
    show ez s l _ (i : Int) = _
    have g := hl _ (aN hi)
    have m := pW hv hl i (by omega)
    have c := m3 hv g
    unfold inV at g
    unfold ez
    rw [iP (ltI hi), iP (inI hi)]
    simp only [tN]
    rw [iP g, qC, tQ]
    simp only [bSq]
    rw [wr (by omega) (by omega), wrs i (by omega), kU s l hi]
    rfl) (by
    show ez s l _ (l.length : Int) = _
    unfold ez
    rw [iN (bH _)])
  unfold hZ
  show (bb (fun (x : Int × Int) => ez s l x.1 x.2) (((pV s l 0 : Nat) : Int), ((0 : Nat) : Int))).bind _ = _
  rw [k]
  rfl
def ofI (s : ae) (i : Nat) : Nat := pV s s.in_ i
def ivI (s : ae) (i : Nat) : Int := s.in_.getD i default
def vw (s : ae) (inn : List Int) (i j : Nat) : Option av :=
  if (vOf s (ivI s i)).elem = 98 ∧ ¬ inn.getD (ofI s i + j) default = 0 ∧ ¬ inn.getD (ofI s i + j) default = 1 then some (av.mk 17 ((ofI s i + j : Nat) : Int)) else none
def uC (s : ae) (inn : List Int) (i : Nat) : Option av := match eC (clN s (ivI s i)) (vw s inn i) () with | .inr z => some z | .inl _ => none
def jC (s : ae) (inn : List Int) : av :=
  if ¬ inn.length = ofI s s.in_.length then av.mk 17 (-1)
  else match eC s.in_.length (uC s inn) () with | .inr z => z | .inl _ => av.mk 0 0
def inC (s : ae) (inn : List Int) (i : Nat) : List Int := (inn.take (ofI s i + clN s (ivI s i))).drop (ofI s i)
def inW (s : ae) (inn : List Int) : Nat → Int → List Int
  | 0 => fun _ => []
  | i + 1 => upd (inW s inn i) (ivI s i) (inC s inn i)
def inE (s : ae) (inn : List Int) : Int → List Int := inW s inn s.in_.length
theorem Aq {s : ae} {inn : List Int} (h : inn.length = ofI s s.in_.length) {i : Nat} (hi : i < s.in_.length) : (inC s inn i).length = clN s (ivI s i) := by
  have h1 : ofI s (i + 1) = ofI s i + clN s (ivI s i) := kU s s.in_ hi
  have h2 : ofI s (i + 1) ≤ ofI s s.in_.length := ri s s.in_ (by omega) (Nat.le_refl _)
  unfold inC
  rw [List.length_drop, List.length_take]
  omega
theorem zm {s : ae} {inn : List Int} (h : inn.length = ofI s s.in_.length) (hin : ∀ y ∈ inn, okI .i64 y) : ∀ i, i ≤ s.in_.length → ∀ v ∈ s.in_.take i, gn s (inW s inn i) v
  | 0, _, v, hv => by simp at hv
  | i + 1, hi, v, hv => by
    rw [cA _ (by omega), List.mem_append, List.mem_singleton] at hv
    show gn s (upd _ _ _) v
    by_cases e : v = ivI s i
    · subst e
      exact ⟨by rw [qE]; exact Aq h (by omega), by rw [qE]; exact fun y hy => hin y (List.mem_of_mem_take (List.mem_of_mem_drop hy))⟩
    · rcases hv with hv | hv
      · have q := zm h hin i (by omega) v hv
        exact ⟨by rw [qF _ e]; exact q.len, by rw [qF _ e]; exact q.ok⟩
      · exact absurd hv e
theorem sD {s : ae} {inn : List Int} (h : (jC s inn).code = 0) : inn.length = ofI s s.in_.length := by
  unfold jC at h
  refine Classical.byContradiction fun hc => ?_
  rw [iP hc] at h
  cases h
theorem Bk {s : ae} {inn : List Int} (h : (jC s inn).code = 0) (hin : ∀ y ∈ inn, okI .i64 y) : ∀ v ∈ s.in_, gn s (inE s inn) v := fun v hv =>
  zm (sD h) hin s.in_.length (Nat.le_refl _) v (by simpa using hv)
structure s9 (s : ae) (L : List (List Int)) (V : Int → List Int) : Prop where
  len : L.length = s.vars.length
  at_ : ∀ v, inV s v → fd L v = V v
theorem s9.set {s : ae} {L : List (List Int)} {V : Int → List Int} (h : s9 s L V) {v : Int} (hv : inV s v) (x : List Int) : s9 s (L.set v.toNat x) (upd V v x) := by
  refine ⟨by rw [List.length_set]; exact h.len, fun w hw => ?_⟩
  have hl := h.len
  have hv' := hv
  have hw' := hw
  unfold inV at hv' hw'
  unfold fd
  by_cases e : w = v
  · subst e
    rw [qE, List.getD_eq_getElem?_getD, List.getElem?_set_self (by omega)]
    rfl
  · rw [qF _ e, List.getD_eq_getElem?_getD, List.getElem?_set_ne (by omega), ← List.getD_eq_getElem?_getD]
    exact h.at_ w hw
theorem Ar (s : ae) : s9 s (List.replicate s.vars.length []) (fun _ => []) := ⟨by simp, fun v _ => by
  unfold fd
  rw [List.getD_eq_getElem?_getD, List.getElem?_replicate]
  split <;> rfl⟩
def inL (s : ae) (inn : List Int) : Nat → List (List Int)
  | 0 => List.replicate s.vars.length []
  | i + 1 => (inL s inn i).set (ivI s i).toNat (inC s inn i)
theorem uD {s : ae} (g : pP s) (inn : List Int) : ∀ i, i ≤ s.in_.length → s9 s (inL s inn i) (inW s inn i)
  | 0, _ => Ar s
  | i + 1, h => (uD g inn i (by omega)).set (g.i _ (aN (by omega))) _
theorem vx {Z Y : Type} (f : Nat → Option Z) (h : Z → Y) : ∀ l : List Nat, l.findSome? (fun j => (f j).map h) = (l.findSome? f).map h
  | [] => rfl
  | j :: l => by
    rw [List.findSome?_cons, List.findSome?_cons]
    cases hf : f j with
    | none => exact vx f h l
    | some z => rfl
theorem vy {Z Y : Type} (f : Nat → Option Z) (h : Nat → Z → Y) : ∀ l : List Nat, (∃ i z, i ∈ l ∧ f i = some z ∧ l.findSome? (fun j => (f j).map (h j)) = some (h i z) ∧ l.findSome? f = some z) ∨ (l.findSome? (fun j => (f j).map (h j)) = none ∧ l.findSome? f = none)
  | [] => .inr ⟨rfl, rfl⟩
  | j :: l => by
    rw [List.findSome?_cons, List.findSome?_cons]
    cases hf : f j with
    | none =>
      rcases vy f h l with ⟨i, z, h1, h2, h3, h4⟩ | ⟨h1, h2⟩
      · exact .inl ⟨i, z, by simp [h1], h2, h3, h4⟩
      · exact .inr ⟨h1, h2⟩
    | some z => exact .inl ⟨j, z, by simp, hf, rfl, rfl⟩
theorem zn {T T' Z Y : Type} (n : Nat) (f : Nat → Option Z) (h : Nat → Z → Y) (t : T) (t' : T') : (∃ i z, i < n ∧ f i = some z ∧ eC n (fun j => (f j).map (h j)) t = .inr (h i z) ∧ eC n f t' = .inr z) ∨ (eC n (fun j => (f j).map (h j)) t = .inl t ∧ eC n f t' = .inl t') := by
  unfold eC
  rcases vy f h (List.range n) with ⟨i, z, h1, h2, h3, h4⟩ | ⟨h1, h2⟩
  · rw [h3, h4]; exact .inl ⟨i, z, List.mem_range.1 h1, h2, rfl, rfl⟩
  · rw [h1, h2]; exact .inr ⟨rfl, rfl⟩
theorem zo {T Z Y : Type} (n : Nat) (f : Nat → Option Z) (h : Z → Y) (t : T) : eC n (fun j => (f j).map h) t = (match eC n f t with | .inl t => .inl t | .inr z => .inr (h z)) := by
  unfold eC
  rw [vx]
  cases (List.range n).findSome? f with
  | none => rfl
  | some z => rfl
theorem tR {s : ae} {inn : List Int} {i : Nat} {z : av} (h : uC s inn i = some z) : z.code = 17 := by
  unfold uC at h
  rcases dd (clN s (ivI s i)) (vw s inn i) () with ⟨e, _⟩ | ⟨j, y, _, hf, e⟩
  · rw [e] at h; cases h
  · rw [e] at h
    simp only [sJ] at h
    subst h
    unfold vw at hf
    split at hf
    · simp only [sJ] at hf; subst hf; rfl
    · cases hf
theorem wx {s : ae} (g : pP s) {inn : List Int} (hl : inn.length = ofI s s.in_.length) {i : Nat} (hi : i < s.in_.length) (L : List (List Int)) :
    bb (fun x23 => eM inn s.vars s.in_ L (ofI s i : Int) (i : Int) (clN s (ivI s i) : Int) x23) 0 = some (match eC (clN s (ivI s i)) (vw s inn i) () with | .inl t => .inl t | .inr z => .inr (z, L)) := by
  have h1 : ofI s (i + 1) = ofI s i + clN s (ivI s i) := kU s s.in_ hi
  have h2 : ofI s (i + 1) ≤ ofI s s.in_.length := ri s s.in_ (by omega) (Nat.le_refl _)
  have hb := pW g.v g.i s.in_.length (Nat.le_refl _)
  have hni := g.ni
  have hb' : ofI s s.in_.length ≤ 120000 := by unfold ofI; omega
  have hc := m3 g.v (g.i _ (aN hi))
  rw [eR (clN s (ivI s i)) (fun j => (vw s inn i j).map fun z => (z, L)) () (fun j hj => by
    unfold eM
    rw [iP (by omega), wr (n := (ofI s i : Int) + (j : Int)) (by omega) (by omega), iP (by omega), wrs j (by omega)]
    have hn : ((ofI s i : Int) + (j : Int)).toNat = ofI s i + j := by omega
    rw [hn]
    simp only [tN]
    unfold vw
    show (if (vOf s (ivI s i)).elem = 98 then _ else _) = _
    have hcast : (((ofI s i + j : Nat) : Int)) = (ofI s i : Int) + (j : Int) := by omega
    rw [hcast]
    by_cases c1 : (vOf s (ivI s i)).elem = 98
    · rw [iP c1]
      by_cases c2 : inn.getD (ofI s i + j) default = 0
      · rw [iN (by simpa using c2), iN (fun h => h.2.1 c2)]; rfl
      · rw [iP c2]
        by_cases c3 : inn.getD (ofI s i + j) default = 1
        · rw [iN (by simpa using c3), iN (fun h => h.2.2 c3)]; rfl
        · rw [iP c3, iP ⟨c1, c2, c3⟩]; rfl
    · rw [iN c1, iN (fun h => c1 h.1)]; rfl) (by
    unfold eM
    rw [iN (by omega)])]
  rw [zo]
  cases eC (clN s (ivI s i)) (vw s inn i) () <;> rfl
theorem zp {s : ae} (g : pP s) (inn : List Int) (R : List ab) (M : List (Int × List Int)) (hR : R = s.rules) :
  ∃ L, iJ inn s.vars s.in_ s.out_ R (List.replicate s.vars.length []) M = some (jC s inn, L) ∧ ((jC s inn).code = 0 → s9 s L (inE s inn)) := by
 subst hR
 have hni := g.ni
 have hw : hZ (ae.mk s.vars s.in_ s.out_ s.rules) s.in_ = some (ofI s s.in_.length : Int) := vu g.v g.i (by omega)
 unfold iJ
 rw [hw]
 simp only [bSq]
 by_cases hl : inn.length = ofI s s.in_.length
 ·rw [iN (by omega)]
  have hb := pW g.v g.i s.in_.length (Nat.le_refl _)
  have hb' : ofI s s.in_.length ≤ 120000 := by unfold ofI; omega
  have key := wV (S := List (List Int) × Int × Int) (fun i => (inL s inn i, (ofI s i : Int), (i : Int))) (body := fun x => cg inn s.vars s.in_ x.1 x.2.1 x.2.2) s.in_.length (fun i => (uC s inn i).map fun z => (z, inL s inn i)) (inL s inn s.in_.length) (fun i hi => by
   show cg inn s.vars s.in_ (inL s inn i) (ofI s i : Int) (i : Int) = _
   have gi := g.i _ (aN hi)
   have gi' := gi
   have h1 : ofI s (i + 1) = ofI s i + clN s (ivI s i) := kU s s.in_ hi
   have h2 : ofI s (i + 1) ≤ ofI s s.in_.length := ri s s.in_ (by omega) (Nat.le_refl _)
   have hc := m3 g.v gi
   have hc' : clN s (ivI s i) ≤ 300 := hc
   unfold inV at gi'
   unfold cg
   rw [iP (ltI hi), iP (inI hi)]
   simp only [tN]
   rw [iP gi', qC, tQ]
   simp only [bSq]
   have gb := wx g hl hi (inL s inn i)
   rw [show s.in_.getD i default = ivI s i from rfl, gb]
   unfold uC
   cases hu : eC (clN s (ivI s i)) (vw s inn i) () with
   | inr z => rfl
   | inl u =>
    simp only [bSq, Sum.elim_inl, Option.map_none]
    unfold eJ
    have hw2 : IntKind.wrap .i64 ((ofI s i : Int) + (clN s (ivI s i) : Int)) = ((ofI s i + clN s (ivI s i) : Nat) : Int) := by
     rw [wr (by omega) (by omega)]; omega
    rw [hw2]
    simp only [tN]
    rw [iP (by omega), kT _ (by rw [List.length_drop, List.length_take]; omega)]
    simp only [bSq]
    have hL := (uD g inn i (by omega)).len
    rw [iP (by omega)]
    unfold fY
    rw [wrs i (by omega), h1]
    rfl) (by
   show cg inn s.vars s.in_ _ _ (s.in_.length : Int) = _
   unfold cg
   rw [iN (bH _)])
  have hrf : jC s inn = (match eC s.in_.length (uC s inn) () with | .inr z => z | .inl _ => av.mk 0 0) := by
   unfold jC
   rw [iN (not_not_intro hl)] <;> (cases eC s.in_.length (uC s inn) () <;> rfl)
  have key' : bb (fun (x : List (List Int) × Int × Int) => cg inn s.vars s.in_ x.1 x.2.1 x.2.2) (List.replicate s.vars.length [], 0, 0) = _ := key
  show ∃ L, (bb (fun (x : List (List Int) × Int × Int) => cg inn s.vars s.in_ x.1 x.2.1 x.2.2) (List.replicate s.vars.length [], 0, 0)).bind _ = _ ∧ _
  rw [key', hrf]
  rcases zn s.in_.length (uC s inn) (fun i z => (z, inL s inn i)) (inL s inn s.in_.length) () with ⟨i, z, hi, hf, e1, e2⟩ | ⟨e1, e2⟩
  ·rw [e1, e2]
   refine ⟨_, rfl, fun h => ?_⟩
   have := tR hf
   simp only at h
   omega
  ·rw [e1, e2]
   exact ⟨_, rfl, fun _ => uD g inn s.in_.length (Nat.le_refl _)⟩
 ·rw [iP (by omega)]
  refine ⟨List.replicate s.vars.length [], ?_, fun h => absurd (sD h) hl⟩
  unfold jC
  rw [iP hl]
def sE (s : ae) (V : Int → List Int) : List Int := (s.out_.map V).flatten
def sF (s : ae) (M : List (Int × List Int)) (P : Int → List Int) : Prop := ∀ i, i < s.rules.length → (mgL M (i : Int)).getD [] = i7 P (rl s i)
theorem pX (s : ae) : sF s [] (fun _ => []) := fun i _ => by
 unfold i7
 split <;> rfl
theorem pY (s : ae) : m4 s (fun _ => []) := fun _ _ _ => .inl rfl
section
variable {s : ae} {P W : Int → List Int} {M : List (Int × List Int)}
theorem qY (g : ff s) (hs : s.ok) (hso : f9 s) (hP : m4 s P) (hW : ∀ v ∈ s.in_, gn s W v) (hM : sF s M P) : ∀ (k i : Nat) (L : List (List Int)), i + k = s.rules.length → s9 s L (stV s P W i) →
  ∃ L', bb (fun (x : List (List Int) × Int) => cw s.vars s.in_ s.out_ s.rules M x.1 x.2) (L, (i : Int)) = some L' ∧ s9 s L' (o9 s P W)
 | 0, i, L, hi, hL => by
  obtain rfl : i = s.rules.length := by omega
  refine ⟨L, eG ?_, hL⟩
  show cw s.vars s.in_ s.out_ s.rules M L _ = _
  unfold cw
  rw [iN (bH _)]
 | k + 1, i, L, hi, hL => by
  have hil : i < s.rules.length := by omega
  have hnr := g.h.nr
  have K := nQ g hs hil
  have hneed : ∀ v ∈ eE (rl s i), inV s v := fun v hv => (g.rule hil).2.1 v (sf hv)
  have hE : ∀ v ∈ eE (rl s i), gn s (fd L) v := fun v hv => by
   have q := ww g hs hso hP hW i (by omega) v (hso i hil v hv)
   have e := hL.at_ v (hneed v hv)
   exact ⟨by rw [e]; exact q.len, by rw [e]; exact q.ok⟩
  have hk := hM i hil
  have R : m0 s (fd L) ((mgL M (i : Int)).getD []) (rl s i) := by rw [hk]; exact K.ok hE (w9 g hs hP hil)
  have e1 := Ch s.in_ s.out_ s.rules i (by omega) R hL.len
  rw [hk] at e1
  have e2 : kB s (fd L) (i7 P (rl s i)) (rl s i) = kB s (stV s P W i) (i7 P (rl s i)) (rl s i) := nP K fun v hv => hL.at_ v (hneed v hv)
  have ho : inV s (rl s i).out_ := K.g.o
  have hst : cw s.vars s.in_ s.out_ s.rules M L (i : Int) = some (.inl (L.set (rl s i).out_.toNat (kB s (stV s P W i) (i7 P (rl s i)) (rl s i)), ((i + 1 : Nat) : Int))) := by
   unfold cw
   rw [iP (ltI hil), iP (inI hil)]
   simp only [tN]
   rw [show s.rules.getD i default = rl s i from rfl, e1, e2]
   simp only [bSq]
   have hl := hL.len
   unfold inV at ho
   rw [iP (by omega), wrs i (by omega)]
  rw [eF (s := (L, (i : Int))) hst]
  exact qY g hs hso hP hW hM k (i + 1) _ (by omega) (hL.set ho _)
theorem qG (g : ff s) (hs : s.ok) {V : Int → List Int} {L : List (List Int)} (hL : s9 s L V) (hV : ∀ v ∈ bV s s.rules.length, gn s V v) (hMl : M.length ≤ 500000) : ∀ (k i : Nat) (N : List (Int × List Int)), i + k = s.rules.length → N.length ≤ M.length + i →
  (∀ j, j < i → (rl s j).op = 13 → mgL N (j : Int) = some (V (cS (rl s j) 1))) → (∀ j, (rl s j).op ≠ 13 → mgL N (j : Int) = mgL M (j : Int)) →
  ∃ N', bb (fun (x : List (Int × List Int) × Int) => bK s.rules L x.1 x.2) (N, (i : Int)) = some N' ∧ N'.length ≤ M.length + s.rules.length ∧ (∀ j, j < s.rules.length → (rl s j).op = 13 → mgL N' (j : Int) = some (V (cS (rl s j) 1))) ∧ (∀ j, (rl s j).op ≠ 13 → mgL N' (j : Int) = mgL M (j : Int))
 | 0, i, N, hi, h1, h2, h3 => by
  obtain rfl : i = s.rules.length := by omega
  refine ⟨N, eG ?_, h1, h2, h3⟩
  show bK s.rules L N _ = _
  unfold bK
  rw [iN (bH _)]
 | k + 1, i, N, hi, h1, h2, h3 => by
  have hil : i < s.rules.length := by omega
  have hnr := g.h.nr
  have K := nQ g hs hil
  by_cases o : (rl s i).op = 13
  ·have har := K.ar
   rw [o] at har
   have p13 : aP 13 = 2 := by decide
   have hin : inV s (cS (rl s i) 1) := K.g.a _ (aN (by omega))
   have hmade : cS (rl s i) 1 ∈ bV s s.rules.length := g.u i hil _ (jx (aN (by unfold rl at har; omega)))
   have q := hV _ hmade
   have hc := n5 s (cS (rl s i) 1)
   have hc2 := m3 g.h.v hin
   have hst : bK s.rules L N (i : Int) = some (.inl (((i : Int), V (cS (rl s i) 1)) :: N, ((i + 1 : Nat) : Int))) := by
    unfold bK
    rw [iP (ltI hil), iP (inI hil)]
    simp only [tN]
    rw [show s.rules.getD i default = rl s i from rfl, iP o]
    have hl := hL.len
    have hin' := hin
    unfold inV at hin'
    rw [show (rl s i).a.getD 1 default = cS (rl s i) 1 from rfl, iP ⟨by omega, by omega⟩, show L.getD (cS (rl s i) 1).toNat default = fd L (cS (rl s i) 1) from rfl, hL.at_ _ hin, kT _ (by rw [q.len]; omega)]
    simp only [bSq]
    rw [iP ⟨by omega, by omega, fun e => by have := q.len; rw [e] at this; simp at this; omega⟩, wrs i (by omega)]
   rw [eF (s := (N, (i : Int))) hst]
   refine qG g hs hL hV hMl k (i + 1) _ (by omega) (by simp; omega) (fun j hj ho => ?_) (fun j ho => ?_)
   ·unfold mgL
    by_cases e : i = j
    ·subst e; rw [iP rfl]
    ·rw [iN (by omega)]; exact h2 j (by omega) ho
   ·have hne : ¬ (i : Int) = (j : Int) := fun e => by
     have : i = j := by omega
     subst this; exact ho o
    show (if (i : Int) = (j : Int) then some (V (cS (rl s i) 1)) else mgL N (j : Int)) = _
    rw [iN hne]
    exact h3 j ho
  ·have hst : bK s.rules L N (i : Int) = some (.inl (N, ((i + 1 : Nat) : Int))) := by
    unfold bK
    rw [iP (ltI hil), iP (inI hil)]
    simp only [tN]
    rw [show s.rules.getD i default = rl s i from rfl, iN o, wrs i (by omega)]
   rw [eF (s := (N, (i : Int))) hst]
   refine qG g hs hL hV hMl k (i + 1) N (by omega) (by omega) (fun j hj ho => ?_) h3
   by_cases e : j = i
   ·subst e; exact absurd ho o
   ·exact h2 j (by omega) ho
theorem zq (g : ff s) {V : Int → List Int} {L : List (List Int)} (hL : s9 s L V) (hV : ∀ v ∈ bV s s.rules.length, gn s V v) :
  bb (fun (x : List Int × Int) => cr s.out_ L x.1 x.2) ([], ((0 : Nat) : Int)) = some (sE s V) := by
 have hno := g.h.no
 have hin : ∀ i, i < s.out_.length → inV s (s.out_.getD i default) ∧ (V (s.out_.getD i default)).length ≤ 300 := fun i hi => by
  have h1 := g.h.o _ (aN hi)
  have := m3 g.h.v h1
  exact ⟨h1, by rw [(hV _ (g.o _ (aN hi))).len]; exact this⟩
 have hlen : ∀ i, i ≤ s.out_.length → (((s.out_.take i).map V).flatten).length ≤ 300 * i := by
  intro i
  induction i with
  | zero => intro _; simp
  | succ i ih =>
   intro h
   rw [cA _ (by omega), List.map_append, List.flatten_append, List.length_append]
   have q1 := ih (by omega)
   have q2 := (hin i (by omega)).2
   have q3 : (List.map V [s.out_.getD i default]).flatten.length = (V (s.out_.getD i default)).length := by
    rw [List.map_cons, List.map_nil, List.flatten_cons, List.flatten_nil, List.append_nil]
   omega
 refine gR (S := List Int × Int) (fun i => (((s.out_.take i).map V).flatten, (i : Int))) s.out_.length _ (fun i hi => ?_) ?_
 ·show cr s.out_ L _ (i : Int) = _
  have h1 := (hin i hi).1
  have h2 := (hin i hi).2
  have h3 := hlen i (by omega)
  have hl := hL.len
  unfold cr
  rw [iP (ltI hi), iP (inI hi)]
  simp only [tN]
  rw [show L.getD (s.out_.getD i default).toNat default = fd L (s.out_.getD i default) from rfl, hL.at_ _ h1]
  unfold inV at h1
  rw [iP ⟨by omega, iU _ (by omega)⟩, wrs i (by omega), cA _ hi, List.map_append, List.flatten_append]
  simp
 ·show cr s.out_ L _ (s.out_.length : Int) = _
  unfold cr
  rw [iN (bH _), List.take_length]
  rfl
theorem sG (g : ff s) (hs : s.ok) (hso : f9 s) (hP : m4 s P) (hM : sF s M P) (hMl : M.length ≤ 500000) (inn : List Int) (hin : ∀ y ∈ inn, okI .i64 y) :
  ∃ M', bp inn s.vars s.in_ s.out_ s.rules M = some (if (jC s inn).code = 0 then sE s (o9 s P (inE s inn)) else [], jC s inn, M') ∧ ((jC s inn).code ≠ 0 → M' = M) ∧
   ((jC s inn).code = 0 → sF s M' (o9 s P (inE s inn)) ∧ m4 s (o9 s P (inE s inn)) ∧ M'.length ≤ M.length + 400 ∧ ∀ v ∈ bV s s.rules.length, gn s (o9 s P (inE s inn)) v) := by
 have hnv := g.h.nv
 have hnr := g.h.nr
 obtain ⟨L, e1, h1⟩ := zp g.h inn s.rules M rfl
 unfold bp
 have hroom : dt s.vars.length 24 := qS (by omega) (by omega)
 rw [iP ⟨by omega, hroom⟩, e1]
 simp only [bSq]
 by_cases c : (jC s inn).code = 0
 ·rw [iN (by simpa using c), iP c]
  have hW := Bk c hin
  obtain ⟨L', e2, h2⟩ := qY g hs hso hP hW hM s.rules.length 0 L (by omega) (h1 c)
  have hV : ∀ v ∈ bV s s.rules.length, gn s (o9 s P (inE s inn)) v := ww g hs hso hP hW s.rules.length (Nat.le_refl _)
  obtain ⟨M', e3, k1, k2, k3⟩ := qG (M := M) g hs h2 hV hMl s.rules.length 0 M (by omega) (by omega) (fun j hj => by omega) (fun j _ => rfl)
  refine ⟨M', ?_, fun h => absurd c h, fun _ => ⟨fun i hi => ?_, fun i hi o => ?_, by omega, hV⟩⟩
  ·show (bb (fun (x : List (List Int) × Int) => cw s.vars s.in_ s.out_ s.rules M x.1 x.2) (L, ((0 : Nat) : Int))).bind _ = _
   rw [e2]
   simp only [bSq]
   unfold ef
   show (bb (fun (x : List (Int × List Int) × Int) => bK s.rules L' x.1 x.2) (M, ((0 : Nat) : Int))).bind _ = _
   rw [e3]
   simp only [bSq]
   unfold ee
   show (bb (fun (x : List Int × Int) => cr s.out_ L' x.1 x.2) ([], ((0 : Nat) : Int))).bind _ = _
   rw [zq g h2 hV]
   simp only [bSq]
   unfold ed
   have hz : jC s inn = av.mk 0 0 := by
    have hlen := sD c
    unfold jC at c ⊢
    rw [iN (not_not_intro hlen)] at c ⊢
    rcases dd s.in_.length (uC s inn) () with ⟨e, _⟩ | ⟨i, z, _, hf, e⟩
    ·rw [e]
    ·rw [e] at c
     have := tR hf
     simp only at c
     omega
   rw [hz]
  ·by_cases o : (rl s i).op = 13
   ·rw [k2 i hi o]
    unfold i7
    rw [iP o]
    rfl
   ·rw [k3 i o, hM i hi]
    unfold i7
    rw [iN o, iN o]
  ·have har := (nQ g hs hi).ar
   rw [o] at har
   have p13 : aP 13 = 2 := by decide
   exact .inr (hV _ (g.u i hi _ (jx (aN (by unfold rl at har; omega)))))
 ·rw [iP c, iN c]
  exact ⟨M, rfl, fun _ => rfl, fun h => absurd h c⟩
end
end Pam
