/- The fault of all of a system but its rules: the program and the document tell the same. -/
import Derived.Test.YtcfgfffidnpciaaQabFun1
import Derived.Test.YtcfgfffidnpciaaQWide1
import Derived.Test.YtcfgfffidnpciaaQBase3
set_option linter.all false
namespace Pam
open Go
theorem rD (v : Int) (j : av) : fb v j = some (decide (0 ≤ v ∧ v < (j.system.vars.length : Int))) := by
 unfold fb
 by_cases h : v ≥ 0
 ·rw [iP h]; congr 1; rw [decide_eq_decide]; omega
 ·rw [iN h]; congr 1; symm; rw [decide_eq_false_iff_not]; omega
theorem pR (l : List Int) (v : Int) (hl : l.length ≤ 9000000) : ∃ k, dY l v = some k ∧ (decide (k ≥ 0)) = l.contains v := by
 unfold dY
 rw [cW l.length (fun i => if l.getD i default = v then some (i : Int) else none) () (fun i hi => by
  unfold cV
  rw [iP (ltI hi), iP (inI hi)]
  simp only [tN]
  by_cases h : l.getD i default = v
  ·rw [iP h.symm, iP h]
  ·rw [iN (fun e => h e.symm), iN h, wrs i (by omega)]) (by unfold cV; rw [iN (bi _)])]
 rcases b9 l.length (fun i => if l.getD i default = v then some (i : Int) else none) () with ⟨e, h⟩ | ⟨j, z, hj, hf, e⟩
 ·rw [e]
  refine ⟨-1, rfl, ?_⟩
  have : ¬ v ∈ l := by
   intro hm
   obtain ⟨i, hi, rfl⟩ := List.mem_iff_getElem.1 hm
   have := h i hi
   simp [List.getD, hi] at this
  simp [this]
 ·rw [e]
  refine ⟨z, rfl, ?_⟩
  by_cases hh : l.getD j default = v
  ·rw [iP hh] at hf
   simp only [sJ] at hf
   subst hf
   have : v ∈ l := by rw [← hh]; exact br hj
   simp [this]
  ·rw [iN hh] at hf; cases hf
theorem oK (l : List Int) (v : Int) (hl : l.length ≤ 9000000) : bC l v = some (l.contains v) := by
 unfold bC
 obtain ⟨k, h1, h2⟩ := pR l v hl
 rw [h1]
 simp only [bSq, h2]
theorem n5 (l : List Int) (v : Int) (hl : l.length ≤ 9000000) : kD l v = some (l.contains v) := by
 unfold kD
 rw [cW l.length (fun i => if l.getD i default = v then some true else none) () (fun i hi => by
  unfold kU
  rw [iP (ltI hi), iP (inI hi)]
  simp only [tN]
  by_cases h : l.getD i default = v
  ·rw [iP h, iP h]
  ·rw [iN h, iN h, wrs i (by omega)]) (by unfold kU; rw [iN (bi _)])]
 rcases b9 l.length (fun i => if l.getD i default = v then some true else none) () with ⟨e, h⟩ | ⟨j, z, hj, hf, e⟩
 ·rw [e]
  have : ¬ v ∈ l := by
   intro hm
   obtain ⟨i, hi, rfl⟩ := List.mem_iff_getElem.1 hm
   have := h i hi
   simp [List.getD, hi] at this
  show some false = _
  simp [this]
 ·rw [e]
  by_cases hh : l.getD j default = v
  ·rw [iP hh] at hf
   simp only [sJ] at hf
   subst hf
   have : v ∈ l := by rw [← hh]; exact br hj
   show some true = _
   simp [this]
  ·rw [iN hh] at hf; cases hf
def inV (s : ab) (v : Int) : Prop := 0 ≤ v ∧ v < (s.vars.length : Int)
instance (s : ab) (v : Int) : Decidable (inV s v) := inferInstanceAs (Decidable (_ ∧ _))
def va (x : ap) (i : Nat) : Option au :=
 if ¬ x.elem = 105 ∧ ¬ x.elem = 98 then some (au.mk 10 (-2 - i)) else if x.n < 0 ∨ x.n > 300 then some (au.mk 13 (-2 - i)) else none
def pS (s : ab) (i : Nat) : Option au := va (s.vars.getD i default) i
def inF (s : ab) (i : Nat) : Option au :=
 if ¬ inV s (s.in_.getD i default) then some (au.mk 16 (-1)) else if (s.in_.take i).contains (s.in_.getD i default) then some (au.mk 8 (-1)) else none
def qt (s : ab) (i : Nat) : Option au := if ¬ inV s (s.out_.getD i default) then some (au.mk 16 (-1)) else none
def mt (s : ab) : au :=
 if (s.vars.length : Int) > 400 ∨ (s.rules.length : Int) > 400 ∨ (s.in_.length : Int) > 400 ∨ (s.out_.length : Int) > 400 then au.mk 7 (-1)
 else match d2 s.vars.length (pS s) () with
  | .inr z => z
  | .inl _ => match d2 s.in_.length (inF s) () with
   | .inr z => z
   | .inl _ => match d2 s.out_.length (qt s) () with
    | .inr z => z
    | .inl _ => au.mk 0 0
theorem wr2 (i : Nat) (h : i < 1000000) : IntKind.wrap .i64 (-2 - (i : Int)) = -2 - i := wr (by omega) (by omega)
theorem tC (s : ab) (c : Int) : gZ (av.mk s c) = some (mt s) := by
 have out : s.out_.length ≤ 400 → dl (av.mk s c) = some (match d2 s.out_.length (qt s) () with | .inr z => z | .inl _ => au.mk 0 0) := by
  intro hl
  unfold dl
  rw [cW s.out_.length (qt s) () (fun i hi => by
   unfold fd qt inV
   rw [iP (ltI hi), iP (inI hi)]
   simp only [tN]
   rw [rD]
   simp only [bSq]
   by_cases h : 0 ≤ s.out_.getD i default ∧ s.out_.getD i default < (s.vars.length : Int)
   ·rw [iP (by simpa using h), iN (by simpa using h), wrs i (by omega)]
   ·rw [iN (by simpa using h), iP h]) (by unfold fd; rw [iN (bi _)])]
  cases d2 s.out_.length (qt s) () <;> rfl
 have inn : s.in_.length ≤ 400 → s.out_.length ≤ 400 → cC (av.mk s c) = some (match d2 s.in_.length (inF s) () with
   | .inr z => z
   | .inl _ => match d2 s.out_.length (qt s) () with | .inr z => z | .inl _ => au.mk 0 0) := by
  intro hl ho
  unfold cC
  rw [cW s.in_.length (inF s) () (fun i hi => by
   unfold fe inF inV
   rw [iP (ltI hi), iP (inI hi)]
   simp only [tN]
   rw [rD]
   simp only [bSq]
   by_cases h : 0 ≤ s.in_.getD i default ∧ s.in_.getD i default < (s.vars.length : Int)
   ·rw [iP (by simpa using h), iP ⟨by omega, by omega⟩, oK _ _ (by simp; omega), iN (by simpa using h)]
    simp only [bSq]
    split
    ·rfl
    ·rw [wrs i (by omega)]
   ·rw [iN (by simpa using h), iP h]) (by unfold fe; rw [iN (bi _)])]
  cases d2 s.in_.length (inF s) () with
  | inr z => rfl
  | inl _ => exact out ho
 have main : s.vars.length ≤ 400 → s.in_.length ≤ 400 → s.out_.length ≤ 400 → (aU (fun x14 => d6 (av.mk s c) x14) 0).bind (Sum.elim (fun _ => cC (av.mk s c)) (fun z15 => some z15)) = some (match d2 s.vars.length (pS s) () with
   | .inr z => z
   | .inl _ => match d2 s.in_.length (inF s) () with
    | .inr z => z
    | .inl _ => match d2 s.out_.length (qt s) () with | .inr z => z | .inl _ => au.mk 0 0) := by
  intro hv hl ho
  rw [cW s.vars.length (pS s) () (fun i hi => by
   unfold d6 pS
   rw [iP (ltI hi), iP (inI hi)]
   simp only [tN]
   obtain ⟨x, hx⟩ : ∃ x, s.vars.getD i default = x := ⟨_, rfl⟩
   simp only [hx]
   unfold va
   have tail : dm (av.mk s c) (i : Int) = some (match (if x.n < 0 ∨ x.n > 300 then some (au.mk 13 (-2 - (i : Int))) else none) with | some z => .inr (.inr z) | none => .inl ((i + 1 : Nat) : Int)) := by
    unfold dm
    simp only [tN, hx]
    by_cases h1 : x.n < 0
    ·rw [iP h1, iP (.inl h1), wr2 i (by omega)]
    ·rw [iN h1]
     by_cases h2 : x.n > 300
     ·rw [iP h2, iP (.inr h2), wr2 i (by omega)]
     ·rw [iN h2, iN (by omega), wrs i (by omega)]
   by_cases h1 : x.elem = 105
   ·rw [iN (by simpa using h1), iN (by simp [h1])]; rw [tail]; generalize (if x.n < 0 ∨ x.n > 300 then some (au.mk 13 (-2 - (i : Int))) else none) = q; cases q <;> rfl
   ·rw [iP h1]
    by_cases h2 : x.elem = 98
    ·rw [iN (by simpa using h2), iN (by simp [h2])]; rw [tail]; generalize (if x.n < 0 ∨ x.n > 300 then some (au.mk 13 (-2 - (i : Int))) else none) = q; cases q <;> rfl
    ·rw [iP h2, iP ⟨h1, h2⟩, wr2 i (by omega)]) (by unfold d6; rw [iN (bi _)])]
  cases d2 s.vars.length (pS s) () with
  | inr z => rfl
  | inl _ => exact inn hl ho
 unfold gZ mt
 by_cases h1 : (s.vars.length : Int) > 400
 ·rw [iP h1, iP (.inl h1)]
 rw [iN h1]
 by_cases h2 : (s.rules.length : Int) > 400
 ·rw [iP h2, iP (.inr (.inl h2))]
 rw [iN h2]
 by_cases h3 : (s.in_.length : Int) > 400
 ·rw [iP h3, iP (.inr (.inr (.inl h3)))]
 rw [iN h3]
 by_cases h4 : (s.out_.length : Int) > 400
 ·rw [iP h4, iP (.inr (.inr (.inr h4)))]
 rw [iN h4, iN (by omega)]
 exact main (by omega) (by omega) (by omega)
end Pam
namespace Pam
open Go
def opT (k : Int) : Int × Int × Int :=
 if 1 ≤ k ∧ k ≤ 7 then (105, 105, 2) else if k = 8 ∨ k = 9 then (105, 98, 2) else if 10 ≤ k ∧ k ≤ 12 then (98, 98, 2) else if k = 13 then (105, 105, 1) else if k = 14 then (98, 98, 1) else (0, 0, 0)
theorem gE (k : Int) : jt k = some (opT k) := by
 unfold jt opT
 repeat' split
 all_goals first
  | rfl
  | (exfalso; omega)
theorem cX (k : Int) : lf k = some (opT k) := by
 unfold lf
 by_cases h1 : k < 1
 ·rw [iP h1]; unfold opT
  rw [iN (by omega), iN (by omega), iN (by omega), iN (by omega), iN (by omega)]
 rw [iN h1]
 by_cases h2 : k > 14
 ·rw [iP h2]; unfold opT
  rw [iN (by omega), iN (by omega), iN (by omega), iN (by omega), iN (by omega)]
 rw [iN h2]
 have : k = 1 ∨ k = 2 ∨ k = 3 ∨ k = 4 ∨ k = 5 ∨ k = 6 ∨ k = 7 ∨ k = 8 ∨ k = 9 ∨ k = 10 ∨ k = 11 ∨ k = 12 ∨ k = 13 ∨ k = 14 := by omega
 rcases this with rfl | rfl | rfl | rfl | rfl | rfl | rfl | rfl | rfl | rfl | rfl | rfl | rfl | rfl <;> rfl
theorem vY (k : Int) : (opT k).2.2 = 0 ∨ ((opT k).1 = 105 ∨ (opT k).1 = 98) ∧ ((opT k).2.1 = 105 ∨ (opT k).2.1 = 98) := by
 unfold opT
 repeat' split
 all_goals simp
def ew (s : ab) (n : Int) (p : ax) (rs : List Int) : Option (List Int) :=
 if p.op = 1 then (if p.k = 0 then some (105 :: rs) else if p.k = 1 ∧ (p.n = 0 ∨ p.n = 1) then some (98 :: rs) else none)
 else if p.op = 2 then (if (s.vars.getD p.v.toNat default).n = 0 then some ((s.vars.getD p.v.toNat default).elem :: rs) else none)
 else if p.op = 3 then (if (s.vars.getD p.v.toNat default).n > 0 ∧ p.n ≥ 0 ∧ p.n ≤ (s.vars.getD p.v.toNat default).n - n then some ((s.vars.getD p.v.toNat default).elem :: rs) else none)
 else if p.op = 4 then (if p.n ≥ -1000000 ∧ p.n ≤ 1000000 then some (105 :: rs) else none)
 else if p.op = 5 then (match rs with
  | a :: r => if (opT p.k).2.2 = 1 ∧ a = (opT p.k).1 then some ((opT p.k).2.1 :: r) else none
  | [] => none)
 else if p.op = 6 then (match rs with
  | a :: b :: r => if (opT p.k).2.2 = 2 ∧ a = (opT p.k).1 ∧ b = (opT p.k).1 then some ((opT p.k).2.1 :: r) else none
  | _ => none)
 else if p.op = 7 then (match rs with
  | a :: b :: c :: r => if c = 98 ∧ b = a then some (a :: r) else none
  | _ => none)
 else if p.op = 8 then (match rs with
  | a :: b :: r => if (s.vars.getD p.v.toNat default).n > 0 ∧ b = 105 ∧ a = (s.vars.getD p.v.toNat default).elem then some ((s.vars.getD p.v.toNat default).elem :: r) else none
  | _ => none)
 else none
def okE (x : Int) : Prop := x = 105 ∨ x = 98
def okS (rs : List Int) : Prop := ∀ x ∈ rs, okE x
structure gj (s : ab) : Prop where
 e : ∀ v ∈ s.vars, okE v.elem
 n : ∀ v ∈ s.vars, 0 ≤ v.n ∧ v.n ≤ 300
def oM (s : ab) (p : ax) : Prop := (p.op = 2 ∨ p.op = 3 ∨ p.op = 8) → inV s p.v
theorem vZ {s : ab} {n : Int} {p : ax} {rs rs' : List Int} (hv : gj s) (hu : oM s p) (hs : okS rs) (h : ew s n p rs = some rs') : okS rs' ∧ rs'.length ≤ rs.length + 1 := by
 have hel : p.op = 2 ∨ p.op = 3 ∨ p.op = 8 → okE (s.vars.getD p.v.toNat default).elem := fun ho => hv.e _ (br (by have := hu ho; unfold inV at this; omega))
 have cons : ∀ {x : Int} {r : List Int}, okE x → okS r → okS (x :: r) := fun h1 h2 y hy => by
  rcases List.mem_cons.1 hy with rfl | hy
  ·exact h1
  ·exact h2 y hy
 have tl : ∀ {x : Int} {r : List Int}, okS (x :: r) → okS r := fun h1 y hy => h1 y (by simp [hy])
 have hk : ∀ m : Int, (opT p.k).2.2 = m → m ≠ 0 → okE (opT p.k).2.1 := fun m h1 h2 => by
  rcases vY p.k with h | h
  ·exact absurd (h1.symm.trans h) h2
  ·exact h.2
 unfold ew at h
 by_cases h1 : p.op = 1
 ·rw [iP h1] at h
  split at h
  ·simp only [sJ] at h; subst h; exact ⟨cons (.inl rfl) hs, by simp⟩
  ·split at h
   ·simp only [sJ] at h; subst h; exact ⟨cons (.inr rfl) hs, by simp⟩
   ·cases h
 rw [iN h1] at h
 by_cases h2 : p.op = 2
 ·rw [iP h2] at h
  split at h
  ·simp only [sJ] at h; subst h; exact ⟨cons (hel (.inl h2)) hs, by simp⟩
  ·cases h
 rw [iN h2] at h
 by_cases h3 : p.op = 3
 ·rw [iP h3] at h
  split at h
  ·simp only [sJ] at h; subst h; exact ⟨cons (hel (.inr (.inl h3))) hs, by simp⟩
  ·cases h
 rw [iN h3] at h
 by_cases h4 : p.op = 4
 ·rw [iP h4] at h
  split at h
  ·simp only [sJ] at h; subst h; exact ⟨cons (.inl rfl) hs, by simp⟩
  ·cases h
 rw [iN h4] at h
 by_cases h5 : p.op = 5
 ·rw [iP h5] at h
  split at h
  ·split at h
   ·rename_i hc
    simp only [sJ] at h; subst h; exact ⟨cons (hk 1 hc.1 (by decide)) (tl hs), by simp⟩
   ·cases h
  ·cases h
 rw [iN h5] at h
 by_cases h6 : p.op = 6
 ·rw [iP h6] at h
  split at h
  ·split at h
   ·rename_i hc
    simp only [sJ] at h; subst h; exact ⟨cons (hk 2 hc.1 (by decide)) (tl (tl hs)), by simp⟩
   ·cases h
  ·cases h
 rw [iN h6] at h
 by_cases h7 : p.op = 7
 ·rw [iP h7] at h
  split at h
  ·split at h
   ·simp only [sJ] at h; subst h; exact ⟨cons (hs _ (by simp)) (tl (tl (tl hs))), by simp⟩
   ·cases h
  ·cases h
 rw [iN h7] at h
 by_cases h8 : p.op = 8
 ·rw [iP h8] at h
  split at h
  ·split at h
   ·simp only [sJ] at h; subst h; exact ⟨cons (hel (.inr (.inr h8))) (tl (tl hs)), by simp⟩
   ·cases h
  ·cases h
 rw [iN h8] at h
 cases h
theorem pT (n : Nat) (h : n ≤ 1000000) : ij n 1 := by
 unfold ij
 have : maxLen = 9223372036854775807 := rfl
 omega
theorem fL (l : List Int) : l.reverse.length = l.length := by simp
theorem rv1 (a : Int) (r : List Int) : ((a :: r).reverse).getD r.length default = a ∧ ((a :: r).reverse).take r.length = r.reverse := by
 constructor
 ·simp [List.getD]
 ·simp
theorem rv2 (a b : Int) (r : List Int) : ((a :: b :: r).reverse).getD r.length default = b ∧ ((a :: b :: r).reverse).getD (r.length + 1) default = a ∧ ((a :: b :: r).reverse).take r.length = r.reverse := by
 refine ⟨?_, ?_, ?_⟩
 ·simp [List.getD]
 ·have := (rv1 a (b :: r)).1
  simpa using this
 ·simp
theorem rv3 (a b c : Int) (r : List Int) : ((a :: b :: c :: r).reverse).getD r.length default = c ∧ ((a :: b :: c :: r).reverse).getD (r.length + 1) default = b ∧ ((a :: b :: c :: r).reverse).getD (r.length + 2) default = a ∧ ((a :: b :: c :: r).reverse).take r.length = r.reverse := by
 refine ⟨?_, ?_, ?_, ?_⟩
 ·simp [List.getD]
 ·have := (rv2 a b (c :: r)).1
  simpa using this
 ·have := (rv1 a (b :: c :: r)).1
  simpa using this
 ·simp
def it (k : Nat) (rs : List Int) : Int := rs.getD (k - 1) 0
theorem tD (k : Nat) (rs : List Int) (hk : 1 ≤ k ∧ k ≤ 3) (hl : rs.length ≤ 1000) : bj (k : Int) rs.reverse = some (it k rs) := by
 unfold bj it
 rw [fL]
 by_cases h : (k : Int) > (rs.length : Int)
 ·rw [iP h]
  have : rs.length ≤ k - 1 := by omega
  simp [List.getD, List.getElem?_eq_none this]
 ·rw [iN h, wr (by omega) (by omega), iP (by omega)]
  congr 1
  have e : ((rs.length : Int) - (k : Int)).toNat = rs.length - k := by omega
  rw [e]
  have h1 : rs.length - k < rs.reverse.length := by simp; omega
  have h2 : k - 1 < rs.length := by omega
  simp only [List.getD, List.getElem?_eq_getElem h1, List.getElem?_eq_getElem h2, Option.getD_some, List.getElem_reverse]
  congr 1
  omega
end Pam
namespace Pam
open Go
theorem xf {e : List ax} {n : Int} {j : av} {l : List Int} {i : Nat} {t m : Int} (hi : i < e.length) (h : aJ (e.getD i default) n j l = some (t, m, false)) :
  a8 e n j l (i : Int) = some (.inr (.inr (0, false))) := by
 unfold a8
 rw [iP (ltI hi), iP (inI hi)]
 simp only [tN]
 rw [h]
 rfl
theorem xJ {e : List ax} {n : Int} {j : av} {l : List Int} {i : Nat} {m : Int} (k : Nat) (hi : i < e.length) (h : aJ (e.getD i default) n j l = some ((k : Int), m, true)) (hl : k ≤ l.length) (hb : l.length ≤ 1000) (hi' : i < 100000) :
  a8 e n j l (i : Int) = some (.inl (l.take (l.length - k) ++ [m], ((i + 1 : Nat) : Int))) := by
 unfold a8
 rw [iP (ltI hi), iP (inI hi)]
 simp only [tN]
 rw [h]
 simp only [bSq, if_true]
 rw [iN (by omega), wr (by omega) (by omega), iP ⟨by omega, pT _ (by omega)⟩, wrs i (by omega)]
 have : ((l.length : Int) - (k : Int)).toNat = l.length - k := by omega
 rw [this]
 rfl
theorem xg (l : List Int) (x : Int) : l.reverse.take (l.reverse.length - 0) ++ [x] = (x :: l).reverse := by
 rw [Nat.sub_zero, List.take_length]; simp
theorem v6 {k m : Int} (h : (opT k).2.2 = m) (hm : m ≠ 0) : (opT k).1 ≠ 0 := by
 rcases vY k with h' | h'
 ·exact absurd (h.symm.trans h') hm
 ·rcases h'.1 with h | h <;> omega
def zi {Z : Type} (z : Z) (i : Nat) : Option (List Int) → (List Int × Int) ⊕ (List Int ⊕ Z)
 | some rs' => .inl (rs'.reverse, ((i + 1 : Nat) : Int))
 | none => .inr (.inr z)
theorem xh {s : ab} {c : Int} {e : List ax} {n : Int} {rs : List Int} {i : Nat} (hv : gj s) (hu : oM s (e.getD i default)) (hs : okS rs) (hn : 1 ≤ n ∧ n ≤ 300) (hl : rs.length ≤ 900) (hi : i < e.length) (hi' : i < 100000) :
  a8 e n (av.mk s c) rs.reverse (i : Int) = some (zi (0, false) i (ew s n (e.getD i default) rs)) := by
 have hb : rs.reverse.length ≤ 1000 := by simp; omega
 have ok0 : ∀ m, aJ (e.getD i default) n (av.mk s c) rs.reverse = some (0, m, true) → a8 e n (av.mk s c) rs.reverse (i : Int) = some (.inl ((m :: rs).reverse, ((i + 1 : Nat) : Int))) := fun m h => by
  rw [xJ 0 hi h (by omega) hb hi', xg]
 have fail : ∀ t m, aJ (e.getD i default) n (av.mk s c) rs.reverse = some (t, m, false) → a8 e n (av.mk s c) rs.reverse (i : Int) = some (.inr (.inr (0, false))) := fun t m h => xf hi h
 have okk : ∀ (k : Nat) (m : Int) (r : List Int), aJ (e.getD i default) n (av.mk s c) rs.reverse = some ((k : Int), m, true) → rs.length = r.length + k → rs.reverse.take r.length = r.reverse →
   a8 e n (av.mk s c) rs.reverse (i : Int) = some (.inl ((m :: r).reverse, ((i + 1 : Nat) : Int))) := fun k m r h h1 h2 => by
  rw [xJ k hi h (by rw [fL]; omega) hb hi', fL, show rs.length - k = r.length by omega, h2]
  simp
 have t1 := tD 1 rs (by omega) (by omega)
 have t2 := tD 2 rs (by omega) (by omega)
 have t3 := tD 3 rs (by omega) (by omega)
 simp only [Int.natCast_one, Int.cast_ofNat_Int] at t1 t2 t3
 generalize hp : e.getD i default = p at *
 have hvar : p.op = 2 ∨ p.op = 3 ∨ p.op = 8 → (0 ≤ p.v ∧ p.v < (s.vars.length : Int)) ∧ (0 ≤ (s.vars.getD p.v.toNat default).n ∧ (s.vars.getD p.v.toNat default).n ≤ 300) ∧ okE (s.vars.getD p.v.toNat default).elem := fun ho => by
  have h := hu ho
  have hm : s.vars.getD p.v.toNat default ∈ s.vars := br (by unfold inV at h; omega)
  exact ⟨h, hv.n _ hm, hv.e _ hm⟩
 by_cases h1 : p.op = 1
 ·have hst : aJ p n (av.mk s c) rs.reverse = if p.k = 1 then (if p.n = 0 then some (0, 98, true) else some (0, 98, p.n == 1)) else some (0, 105, p.k == 0) := by
   unfold aJ; rw [iP h1]
  unfold ew; rw [iP h1]
  by_cases k0 : p.k = 0
  ·rw [iP k0]; exact ok0 105 (by rw [hst, iN (by omega), k0]; rfl)
  ·rw [iN k0]
   by_cases k1 : p.k = 1
   ·by_cases n0 : p.n = 0
    ·rw [iP ⟨k1, .inl n0⟩]; exact ok0 98 (by rw [hst, iP k1, iP n0])
    ·by_cases n1 : p.n = 1
     ·rw [iP ⟨k1, .inr n1⟩]; exact ok0 98 (by rw [hst, iP k1, iN n0, n1]; rfl)
     ·rw [iN (by omega)]; exact fail 0 98 (by rw [hst, iP k1, iN n0, nB n1])
   ·rw [iN (by omega)]; exact fail 0 105 (by rw [hst, iN k1, nB k0])
 by_cases h2 : p.op = 2
 ·obtain ⟨q1, q2, q3⟩ := hvar (.inl h2)
  have hst : aJ p n (av.mk s c) rs.reverse = some (0, (s.vars.getD p.v.toNat default).elem, (s.vars.getD p.v.toNat default).n == 0) := by
   unfold aJ; rw [iN h1, iP h2, iP q1]
  unfold ew; rw [iN h1, iP h2]
  by_cases n0 : (s.vars.getD p.v.toNat default).n = 0
  ·rw [iP n0]; exact ok0 _ (by rw [hst, n0]; rfl)
  ·rw [iN n0]; exact fail _ _ (by rw [hst, nB n0])
 by_cases h3 : p.op = 3
 ·obtain ⟨q1, q2, q3⟩ := hvar (.inr (.inl h3))
  have hst : aJ p n (av.mk s c) rs.reverse = some (0, (s.vars.getD p.v.toNat default).elem, decide ((s.vars.getD p.v.toNat default).n > 0 ∧ p.n ≥ 0 ∧ p.n ≤ (s.vars.getD p.v.toNat default).n - n)) := by
   unfold aJ; rw [iN h1, iN h2, iP h3, iP q1]
   simp only
   rw [wr (by omega) (by omega)]
   by_cases a : (s.vars.getD p.v.toNat default).n > 0
   ·rw [iP a]
    by_cases b : p.n ≥ 0
    ·rw [iP b]; congr 3; rw [decide_eq_decide]; exact ⟨fun h => ⟨a, b, h⟩, fun h => h.2.2⟩
    ·rw [iN b, dF (fun h => b h.2.1)]
   ·rw [iN a, dF (fun h => a h.1)]
  unfold ew; rw [iN h1, iN h2, iP h3]
  by_cases a : (s.vars.getD p.v.toNat default).n > 0 ∧ p.n ≥ 0 ∧ p.n ≤ (s.vars.getD p.v.toNat default).n - n
  ·rw [iP a]; exact ok0 _ (by rw [hst, dT a])
  ·rw [iN a]; exact fail _ _ (by rw [hst, dF a])
 by_cases h4 : p.op = 4
 ·have hst : aJ p n (av.mk s c) rs.reverse = some (0, 105, decide (p.n ≥ -1000000 ∧ p.n ≤ 1000000)) := by
   unfold aJ; rw [iN h1, iN h2, iN h3, iP h4]
   by_cases a : p.n ≥ -1000000
   ·rw [iP a]; simp [a]
   ·rw [iN a]; simp [a]
  unfold ew; rw [iN h1, iN h2, iN h3, iP h4]
  by_cases a : p.n ≥ -1000000 ∧ p.n ≤ 1000000
  ·rw [iP a]; exact ok0 _ (by rw [hst, dT a])
  ·rw [iN a]; exact fail _ _ (by rw [hst, dF a])
 have w5 : IntKind.wrap .i64 (IntKind.wrap .i64 ((5 : Int) - 5) + 1) = 1 := by decide
 have w6 : IntKind.wrap .i64 (IntKind.wrap .i64 ((6 : Int) - 5) + 1) = 2 := by decide
 by_cases h5 : p.op = 5
 ·have hst : aJ p n (av.mk s c) rs.reverse = if (opT p.k).2.2 = 1 then (if it 1 rs = (opT p.k).1 then some ((opT p.k).2.2, (opT p.k).2.1, true) else some ((opT p.k).2.2, (opT p.k).2.1, false)) else some ((opT p.k).2.2, (opT p.k).2.1, false) := by
   unfold aJ; rw [iN h1, iN h2, iN h3, iN h4, iP h5, show (p.op == 5) = true by simp [h5]]
   unfold bG
   rw [iP rfl, gE]
   simp only [bSq]
   rw [h5, w5, t1]
   simp only [bSq]
   by_cases a : (opT p.k).2.2 = 1
   ·rw [iP a, iP a, iP a]
   ·rw [iN a, iN a]
  unfold ew; rw [iN h1, iN h2, iN h3, iN h4, iP h5]
  by_cases a : (opT p.k).2.2 = 1
  ·rw [iP a] at hst
   have nz := v6 a (by decide)
   cases rs with
   | nil =>
    rw [iN (by show ¬ (0 : Int) = _; omega)] at hst
    exact fail _ _ hst
   | cons x r =>
    by_cases b : x = (opT p.k).1
    ·rw [iP (show it 1 (x :: r) = _ from b), a] at hst
     simp only
     rw [iP ⟨a, b⟩]
     exact okk 1 _ r hst (by simp) (rv1 x r).2
    ·rw [iN (show ¬ it 1 (x :: r) = _ from b)] at hst
     simp only
     rw [iN (fun h => b h.2)]
     exact fail _ _ hst
  ·rw [iN a] at hst
   have f := fail _ _ hst
   cases rs with
   | nil => exact f
   | cons x r => simp only; rw [iN (fun h => a h.1)]; exact f
 by_cases h6 : p.op = 6
 ·have hst : aJ p n (av.mk s c) rs.reverse = if (opT p.k).2.2 = 2 then (if it 1 rs = (opT p.k).1 then some ((opT p.k).2.2, (opT p.k).2.1, it 2 rs == (opT p.k).1) else some ((opT p.k).2.2, (opT p.k).2.1, false)) else some ((opT p.k).2.2, (opT p.k).2.1, false) := by
   unfold aJ; rw [iN h1, iN h2, iN h3, iN h4, iN h5, show (p.op == 6) = true by simp [h6]]
   unfold bG
   rw [iP rfl, gE]
   simp only [bSq]
   rw [h6, w6, t1]
   simp only [bSq]
   by_cases a : (opT p.k).2.2 = 2
   ·rw [iP a, iP a, iN (by omega : ¬ (opT p.k).2.2 = 1), t2]
    simp only [bSq]
   ·rw [iN a, iN a]
  unfold ew; rw [iN h1, iN h2, iN h3, iN h4, iN h5, iP h6]
  by_cases a : (opT p.k).2.2 = 2
  ·rw [iP a] at hst
   have nz := v6 a (by decide)
   match rs, hst, okk, fail with
   | [], hst, _, fail =>
    rw [iN (by show ¬ (0 : Int) = _; omega)] at hst
    exact fail _ _ hst
   | [x], hst, _, fail =>
    have : (it 2 [x] == (opT p.k).1) = false := nB (by show (0 : Int) ≠ _; omega)
    rw [this] at hst
    exact fail _ _ (by rw [hst]; split <;> rfl)
   | x :: y :: r, hst, okk, fail =>
    simp only
    by_cases b : x = (opT p.k).1
    ·rw [iP (show it 1 (x :: y :: r) = _ from b), a] at hst
     by_cases d : y = (opT p.k).1
     ·rw [show (it 2 (x :: y :: r) == (opT p.k).1) = true from eQ d] at hst
      rw [iP ⟨a, b, d⟩]
      exact okk 2 _ r hst (by simp) (rv2 x y r).2.2
     ·rw [show (it 2 (x :: y :: r) == (opT p.k).1) = false from nB d] at hst
      rw [iN (fun h => d h.2.2)]
      exact fail _ _ hst
    ·rw [iN (show ¬ it 1 (x :: y :: r) = _ from b)] at hst
     rw [iN (fun h => b h.2.1)]
     exact fail _ _ hst
  ·rw [iN a] at hst
   have f := fail _ _ hst
   match rs, f with
   | [], f => exact f
   | [x], f => exact f
   | x :: y :: r, f => simp only; rw [iN (fun h => a h.1)]; exact f
 by_cases h7 : p.op = 7
 ·have hst : aJ p n (av.mk s c) rs.reverse = if it 3 rs = 98 then (if it 1 rs = it 2 rs then some (3, it 1 rs, it 1 rs != 0) else some (3, it 1 rs, false)) else some (3, it 1 rs, false) := by
   unfold aJ; rw [iN h1, iN h2, iN h3, iN h4, iN h5, show (p.op == 6) = false by simp [h6]]
   unfold bG
   rw [iN (by decide), iP h7, t1, t3]
   simp only [bSq]
   rw [t2]
   simp only [bSq]
  unfold ew; rw [iN h1, iN h2, iN h3, iN h4, iN h5, iN h6, iP h7]
  match rs, hst, okk, fail, hs with
  | [], hst, _, fail, _ => rw [iN (by show ¬ (0 : Int) = _; omega)] at hst; exact fail _ _ hst
  | [x], hst, _, fail, _ => rw [iN (by show ¬ (0 : Int) = _; omega)] at hst; exact fail _ _ hst
  | [x, y], hst, _, fail, _ => rw [iN (by show ¬ (0 : Int) = _; omega)] at hst; exact fail _ _ hst
  | x :: y :: z :: r, hst, okk, fail, hs =>
   simp only
   by_cases b : z = 98
   ·rw [iP (show it 3 (x :: y :: z :: r) = 98 from b)] at hst
    by_cases d : y = x
    ·have hx : x ≠ 0 := by rcases hs x (by simp) with h | h <;> omega
     rw [iP (show it 1 (x :: y :: z :: r) = it 2 (x :: y :: z :: r) from d.symm), show (it 1 (x :: y :: z :: r) != 0) = true from bne_iff_ne.2 hx] at hst
     rw [iP ⟨b, d⟩]
     exact okk 3 x r hst (by simp) (rv3 x y z r).2.2.2
    ·rw [iN (show ¬ it 1 (x :: y :: z :: r) = it 2 (x :: y :: z :: r) from fun h => d h.symm)] at hst
     rw [iN (fun h => d h.2)]
     exact fail _ _ hst
   ·rw [iN (show ¬ it 3 (x :: y :: z :: r) = 98 from b)] at hst
    rw [iN (fun h => b h.1)]
    exact fail _ _ hst
 by_cases h8 : p.op = 8
 ·obtain ⟨q1, q2, q3⟩ := hvar (.inr (.inr h8))
  have hst : aJ p n (av.mk s c) rs.reverse = if (s.vars.getD p.v.toNat default).n > 0 then (if it 1 rs = (s.vars.getD p.v.toNat default).elem then some (2, (s.vars.getD p.v.toNat default).elem, it 2 rs == 105) else some (2, (s.vars.getD p.v.toNat default).elem, false)) else some (2, (s.vars.getD p.v.toNat default).elem, false) := by
   unfold aJ; rw [iN h1, iN h2, iN h3, iN h4, iN h5, show (p.op == 6) = false by simp [h6]]
   unfold bG
   rw [iN (by decide), iN h7, iP h8, iP q1, t1]
   simp only [bSq]
   rw [t2]
   simp only [bSq]
  unfold ew; rw [iN h1, iN h2, iN h3, iN h4, iN h5, iN h6, iN h7, iP h8]
  match rs, hst, okk, fail with
  | [], hst, _, fail =>
   by_cases a : (s.vars.getD p.v.toNat default).n > 0
   ·rw [iP a, iN (by show ¬ (0 : Int) = _; rcases q3 with h | h <;> omega)] at hst; exact fail _ _ hst
   ·rw [iN a] at hst; exact fail _ _ hst
  | [x], hst, _, fail =>
   rw [show (it 2 [x] == 105) = false from rfl] at hst
   exact fail _ _ (by rw [hst]; split <;> (try split) <;> rfl)
  | x :: y :: r, hst, okk, fail =>
   simp only
   by_cases a : (s.vars.getD p.v.toNat default).n > 0
   ·rw [iP a] at hst
    by_cases b : x = (s.vars.getD p.v.toNat default).elem
    ·rw [iP (show it 1 (x :: y :: r) = _ from b)] at hst
     by_cases d : y = 105
     ·rw [show (it 2 (x :: y :: r) == 105) = true from eQ d] at hst
      rw [iP ⟨a, d, b⟩]
      exact okk 2 _ r hst (by simp) (rv2 x y r).2.2
     ·rw [show (it 2 (x :: y :: r) == 105) = false from nB d] at hst
      rw [iN (fun h => d h.2.1)]
      exact fail _ _ hst
    ·rw [iN (show ¬ it 1 (x :: y :: r) = _ from b)] at hst
     rw [iN (fun h => b h.2.2)]
     exact fail _ _ hst
   ·rw [iN a] at hst
    rw [iN (fun h => a h.1)]
    exact fail _ _ hst
 ·have hst : aJ p n (av.mk s c) rs.reverse = some (0, 0, false) := by
   unfold aJ; rw [iN h1, iN h2, iN h3, iN h4, iN h5, show (p.op == 6) = false by simp [h6]]
   unfold bG
   rw [iN (by decide), iN h7, iN h8]
  unfold ew; rw [iN h1, iN h2, iN h3, iN h4, iN h5, iN h6, iN h7, iN h8]
  exact fail _ _ hst
end Pam
namespace Pam
open Go
theorem yl (x m : Int) (r : List Int) : ((x :: r).reverse).set r.length m = (m :: r).reverse := by simp
theorem wl1 (x : Int) (r : List Int) (h : r.length ≤ 1000) : IntKind.wrap .i64 (((x :: r).reverse.length : Int) - 1) = (r.length : Int) := by
 rw [fL, List.length_cons, wr (by omega) (by omega)]; omega
theorem wl2 (x y : Int) (r : List Int) (h : r.length ≤ 1000) : IntKind.wrap .i64 (((x :: y :: r).reverse.length : Int) - 2) = (r.length : Int) ∧ IntKind.wrap .i64 (((x :: y :: r).reverse.length : Int) - 1) = ((r.length + 1 : Nat) : Int) := by
 rw [fL, List.length_cons, List.length_cons, wr (by omega) (by omega), wr (by omega) (by omega)]; omega
theorem wl3 (x y z : Int) (r : List Int) (h : r.length ≤ 1000) : IntKind.wrap .i64 (((x :: y :: z :: r).reverse.length : Int) - 3) = (r.length : Int) ∧ IntKind.wrap .i64 (((x :: y :: z :: r).reverse.length : Int) - 2) = ((r.length + 1 : Nat) : Int) ∧
  IntKind.wrap .i64 (((x :: y :: z :: r).reverse.length : Int) - 1) = ((r.length + 2 : Nat) : Int) := by
 rw [fL, List.length_cons, List.length_cons, List.length_cons, wr (by omega) (by omega), wr (by omega) (by omega), wr (by omega) (by omega)]; omega
theorem ja (l : List Int) (x : Int) : l.reverse ++ (lit ([x] : List Int)) = (x :: l).reverse := by simp [lit]
theorem vc (n : Int) : ns n = some (decide (n ≥ -1000000 ∧ n ≤ 1000000)) := by
 unfold ns
 by_cases a : n ≥ -1000000
 ·rw [iP a]; simp [a]
 ·rw [iN a]; simp [a]
theorem xi {s : ab} {e : List ax} {n : Int} {rs : List Int} {i : Nat} (hv : gj s) (hu : oM s (e.getD i default)) (hn : 1 ≤ n ∧ n ≤ 300) (hl : rs.length ≤ 900) (hi : i < e.length) (hi' : i < 100000) :
  gh s e n rs.reverse (i : Int) = some (zi (0 : Int) i (ew s n (e.getD i default) rs)) := by
 unfold gh
 rw [iP (ltI hi), iP (inI hi)]
 simp only [tN]
 rw [wrs i (by omega)]
 obtain ⟨p, hp⟩ : ∃ p, e.getD i default = p := ⟨_, rfl⟩
 simp only [hp]
 rw [hp] at hu
 have hroom : ij (rs.reverse.length + 1) 1 := pT _ (by simp; omega)
 have hvar : p.op = 2 ∨ p.op = 3 ∨ p.op = 8 → (0 ≤ p.v ∧ p.v < (s.vars.length : Int)) ∧ (0 ≤ (s.vars.getD p.v.toNat default).n ∧ (s.vars.getD p.v.toNat default).n ≤ 300) := fun ho => by
  have h := hu ho
  have hm : s.vars.getD p.v.toNat default ∈ s.vars := br (by unfold inV at h; omega)
  exact ⟨h, hv.n _ hm⟩
 by_cases h1 : p.op = 1
 ·unfold ew; rw [iP h1, iP h1]
  by_cases k0 : p.k = 0
  ·rw [iP k0, iP k0, iP hroom, ja]; rfl
  ·rw [iN k0, iN k0]
   by_cases k1 : p.k = 1
   ·rw [iP k1]
    by_cases n0 : p.n = 0
    ·rw [iP n0, iP hroom, ja, iP ⟨k1, .inl n0⟩]; rfl
    ·rw [iN n0]
     by_cases n1 : p.n = 1
     ·rw [iP n1, iP hroom, ja, iP ⟨k1, .inr n1⟩]; rfl
     ·rw [iN n1, iN (by omega)]; rfl
   ·rw [iN k1, iN (fun h => k1 h.1)]; rfl
 rw [iN h1]
 by_cases h2 : p.op = 2
 ·obtain ⟨q1, q2⟩ := hvar (.inl h2)
  unfold ew; rw [iP h2, iN h1, iP h2, iP q1]
  by_cases n0 : (s.vars.getD p.v.toNat default).n = 0
  ·rw [iN (fun h => h n0), iP hroom, ja, iP n0]; rfl
  ·rw [iP n0, iN n0]; rfl
 rw [iN h2]
 by_cases h3 : p.op = 3
 ·obtain ⟨q1, q2⟩ := hvar (.inr (.inl h3))
  unfold ew; rw [iP h3, iN h1, iN h2, iP h3, iP q1]
  by_cases n0 : (s.vars.getD p.v.toNat default).n = 0
  ·rw [iP n0, iN (by omega)]; rfl
  ·rw [iN n0]
   by_cases a : p.n < 0
   ·rw [iP a, iN (by omega)]; rfl
   ·rw [iN a]
    by_cases b : (s.vars.getD p.v.toNat default).n < n
    ·rw [iP b, iN (by omega)]; rfl
    ·rw [iN b, wr (by omega) (by omega)]
     by_cases d : p.n > (s.vars.getD p.v.toNat default).n - n
     ·rw [iP d, iN (by omega)]; rfl
     ·rw [iN d, iP hroom, ja, iP (by omega)]; rfl
 rw [iN h3]
 by_cases h4 : p.op = 4
 ·unfold ew; rw [iP h4, iN h1, iN h2, iN h3, iP h4, vc]
  simp only [bSq]
  by_cases a : p.n ≥ -1000000 ∧ p.n ≤ 1000000
  ·rw [iP (dT a), iP hroom, ja, iP a]; rfl
  ·rw [iN (by simpa using a), iN a]; rfl
 rw [iN h4]
 by_cases h5 : p.op = 5
 ·unfold ew; rw [iP h5, iN h1, iN h2, iN h3, iN h4, iP h5, cX]
  simp only [bSq]
  match rs, hl with
  | [], _ =>
   split
   ·rfl
   ·rw [iP (by simp)]; rfl
  | x :: r, hl =>
   simp only [List.length_cons] at hl
   simp only
   by_cases a : (opT p.k).2.2 = 1
   ·rw [iN (fun h => h a), iN (by rw [fL]; simp; omega), wl1 _ _ (by omega), iP ⟨by omega, by rw [fL]; simp; omega⟩]
    simp only [tN]
    simp only [(rv1 x r).1]
    by_cases b : x = (opT p.k).1
    ·rw [iN (fun h => h b), yl, iP ⟨a, b⟩]; rfl
    ·rw [iP b, iN (fun h => b h.2)]; rfl
   ·rw [iP a, iN (fun h => a h.1)]; rfl
 rw [iN h5]
 by_cases h6 : p.op = 6
 ·unfold ew; rw [iP h6, iN h1, iN h2, iN h3, iN h4, iN h5, iP h6, cX]
  simp only [bSq]
  match rs, hl with
  | [], _ =>
   split
   ·rfl
   ·rw [iP (by simp)]; rfl
  | [x], _ =>
   split
   ·rfl
   ·rw [iP (by simp)]; rfl
  | x :: y :: r, hl =>
   simp only [List.length_cons] at hl
   simp only
   obtain ⟨w2, w1⟩ := wl2 x y r (by omega)
   obtain ⟨g1, g2, g3⟩ := rv2 x y r
   by_cases a : (opT p.k).2.2 = 2
   ·rw [iN (fun h => h a), iN (by rw [fL]; simp; omega), w1, iP ⟨by omega, by rw [fL]; simp; omega⟩]
    simp only [tN]
    simp only [g2]
    by_cases b : x = (opT p.k).1
    ·rw [iN (fun h => h b), w2, iP ⟨by omega, by rw [fL]; simp; omega⟩]
     simp only [tN]
     simp only [g1]
     by_cases d : y = (opT p.k).1
     ·rw [iN (fun h => h d), iP ⟨⟨by omega, by rw [fL]; simp; omega⟩, pT _ (by omega)⟩, g3, ja, iP ⟨a, b, d⟩]; rfl
     ·rw [iP d, iN (fun h => d h.2.2)]; rfl
    ·rw [iP b, iN (fun h => b h.2.1)]; rfl
   ·rw [iP a, iN (fun h => a h.1)]; rfl
 rw [iN h6]
 by_cases h7 : p.op = 7
 ·unfold ew; rw [iP h7, iN h1, iN h2, iN h3, iN h4, iN h5, iN h6, iP h7]
  match rs, hl with
  | [], _ => rw [iP (by simp)]; rfl
  | [x], _ => rw [iP (by simp)]; rfl
  | [x, y], _ => rw [iP (by simp)]; rfl
  | x :: y :: z :: r, hl =>
   simp only [List.length_cons] at hl
   simp only
   obtain ⟨w3, w2, w1⟩ := wl3 x y z r (by omega)
   obtain ⟨g1, g2, g3, g4⟩ := rv3 x y z r
   rw [iN (by rw [fL]; simp; omega), w3, iP ⟨by omega, by rw [fL]; simp; omega⟩]
   simp only [tN]
   simp only [g1]
   by_cases b : z = 98
   ·rw [iN (fun h => h b), w2, w1, iP ⟨⟨by omega, by rw [fL]; simp; omega⟩, by omega, by rw [fL]; simp; omega⟩]
    simp only [tN]
    simp only [g2, g3]
    by_cases d : y = x
    ·rw [iN (fun h => h d), iP ⟨⟨by omega, by rw [fL]; simp; omega⟩, pT _ (by omega)⟩, g4, ja, iP ⟨b, d⟩]; rfl
    ·rw [iP d, iN (fun h => d h.2)]; rfl
   ·rw [iP b, iN (fun h => b h.1)]; rfl
 rw [iN h7]
 by_cases h8 : p.op = 8
 ·obtain ⟨q1, q2⟩ := hvar (.inr (.inr h8))
  unfold ew; rw [iP h8, iN h1, iN h2, iN h3, iN h4, iN h5, iN h6, iN h7, iP h8, iP q1]
  match rs, hl with
  | [], _ =>
   split
   ·rfl
   ·rw [iP (by simp)]; rfl
  | [x], _ =>
   split
   ·rfl
   ·rw [iP (by simp)]; rfl
  | x :: y :: r, hl =>
   simp only [List.length_cons] at hl
   simp only
   obtain ⟨w2, w1⟩ := wl2 x y r (by omega)
   obtain ⟨g1, g2, g3⟩ := rv2 x y r
   by_cases a : (s.vars.getD p.v.toNat default).n = 0
   ·rw [iP a, iN (by omega)]; rfl
   ·rw [iN a, iN (by rw [fL]; simp; omega), w2, iP ⟨by omega, by rw [fL]; simp; omega⟩]
    simp only [tN]
    simp only [g1]
    by_cases b : y = 105
    ·rw [iN (fun h => h b), w1, iP ⟨by omega, by rw [fL]; simp; omega⟩]
     simp only [tN]
     simp only [g2]
     by_cases d : x = (s.vars.getD p.v.toNat default).elem
     ·rw [iN (fun h => h d), iP ⟨⟨by omega, by rw [fL]; simp; omega⟩, pT _ (by omega)⟩, g3, ja, iP ⟨by omega, b, d⟩]; rfl
     ·rw [iP d, iN (fun h => d h.2.2)]; rfl
    ·rw [iP b, iN (fun h => b h.2.1)]; rfl
 ·rw [iN h8]
  unfold ew; rw [iN h1, iN h2, iN h3, iN h4, iN h5, iN h6, iN h7, iN h8]; rfl
def sD (s : ab) (n : Int) : List ax → List Int → Option (List Int)
 | [], rs => some rs
 | p :: e, rs => match ew s n p rs with | some rs' => sD s n e rs' | none => none
def pU (s : ab) (n : Int) (e : List ax) : Int := match sD s n e [] with | some [x] => x | _ => 0
theorem pV {Z : Type} (s : ab) (n : Int) (z : Z) : ∀ (e : List ax) (i : Nat) (rs : List Int), j9 (fun _ a p => match ew s n p a with | some a' => .inl a' | none => .inr z) i e rs = match sD s n e rs with | some a => .inl a | none => .inr z
 | [], i, rs => rfl
 | p :: e, i, rs => by
  rw [j9, sD]
  cases ew s n p rs with
  | none => rfl
  | some a => exact pV s n z e (i + 1) a
theorem vd {s : ab} {c : Int} {e : List ax} {n : Int} (hv : gj s) (hu : ∀ p ∈ e, oM s p) (hn : 1 ≤ n ∧ n ≤ 300) (he : e.length ≤ 800) :
  (∃ q : Int × Bool, hQ e n (av.mk s c) = some q ∧ (q.2 = true → q.1 = pU s n e ∧ okE q.1) ∧ (q.2 = false → pU s n e = 0)) ∧ ka s e n = some (pU s n e) := by
 have I : ∀ (i : Nat) (a : List Int), i < e.length → (okS a ∧ a.length ≤ i) → ∀ a', ew s n (e.getD i default) a = some a' → okS a' ∧ a'.length ≤ i + 1 := by
  intro i a hi ha a' h
  obtain ⟨k1, k2⟩ := vZ hv (hu _ (br hi)) ha.1 h
  exact ⟨k1, by omega⟩
 obtain ⟨h1, h2⟩ := lG (A := List Int) (T := ax) (O := List Int) (Z := Int × Bool) (S := List Int × Int) (fun a i => (a.reverse, i)) (body := fun x => a8 e n (av.mk s c) x.1 x.2) e
  (fun _ a p => match ew s n p a with | some a' => .inl a' | none => .inr (0, false)) (fun i a => okS a ∧ a.length ≤ i) (fun a => a.reverse) [] ⟨fun x hx => by simp at hx, by simp⟩
  (by
   intro i a hi ha
   refine ⟨?_, ?_⟩
   ·show a8 e n (av.mk s c) a.reverse (i : Int) = _
    rw [xh hv (hu _ (br hi)) ha.1 hn (by omega) hi (by omega)]
    cases ew s n (e.getD i default) a <;> rfl
   ·intro a' h
    cases hx : ew s n (e.getD i default) a with
    | none => rw [hx] at h; cases h
    | some b =>
     rw [hx] at h
     simp only [Sum.inl.injEq] at h
     subst h
     exact I i a hi ha b hx)
  (by
   intro a _
   show a8 e n (av.mk s c) a.reverse (e.length : Int) = _
   unfold a8
   rw [iN (bi _)])
 obtain ⟨h3, h4⟩ := lG (A := List Int) (T := ax) (O := List Int) (Z := Int) (S := List Int × Int) (fun a i => (a.reverse, i)) (body := fun x => gh s e n x.1 x.2) e
  (fun _ a p => match ew s n p a with | some a' => .inl a' | none => .inr 0) (fun i a => okS a ∧ a.length ≤ i) (fun a => a.reverse) [] ⟨fun x hx => by simp at hx, by simp⟩
  (by
   intro i a hi ha
   refine ⟨?_, ?_⟩
   ·show gh s e n a.reverse (i : Int) = _
    rw [xi hv (hu _ (br hi)) hn (by omega) hi (by omega)]
    cases ew s n (e.getD i default) a <;> rfl
   ·intro a' h
    cases hx : ew s n (e.getD i default) a with
    | none => rw [hx] at h; cases h
    | some b =>
     rw [hx] at h
     simp only [Sum.inl.injEq] at h
     subst h
     exact I i a hi ha b hx)
  (by
   intro a _
   show gh s e n a.reverse (e.length : Int) = _
   unfold gh
   rw [iN (bi _)])
 rw [pV] at h1 h2 h3
 have e1 : hQ e n (av.mk s c) = (aU (fun x : List Int × Int => a8 e n (av.mk s c) x.1 x.2) (([] : List Int).reverse, 0)).bind (Sum.elim (fun z => ci z) (fun z => some z)) := rfl
 have e2 : ka s e n = (aU (fun x : List Int × Int => gh s e n x.1 x.2) (([] : List Int).reverse, 0)).bind (Sum.elim (fun z => jy z) (fun z => some z)) := rfl
 rw [e1, e2, h1, h3]
 simp only [bSq]
 unfold pU
 cases ht : sD s n e [] with
 | none => exact ⟨⟨(0, false), rfl, fun h => (by cases h), fun _ => rfl⟩, rfl⟩
 | some a =>
  have ha := (h2 a (by rw [ht])).1
  simp only [Sum.elim_inl]
  match a, ha with
  | [], _ =>
   refine ⟨⟨(0, false), ?_, fun h => (by cases h), fun _ => rfl⟩, ?_⟩
   ·unfold ci; rw [iP (by simp)]
   ·unfold jy; rw [iP (by simp)]
  | [x], ha =>
   refine ⟨⟨(x, true), ?_, fun _ => ⟨rfl, ha x (by simp)⟩, fun h => by cases h⟩, ?_⟩
   ·unfold ci; rw [iN (by simp), iP (by simp)]; rfl
   ·unfold jy; rw [iN (by simp), iP (by simp)]; rfl
  | x :: y :: r, _ =>
   refine ⟨⟨(0, false), ?_, fun h => (by cases h), fun _ => rfl⟩, ?_⟩
   ·unfold ci; rw [iP (by simp; omega)]
   ·unfold jy; rw [iP (by simp; omega)]
end Pam
namespace Pam
open Go
def vOf (s : ab) (x : Int) : ap := s.vars.getD x.toNat default
theorem gS (s : ab) (x : Int) : s.vars.getD x.toNat default = vOf s x := by rw [vOf]
def mu (a b : ap) : Bool := a.elem == b.elem && a.n == b.n
def m3 (s : ab) (l : List Int) (i : Nat) : Option Bool := if mu (vOf s (l.getD i default)) (vOf s (l.getD 0 default)) then none else some false
theorem qS (s : ab) (l : List Int) : (match d2 l.length (m3 s l) () with | .inr z => z | .inl _ => true) = l.all (fun x => mu (vOf s x) (vOf s (l.getD 0 default))) := by
 rcases b9 l.length (m3 s l) () with ⟨e, h⟩ | ⟨j, z, hj, hf, e⟩
 ·rw [e]
  symm
  show _ = true
  rw [List.all_eq_true]
  intro x hx
  obtain ⟨i, hi, rfl⟩ := List.mem_iff_getElem.1 hx
  have := h i hi
  unfold m3 at this
  have e2 : l.getD i default = l[i] := by simp [List.getD, hi]
  rw [e2] at this
  split at this
  ·assumption
  ·cases this
 ·rw [e]
  unfold m3 at hf
  split at hf
  ·cases hf
  ·rename_i hb
   simp only [sJ] at hf
   subst hf
   symm
   show _ = false
   rw [List.all_eq_false]
   exact ⟨_, br hj, hb⟩
theorem mK (a b : ap) : mu a b = true ↔ a.elem = b.elem ∧ a.n = b.n := by unfold mu; simp
theorem xj {s : ab} {c : Int} {l : List Int} (hl : 0 < l.length) (hb : l.length ≤ 1000) (hin : ∀ x ∈ l, inV s x) :
  hM l (av.mk s c) = some (l.all (fun x => mu (vOf s x) (vOf s (l.getD 0 default)))) := by
 unfold hM
 rw [cW l.length (m3 s l) () (fun i hi => by
  unfold fh m3
  have g0 := hin _ (br (l := l) (i := 0) hl)
  have gi := hin _ (br hi)
  unfold inV at g0 gi
  rw [iP (ltI hi), iP (inI hi)]
  simp only [tN]
  rw [iP ⟨gi, by omega, g0⟩, wrs i (by omega)]
  simp only [gS]
  by_cases h : mu (vOf s (l.getD i default)) (vOf s (l.getD 0 default)) = true
  ·rw [iP ((mK _ _).1 h), iP h]
  ·rw [iN (fun h' => h ((mK _ _).2 h')), iN h]) (by unfold fh; rw [iN (bi _)])]
 rw [← qS]
 cases d2 l.length (m3 s l) () <;> rfl
theorem sE {s : ab} {c : Int} {l : List Int} (hl : 0 < l.length) (hb : l.length ≤ 1000) (hin : ∀ x ∈ l, inV s x) :
  ez (av.mk s c) l = some (l.all (fun x => mu (vOf s x) (vOf s (l.getD 0 default)))) := by
 unfold ez
 rw [cW l.length (m3 s l) () (fun i hi => by
  unfold eo m3
  have g0 := hin _ (br (l := l) (i := 0) hl)
  have gi := hin _ (br hi)
  unfold inV at g0 gi
  rw [iP (ltI hi), iP (inI hi)]
  simp only [tN]
  rw [iP ⟨gi, by omega, g0⟩, wrs i (by omega)]
  simp only [gS]
  by_cases h : mu (vOf s (l.getD i default)) (vOf s (l.getD 0 default)) = true
  ·rw [iP ((mK _ _).1 h), iP h]
  ·rw [iN (fun h' => h ((mK _ _).2 h')), iN h]) (by unfold eo; rw [iN (bi _)])]
 rw [← qS]
 cases d2 l.length (m3 s l) () <;> rfl
def rE (k : Int) : Bool := (opT k).2.2 == 2 && (opT k).1 == (opT k).2.1
theorem dx (k : Int) : hO k = some (rE k) := by
 unfold hO rE
 rw [gE]
 simp only [bSq]
 split
 ·rename_i h; rw [h]; rfl
 ·rename_i h; rw [nB h]; rfl
theorem dy (k : Int) : jQ k = some (rE k) := by
 unfold jQ rE
 rw [cX]
 simp only [bSq]
 split
 ·rename_i h; rw [h]; rfl
 ·rename_i h; rw [nB h]; rfl
def dB (n : Int) : Int := if n < 1 then 1 else n
theorem ex (n : Int) : d8 n = some (dB n) := by
 unfold d8 dB; split <;> rfl
theorem xk (n : Int) : (if 1 > n then 1 else n) = dB n := rfl
def jb (s : ab) (a : List Int) : List ap := [if 0 < a.length then vOf s (a.getD 0 default) else ⟨0, 0⟩, if 1 < a.length then vOf s (a.getD 1 default) else ⟨0, 0⟩, if 2 < a.length then vOf s (a.getD 2 default) else ⟨0, 0⟩]
theorem xl {s : ab} {r : ae} {i : Nat} {l : List ap} (hi : i < r.a.length) (h3 : r.a.length ≤ 3) (hl : l.length = 3) (hin : ∀ x ∈ r.a, inV s x) :
  cq s r l (i : Int) = some (.inl (l.set i (vOf s (r.a.getD i default)), ((i + 1 : Nat) : Int))) := by
 unfold cq
 have gi := hin _ (br hi)
 unfold inV at gi
 rw [iP (ltI hi)]
 simp only [tN]
 rw [iP ⟨inI hi, gi, by omega, by omega⟩, wrs i (by omega)]
 rfl
theorem v7 {s : ab} {r : ae} (h3 : r.a.length ≤ 3) (hin : ∀ x ∈ r.a, inV s x) :
  aU (fun x : List ap × Int => cq s r x.1 x.2) (List.replicate 3 (ap.mk 0 0), 0) = some (jb s r.a) := by
 have fin : ∀ l, aU (fun x : List ap × Int => cq s r x.1 x.2) (l, (r.a.length : Int)) = some l := fun l => dH (by
  show cq s r l (r.a.length : Int) = _
  unfold cq
  rw [iN (bi _)])
 have nx : ∀ (i : Nat) (l : List ap), i < r.a.length → l.length = 3 → aU (fun x : List ap × Int => cq s r x.1 x.2) (l, (i : Int)) = aU (fun x : List ap × Int => cq s r x.1 x.2) (l.set i (vOf s (r.a.getD i default)), ((i + 1 : Nat) : Int)) :=
  fun i l hi hl => gM (xl hi h3 hl hin)
 have e : r.a.length = 0 ∨ r.a.length = 1 ∨ r.a.length = 2 ∨ r.a.length = 3 := by omega
 unfold jb
 rcases e with e | e | e | e
 ·have := fin (List.replicate 3 (ap.mk 0 0))
  rw [e] at this ⊢
  exact this
 ·have h0 := nx 0 (List.replicate 3 (ap.mk 0 0)) (by omega) rfl
  have := fin ((List.replicate 3 (ap.mk 0 0)).set 0 (vOf s (r.a.getD 0 default)))
  rw [e] at this ⊢
  exact h0.trans this
 ·have h0 := nx 0 (List.replicate 3 (ap.mk 0 0)) (by omega) rfl
  have h1 := nx 1 ((List.replicate 3 (ap.mk 0 0)).set 0 (vOf s (r.a.getD 0 default))) (by omega) rfl
  have := fin (((List.replicate 3 (ap.mk 0 0)).set 0 (vOf s (r.a.getD 0 default))).set 1 (vOf s (r.a.getD 1 default)))
  rw [e] at this ⊢
  exact h0.trans (h1.trans this)
 ·have h0 := nx 0 (List.replicate 3 (ap.mk 0 0)) (by omega) rfl
  have h1 := nx 1 ((List.replicate 3 (ap.mk 0 0)).set 0 (vOf s (r.a.getD 0 default))) (by omega) rfl
  have h2 := nx 2 (((List.replicate 3 (ap.mk 0 0)).set 0 (vOf s (r.a.getD 0 default))).set 1 (vOf s (r.a.getD 1 default))) (by omega) rfl
  have := fin ((((List.replicate 3 (ap.mk 0 0)).set 0 (vOf s (r.a.getD 0 default))).set 1 (vOf s (r.a.getD 1 default))).set 2 (vOf s (r.a.getD 2 default)))
  rw [e] at this ⊢
  exact h0.trans (h1.trans (h2.trans this))
theorem cY {s : ab} {r : ae} (ho : inV s r.out_) (h3 : r.a.length ≤ 3) (hin : ∀ x ∈ r.a, inV s x) : aD s r = aX s r (jb s r.a) := by
 unfold aD
 unfold inV at ho
 rw [iP ho]
 show (aU (fun x : List ap × Int => cq s r x.1 x.2) (List.replicate 3 (ap.mk 0 0), 0)).bind (fun z21 => aX s r z21) = _
 rw [v7 h3 hin]
 rfl
end Pam
namespace Pam
open Go
def nmd (p : ax) : Bool := p.op == 2 || p.op == 3 || p.op == 8
def jl (a : List Int) (e : List ax) : List Int := (e.foldl (fun l p => if nmd p then l ++ [p.v] else l) a).foldl ins []
theorem wrN (i : Nat) (h : i < 1000000000) : IntKind.wrap .i64 ((i : Int) + 1) = ((i + 1 : Nat) : Int) := wrs i (by omega)
theorem oO (n : Nat) (h : n ≤ 1000000) : ij n 8 := by
 unfold ij
 have : maxLen = 9223372036854775807 := rfl
 omega
theorem v8 (l : List Int) (h : l.length ≤ 1000000) : dZ l = some l := by
 unfold dZ
 by_cases e : l = []
 ·rw [iP e, e]
 ·rw [iN e, iP (oO _ h)]
theorem xm (l : List Int) (h : l.length ≤ 2000000) : (eg l).bind (fun y6 => (dp l.length y6).bind fun y7 => some y7) = some (l.foldl ins []) := by
 unfold eg dp
 rw [iP (by omega)]
 show (if l.length = (lQ l).length ∧ (lQ l).length ≤ 140737488355328 then some (Go.Lib.compact (lQ l)) else none).bind (fun y7 => some y7) = _
 rw [iP ⟨(jI l).symm, by rw [jI]; omega⟩, oU]
 rfl
theorem lH (r : ae) (ha : r.a.length ≤ 500000) (he : r.e.length ≤ 500000) : jZ r = some (jl r.a r.e) := by
 unfold jZ
 rw [v8 _ (by omega)]
 show (aU (fun (x : List Int × Int) => ff r x.1 x.2) (r.a, 0)).bind (fun z26 => iI z26) = _
 obtain ⟨h1, h2⟩ := lc (A := List Int) (T := ax) (O := List Int) (S := List Int × Int) (fun a i => (a, i)) (body := fun x => ff r x.1 x.2) r.e (fun l p => if nmd p then l ++ [p.v] else l)
  (fun i a => a.length ≤ r.a.length + i) (fun a => a) r.a (by omega)
  (by
   intro i a hi hI
   have step : ∀ b : Bool, b = nmd (r.e.getD i default) → gf r a (i : Int) b = some (.inl ((if nmd (r.e.getD i default) then a ++ [(r.e.getD i default).v] else a), ((i + 1 : Nat) : Int))) := by
    intro b hb
    subst hb
    unfold gf
    rw [wrN i (by omega)]
    cases nmd (r.e.getD i default)
    ·rfl
    ·rw [iP rfl, iP (oO _ (by omega))]; rfl
   refine ⟨?_, ?_⟩
   ·show ff r a (i : Int) = _
    unfold ff
    rw [iP (ltI hi), iP (inI hi)]
    simp only [tN]
    split
    ·rename_i h; exact step _ (by unfold nmd; rw [h]; rfl)
    ·rename_i h
     split
     ·rename_i h'; exact step _ (by unfold nmd; rw [h']; rfl)
     ·rename_i h'; exact step _ (by unfold nmd; rw [nB h, nB h']; rfl)
   ·split
    ·simp; omega
    ·omega)
  (by
   intro a hI
   show ff r a (r.e.length : Int) = _
   unfold ff
   rw [iN (bi _)])
 rw [h1]
 exact xm _ (by omega)
def lg (n : Int) (s : List Int × Bool) (x : Int) : List Int × Bool :=
 if s.2 then (s.1 ++ [x], true) else if x ≥ n then (if x > n then (s.1 ++ [n] ++ [x], true) else (s.1 ++ [x], true)) else (s.1 ++ [x], false)
theorem qT (n : Int) (l : List Int) : ∀ (a : List Int), l.foldl (lg n) (a, true) = (a ++ l, true) := by
 induction l with
 | nil => intro a; simp
 | cons x l ih => intro a; rw [List.foldl_cons]; show l.foldl (lg n) (a ++ [x], true) = _; rw [ih]; simp
theorem tF (n : Int) (l : List Int) : ∀ (a : List Int), (let s := l.foldl (lg n) (a, false); if s.2 then s.1 else s.1 ++ [n]) = a ++ ins l n := by
 induction l with
 | nil => intro a; simp [ins]
 | cons x l ih =>
  intro a
  rw [List.foldl_cons]
  by_cases h : x ≥ n
  ·by_cases h' : x > n
   ·have e : lg n (a, false) x = (a ++ [n] ++ [x], true) := by simp [lg, h, h']
    rw [e, qT]
    simp [ins, h, h']
   ·have e : lg n (a, false) x = (a ++ [x], true) := by simp [lg, h, h']
    rw [e, qT]
    simp [ins, h, h']
  ·have e : lg n (a, false) x = (a ++ [x], false) := by simp [lg, h]
   rw [e, ih]
   simp [ins, h]
theorem o8 (l : List Int) (n : Int) : (ins l n).length ≤ l.length + 1 := by
 induction l with
 | nil => simp [ins]
 | cons x l ih =>
  unfold ins
  split
  ·split <;> simp
  ·simp; omega
theorem n6 (l : List Int) (n : Int) (h : l.length ≤ 900000) : jj l n = some (ins l n) := by
 unfold jj
 obtain ⟨h1, h2⟩ := lc (A := List Int × Bool) (T := Int) (O := List Int × Bool) (S := List Int × Bool × Int) (fun a i => (a.1, a.2, i)) (body := fun x => dQ l n x.1 x.2.1 x.2.2) l (lg n)
  (fun i a => a.1.length ≤ i + (if a.2 then 1 else 0)) (fun a => a) ([], false) (by simp)
  (by
   intro i a hi hI
   obtain ⟨a, b⟩ := a
   simp only at hI
   have hlen : a.length ≤ i + 1 := by revert hI; cases b <;> simp <;> omega
   have j2 : ∀ (q : List Int) (c : Bool), q.length ≤ 999999 → dP l (i : Int) q c = some (.inl (q ++ [l.getD i default], c, ((i + 1 : Nat) : Int))) := by
    intro q c hq
    unfold dP
    rw [iP ⟨inI hi, oO _ (by omega)⟩, wrN i (by omega)]
    rfl
   refine ⟨?_, ?_⟩
   ·show dQ l n a b (i : Int) = _
    unfold dQ
    rw [iP (ltI hi)]
    cases b with
    | true =>
     rw [iP rfl, j2 _ _ (by omega)]
     rfl
    | false =>
     rw [iN (by decide), iP (inI hi)]
     simp only [tN]
     by_cases hge : l.getD i default ≥ n
     ·rw [iP hge]
      by_cases hgt : l.getD i default > n
      ·rw [iP hgt, iP (oO _ (by omega)), j2 _ _ (by simp [lit]; omega)]
       have e : lg n (a, false) (l.getD i default) = (a ++ [n] ++ [l.getD i default], true) := by unfold lg; rw [iN (by simp), iP hge, iP hgt]
       rw [e]; rfl
      ·rw [iN hgt, j2 _ _ (by omega)]
       have e : lg n (a, false) (l.getD i default) = (a ++ [l.getD i default], true) := by unfold lg; rw [iN (by simp), iP hge, iN hgt]
       rw [e]
     ·rw [iN hge, j2 _ _ (by omega)]
      have e : lg n (a, false) (l.getD i default) = (a ++ [l.getD i default], false) := by unfold lg; rw [iN (by simp), iN hge]
      rw [e]
   ·have gen : ∀ x : Int, (lg n (a, b) x).1.length ≤ i + 1 + (if (lg n (a, b) x).2 = true then 1 else 0) := by
     intro x
     unfold lg
     cases b with
     | true => simp at hI ⊢; omega
     | false =>
      simp at hI
      by_cases hge : x ≥ n
      ·by_cases hgt : x > n
       ·simp only [Bool.false_eq_true, if_false, iP hge, iP hgt]; simp; omega
       ·simp only [Bool.false_eq_true, if_false, iP hge, iN hgt]; simp; omega
      ·simp only [Bool.false_eq_true, if_false, iN hge]; simp; omega
    exact gen _)
  (by
   intro a hI
   show dQ l n a.1 a.2 (l.length : Int) = _
   unfold dQ
   rw [iN (bi _)])
 show (aU (fun (x : List Int × Bool × Int) => dQ l n x.1 x.2.1 x.2.2) ([], false, 0)).bind (fun z => fK n z.1 z.2) = _
 rw [h1]
 have h3 := tF n l []
 simp only [List.nil_append] at h3
 have hl := o8 l n
 rw [← h3] at hl ⊢
 simp only [bSq]
 unfold fK
 cases hs : (l.foldl (lg n) ([], false)).2 with
 | true => simp
 | false =>
  rw [hs] at h2
  simp only [Bool.false_eq_true, if_false, Nat.add_zero] at h2 ⊢
  rw [iP (oO _ (by omega))]
  rfl
theorem qu (l a : List Int) : (l.foldl ins a).length ≤ a.length + l.length := by
 induction l generalizing a with
 | nil => simp
 | cons x l ih => rw [List.foldl_cons]; have := ih (ins a x); have := o8 a x; simp; omega
theorem pX (r : ae) (ha : r.a.length ≤ 400000) (he : r.e.length ≤ 400000) : mh r = some (jl r.a r.e) := by
 unfold mh
 obtain ⟨h1, h2⟩ := lc (A := List Int) (T := Int) (O := List Int) (S := List Int × Int) (fun a i => (a, i)) (body := fun x => fq r x.1 x.2) r.a ins
  (fun i a => a.length ≤ i) (fun a => a) [] (by simp)
  (by
   intro i a hi hI
   refine ⟨?_, by have := o8 a (r.a.getD i default); omega⟩
   show fq r a (i : Int) = _
   unfold fq
   rw [iP (ltI hi), iP (inI hi)]
   simp only [tN]
   rw [n6 _ _ (by omega), wrN i (by omega)]
   rfl)
  (by
   intro a hI
   show fq r a (r.a.length : Int) = _
   unfold fq
   rw [iN (bi _)])
 show (aU (fun (x : List Int × Int) => fq r x.1 x.2) ([], 0)).bind (fun z => hY r z) = _
 rw [h1]
 simp only [bSq]
 unfold hY
 obtain ⟨h3, h4⟩ := lc (A := List Int) (T := ax) (O := List Int) (S := List Int × Int) (fun a i => (a, i)) (body := fun x => fp r x.1 x.2) r.e (fun l p => if nmd p then ins l p.v else l)
  (fun i a => a.length ≤ r.a.length + i) (fun a => a) (r.a.foldl ins []) (by simpa using h2)
  (by
   intro i a hi hI
   have hn : kV (r.e.getD i default) = some (nmd (r.e.getD i default)) := by
    unfold kV nmd
    split
    ·rename_i h; rw [h]; rfl
    ·rename_i h
     split
     ·rename_i h'; rw [h']; rfl
     ·rename_i h'; rw [nB h, nB h']; rfl
   refine ⟨?_, ?_⟩
   ·show fp r a (i : Int) = _
    unfold fp
    rw [iP (ltI hi), iP (inI hi)]
    simp only [tN]
    rw [hn, wrN i (by omega)]
    simp only [bSq]
    cases nmd (r.e.getD i default)
    ·rfl
    ·simp only [if_true]
     rw [n6 _ _ (by omega)]
     rfl
   ·split
    ·have := o8 a (r.e.getD i default).v; omega
    ·omega)
  (by
   intro a hI
   show fp r a (r.e.length : Int) = _
   unfold fp
   rw [iN (bi _)])
 show (aU (fun (x : List Int × Int) => fp r x.1 x.2) (r.a.foldl ins [], 0)).bind (fun z => iK z) = _
 rw [h3]
 have key : ∀ (e : List ax) (a b : List Int), e.foldl (fun l p => if nmd p then ins l p.v else l) (a.foldl ins b) = (e.foldl (fun l p => if nmd p then l ++ [p.v] else l) a).foldl ins b := by
  intro e
  induction e with
  | nil => intro a b; rfl
  | cons p e ih =>
   intro a b
   rw [List.foldl_cons, List.foldl_cons]
   cases nmd p
   ·simp only [Bool.false_eq_true, if_false]; exact ih a b
   ·simp only [if_true]
    rw [← ih, List.foldl_append]
    rfl
 rw [key]
 rfl
end Pam
namespace Pam
open Go
structure iQ (s : ab) (r : ae) : Prop where
 o : inV s r.out_
 a : ∀ x ∈ r.a, inV s x
 u : 14 ≤ r.op → ∀ p ∈ r.e, oM s p
 e : r.e.length ≤ 24
theorem bf {s : ab} (hv : gj s) {x : Int} (h : inV s x) : okE (vOf s x).elem ∧ 0 ≤ (vOf s x).n ∧ (vOf s x).n ≤ 300 := by
 have : s.vars.getD x.toNat default ∈ s.vars := br (by unfold inV at h; omega)
 exact ⟨hv.e _ this, hv.n _ this⟩
theorem cZ (e : Int) : gu e = some (ap.mk e 0) := by unfold gu; rfl
theorem ur {s : ab} {c x : Int} (h : inV s x) : hP x (av.mk s c) = some (ap.mk (vOf s x).elem 0, decide ((vOf s x).n > 0)) := by
 unfold hP
 unfold inV at h
 rw [iP h, cZ]
 rfl
theorem wrd {a b : Int} (ha : 0 ≤ a ∧ a ≤ 300) (hb : 0 ≤ b ∧ b ≤ 300) : IntKind.wrap .i64 (a - b) = a - b ∧ IntKind.wrap .i64 (a + b) = a + b := ⟨wr (by omega) (by omega), wr (by omega) (by omega)⟩
theorem n7 {s : ab} {c : Int} {r : ae} {o : ap} {n : Int} (hv : gj s) (hu : ∀ p ∈ r.e, oM s p) (he : r.e.length ≤ 24) (ho : okE o.elem) (hn : 1 ≤ n ∧ n ≤ 300) :
  dq r o (av.mk s c) n = some (pU s n r.e == o.elem) ∧ ka s r.e n = some (pU s n r.e) := by
 obtain ⟨⟨q, h1, h2, h3⟩, h4⟩ := vd (c := c) hv hu hn (by omega)
 refine ⟨?_, h4⟩
 unfold dq
 rw [h1]
 simp only [bSq]
 by_cases hq : q.2 = true
 ·rw [iP hq, (h2 hq).1]
 ·rw [iN hq, h3 (by simpa using hq)]
  congr 1
  symm
  rw [beq_eq_false_iff_ne]
  unfold okE at ho
  omega
theorem zG {s : ab} {c : Int} {k o n : Int} {e : List ax} (hv : gj s) (h : iQ s (ae.mk 1 k o n [] e)) :
  aB (ae.mk 1 k o n [] e) (av.mk s c) = aD s (ae.mk 1 k o n [] e) ∧ aD s (ae.mk 1 k o n [] e) ≠ none := by
 have ho : inV s o := h.o
 rw [cY h.o (by simp) h.a]
 have go := bf hv ho
 unfold inV at ho
 simp only [aB, aP, aO, aN, aX, ho, and_self, bSq, gE, cX, dx, dy, cZ, gS, List.length_cons, List.length_nil, List.getD_cons_zero, List.getD_cons_succ, jb, Nat.reduceAdd, Nat.reduceLT, if_true, if_false, reduceCtorEq]
 unfold okE at *
 refine ⟨?_, ?_⟩ <;> grind
theorem zH {s : ab} {c : Int} {k o n x : Int} {e : List ax} (hv : gj s) (h : iQ s (ae.mk 2 k o n [x] e)) :
  aB (ae.mk 2 k o n [x] e) (av.mk s c) = aD s (ae.mk 2 k o n [x] e) ∧ aD s (ae.mk 2 k o n [x] e) ≠ none := by
 have ho : inV s o := h.o
 have hx : inV s x := h.a x (by simp)
 rw [cY h.o (by simp) h.a]
 have go := bf hv ho
 have gx := bf hv hx
 unfold inV at ho hx
 simp only [aB, aP, aO, aN, aX, ho, hx, and_self, bSq, gE, cX, dx, dy, cZ, gS, List.length_cons, List.length_nil, List.getD_cons_zero, List.getD_cons_succ, jb, Nat.reduceAdd, Nat.reduceLT, if_true, if_false, reduceCtorEq]
 unfold okE at *
 refine ⟨?_, ?_⟩ <;> grind
theorem zI {s : ab} {c : Int} {k o n x : Int} {e : List ax} (hv : gj s) (h : iQ s (ae.mk 3 k o n [x] e)) :
  aB (ae.mk 3 k o n [x] e) (av.mk s c) = aD s (ae.mk 3 k o n [x] e) ∧ aD s (ae.mk 3 k o n [x] e) ≠ none := by
 have ho : inV s o := h.o
 have hx : inV s x := h.a x (by simp)
 rw [cY h.o (by simp) h.a]
 have go := bf hv ho
 have gx := bf hv hx
 unfold inV at ho hx
 simp only [aB, aP, aO, aN, aX, ho, hx, and_self, bSq, gE, cX, dx, dy, cZ, gS, List.length_cons, List.length_nil, List.getD_cons_zero, List.getD_cons_succ, jb, Nat.reduceAdd, Nat.reduceLT, if_true, if_false, reduceCtorEq]
 unfold okE at *
 refine ⟨?_, ?_⟩ <;> grind
theorem zJ {s : ab} {c : Int} {k o n x y : Int} {e : List ax} (hv : gj s) (h : iQ s (ae.mk 4 k o n [x, y] e)) :
  aB (ae.mk 4 k o n [x, y] e) (av.mk s c) = aD s (ae.mk 4 k o n [x, y] e) ∧ aD s (ae.mk 4 k o n [x, y] e) ≠ none := by
 have ho : inV s o := h.o
 have hx : inV s x := h.a x (by simp)
 have hy : inV s y := h.a y (by simp)
 rw [cY h.o (by simp) h.a]
 have go := bf hv ho
 have gx := bf hv hx
 have gy := bf hv hy
 have hs := xj (s := s) (c := c) (l := [x, y]) (by simp) (by simp) h.a
 simp only [List.getD_cons_zero, List.all_cons, List.all_nil, Bool.and_true] at hs
 unfold inV at ho hx hy
 simp only [aB, aP, aO, aN, aX, ho, hx, hy, and_self, bSq, gE, cX, dx, dy, cZ, gS, List.length_cons, List.length_nil, List.getD_cons_zero, List.getD_cons_succ, jb, Nat.reduceAdd, Nat.reduceLT, if_true, if_false, reduceCtorEq, hs]
 unfold mu
 unfold okE at *
 refine ⟨?_, ?_⟩ <;> grind
theorem zK {s : ab} {c : Int} {k o n x y z : Int} {e : List ax} (hv : gj s) (h : iQ s (ae.mk 5 k o n [x, y, z] e)) :
  aB (ae.mk 5 k o n [x, y, z] e) (av.mk s c) = aD s (ae.mk 5 k o n [x, y, z] e) ∧ aD s (ae.mk 5 k o n [x, y, z] e) ≠ none := by
 have ho : inV s o := h.o
 have hx : inV s x := h.a x (by simp)
 have hy : inV s y := h.a y (by simp)
 have hz : inV s z := h.a z (by simp)
 rw [cY h.o (by simp) h.a]
 have go := bf hv ho
 have gx := bf hv hx
 have gy := bf hv hy
 have gz := bf hv hz
 have hs := sE (s := s) (c := c) (l := [y, z, o]) (by simp) (by simp) (by intro w hw; simp at hw; rcases hw with rfl | rfl | rfl <;> assumption)
 simp only [List.getD_cons_zero, List.all_cons, List.all_nil, Bool.and_true] at hs
 unfold inV at ho hx hy hz
 simp only [aB, aP, aO, aN, aX, ho, hx, hy, hz, and_self, bSq, gE, cX, dx, dy, cZ, gS, List.length_cons, List.length_nil, List.getD_cons_zero, List.getD_cons_succ, jb, Nat.reduceAdd, Nat.reduceLT, if_true, if_false, reduceCtorEq, hs, lit]
 unfold mu
 unfold okE at *
 refine ⟨?_, ?_⟩ <;> grind
theorem zL {s : ab} {c : Int} {k o n x y : Int} {e : List ax} (hv : gj s) (h : iQ s (ae.mk 6 k o n [x, y] e)) :
  aB (ae.mk 6 k o n [x, y] e) (av.mk s c) = aD s (ae.mk 6 k o n [x, y] e) ∧ aD s (ae.mk 6 k o n [x, y] e) ≠ none := by
 have ho : inV s o := h.o
 have hx : inV s x := h.a x (by simp)
 have hy : inV s y := h.a y (by simp)
 rw [cY h.o (by simp) h.a]
 have go := bf hv ho
 have gx := bf hv hx
 have gy := bf hv hy
 unfold inV at ho hx hy
 simp only [aB, aP, aO, aN, aX, ho, hx, hy, and_self, bSq, gE, cX, dx, dy, cZ, gS, List.length_cons, List.length_nil, List.getD_cons_zero, List.getD_cons_succ, jb, Nat.reduceAdd, Nat.reduceLT, if_true, if_false, reduceCtorEq]
 unfold okE at *
 refine ⟨?_, ?_⟩ <;> grind
theorem zM {s : ab} {c : Int} {k o n x y : Int} {e : List ax} (hv : gj s) (h : iQ s (ae.mk 7 k o n [x, y] e)) :
  aB (ae.mk 7 k o n [x, y] e) (av.mk s c) = aD s (ae.mk 7 k o n [x, y] e) ∧ aD s (ae.mk 7 k o n [x, y] e) ≠ none := by
 have ho : inV s o := h.o
 have hx : inV s x := h.a x (by simp)
 have hy : inV s y := h.a y (by simp)
 rw [cY h.o (by simp) h.a]
 have go := bf hv ho
 have gx := bf hv hx
 have gy := bf hv hy
 unfold inV at ho hx hy
 simp only [aB, aP, aO, aN, aX, ho, hx, hy, and_self, bSq, gE, cX, dx, dy, cZ, gS, List.length_cons, List.length_nil, List.getD_cons_zero, List.getD_cons_succ, jb, Nat.reduceAdd, Nat.reduceLT, if_true, if_false, reduceCtorEq]
 unfold okE at *
 refine ⟨?_, ?_⟩ <;> grind
theorem zN {s : ab} {c : Int} {k o n x : Int} {e : List ax} (hv : gj s) (h : iQ s (ae.mk 8 k o n [x] e)) :
  aB (ae.mk 8 k o n [x] e) (av.mk s c) = aD s (ae.mk 8 k o n [x] e) ∧ aD s (ae.mk 8 k o n [x] e) ≠ none := by
 have ho : inV s o := h.o
 have hx : inV s x := h.a x (by simp)
 rw [cY h.o (by simp) h.a]
 have go := bf hv ho
 have gx := bf hv hx
 unfold inV at ho hx
 simp only [aB, aP, aO, aN, aX, ho, hx, and_self, bSq, gE, cX, dx, dy, cZ, gS, List.length_cons, List.length_nil, List.getD_cons_zero, List.getD_cons_succ, jb, Nat.reduceAdd, Nat.reduceLT, if_true, if_false, reduceCtorEq]
 unfold okE at *
 refine ⟨?_, ?_⟩ <;> grind
theorem zO {s : ab} {c : Int} {k o n x y z : Int} {e : List ax} (hv : gj s) (h : iQ s (ae.mk 9 k o n [x, y, z] e)) :
  aB (ae.mk 9 k o n [x, y, z] e) (av.mk s c) = aD s (ae.mk 9 k o n [x, y, z] e) ∧ aD s (ae.mk 9 k o n [x, y, z] e) ≠ none := by
 have ho : inV s o := h.o
 have hx : inV s x := h.a x (by simp)
 have hy : inV s y := h.a y (by simp)
 have hz : inV s z := h.a z (by simp)
 rw [cY h.o (by simp) h.a]
 have go := bf hv ho
 have gx := bf hv hx
 have gy := bf hv hy
 have gz := bf hv hz
 have he := ur (c := c) hx
 unfold inV at ho hx hy hz
 simp only [aB, aP, aO, aN, aX, ho, hx, hy, hz, and_self, bSq, gE, cX, dx, dy, cZ, gS, List.length_cons, List.length_nil, List.getD_cons_zero, List.getD_cons_succ, jb, Nat.reduceAdd, Nat.reduceLT, if_true, if_false, reduceCtorEq, he]
 unfold okE at *
 refine ⟨?_, ?_⟩ <;> grind
theorem zj {s : ab} {c : Int} {k o n x y z : Int} {e : List ax} (hv : gj s) (h : iQ s (ae.mk 10 k o n [x, y, z] e)) :
  aB (ae.mk 10 k o n [x, y, z] e) (av.mk s c) = aD s (ae.mk 10 k o n [x, y, z] e) ∧ aD s (ae.mk 10 k o n [x, y, z] e) ≠ none := by
 have ho : inV s o := h.o
 have hx : inV s x := h.a x (by simp)
 have hy : inV s y := h.a y (by simp)
 have hz : inV s z := h.a z (by simp)
 rw [cY h.o (by simp) h.a]
 have go := bf hv ho
 have gx := bf hv hx
 have gy := bf hv hy
 have gz := bf hv hz
 have he := ur (c := c) hx
 unfold inV at ho hx hy hz
 simp only [aB, aP, aO, aN, aX, ho, hx, hy, hz, and_self, bSq, gE, cX, dx, dy, cZ, gS, List.length_cons, List.length_nil, List.getD_cons_zero, List.getD_cons_succ, jb, Nat.reduceAdd, Nat.reduceLT, if_true, if_false, reduceCtorEq, he]
 unfold okE at *
 refine ⟨?_, ?_⟩ <;> grind
theorem zk {s : ab} {c : Int} {k o n x : Int} {e : List ax} (hv : gj s) (h : iQ s (ae.mk 11 k o n [x] e)) :
  aB (ae.mk 11 k o n [x] e) (av.mk s c) = aD s (ae.mk 11 k o n [x] e) ∧ aD s (ae.mk 11 k o n [x] e) ≠ none := by
 have ho : inV s o := h.o
 have hx : inV s x := h.a x (by simp)
 rw [cY h.o (by simp) h.a]
 have go := bf hv ho
 have gx := bf hv hx
 have hw := (wrd gx.2 go.2).1
 unfold inV at ho hx
 simp only [aB, aP, aO, aN, aX, ho, hx, and_self, bSq, gE, cX, dx, dy, cZ, gS, List.length_cons, List.length_nil, List.getD_cons_zero, List.getD_cons_succ, jb, Nat.reduceAdd, Nat.reduceLT, if_true, if_false, reduceCtorEq, hw]
 unfold okE at *
 by_cases hle : (vOf s o).n ≤ (vOf s x).n
 ·refine ⟨?_, ?_⟩ <;> grind
 ·by_cases hn0 : n ≥ 0
  ·have hd : decide (n ≤ (vOf s x).n - (vOf s o).n) = false := by simp; omega
   simp only [hd]
   refine ⟨?_, ?_⟩ <;> grind
  ·refine ⟨?_, ?_⟩ <;> grind
theorem zl {s : ab} {c : Int} {k o n x y : Int} {e : List ax} (hv : gj s) (h : iQ s (ae.mk 12 k o n [x, y] e)) :
  aB (ae.mk 12 k o n [x, y] e) (av.mk s c) = aD s (ae.mk 12 k o n [x, y] e) ∧ aD s (ae.mk 12 k o n [x, y] e) ≠ none := by
 have ho : inV s o := h.o
 have hx : inV s x := h.a x (by simp)
 have hy : inV s y := h.a y (by simp)
 rw [cY h.o (by simp) h.a]
 have go := bf hv ho
 have gx := bf hv hx
 have gy := bf hv hy
 have hw := (wrd gx.2 gy.2).2
 unfold inV at ho hx hy
 simp only [aB, aP, aO, aN, aX, ho, hx, hy, and_self, bSq, gE, cX, dx, dy, cZ, gS, List.length_cons, List.length_nil, List.getD_cons_zero, List.getD_cons_succ, jb, Nat.reduceAdd, Nat.reduceLT, if_true, if_false, reduceCtorEq, hw]
 unfold okE at *
 refine ⟨?_, ?_⟩ <;> grind
theorem zm {s : ab} {c : Int} {k o n x y : Int} {e : List ax} (hv : gj s) (h : iQ s (ae.mk 13 k o n [x, y] e)) :
  aB (ae.mk 13 k o n [x, y] e) (av.mk s c) = aD s (ae.mk 13 k o n [x, y] e) ∧ aD s (ae.mk 13 k o n [x, y] e) ≠ none := by
 have ho : inV s o := h.o
 have hx : inV s x := h.a x (by simp)
 have hy : inV s y := h.a y (by simp)
 rw [cY h.o (by simp) h.a]
 have go := bf hv ho
 have gx := bf hv hx
 have gy := bf hv hy
 have hs := sE (s := s) (c := c) (l := [x, y, o]) (by simp) (by simp) (by intro w hw; simp at hw; rcases hw with rfl | rfl | rfl <;> assumption)
 simp only [List.getD_cons_zero, List.all_cons, List.all_nil, Bool.and_true] at hs
 unfold inV at ho hx hy
 simp only [aB, aP, aO, aN, aX, ho, hx, hy, and_self, bSq, gE, cX, dx, dy, cZ, gS, List.length_cons, List.length_nil, List.getD_cons_zero, List.getD_cons_succ, jb, Nat.reduceAdd, Nat.reduceLT, if_true, if_false, reduceCtorEq, hs, lit]
 unfold mu
 unfold okE at *
 refine ⟨?_, ?_⟩ <;> grind
theorem zn {s : ab} {c : Int} {k o n : Int} {e : List ax} (hv : gj s) (h : iQ s (ae.mk 14 k o n [] e)) :
  aB (ae.mk 14 k o n [] e) (av.mk s c) = aD s (ae.mk 14 k o n [] e) ∧ aD s (ae.mk 14 k o n [] e) ≠ none := by
 have ho : inV s o := h.o
 rw [cY h.o (by simp) h.a]
 have go := bf hv ho
 have hc := n7 (c := c) (r := ae.mk 14 k o n [] e) (o := vOf s o) (n := dB (vOf s o).n) hv (h.u (by simp)) h.e go.1 (by unfold dB; split <;> omega)
 unfold inV at ho
 simp only [aB, aP, aO, aN, aX, ho, and_self, bSq, gE, cX, dx, dy, cZ, gS, List.length_cons, List.length_nil, List.getD_cons_zero, List.getD_cons_succ, jb, Nat.reduceAdd, Nat.reduceLT, if_true, if_false, reduceCtorEq, fU, cj, ex, xk]
 simp only [hc.1, hc.2]
 refine ⟨?_, ?_⟩ <;> grind
theorem zo {s : ab} {c : Int} {k o n x : Int} {e : List ax} (hv : gj s) (h : iQ s (ae.mk 15 k o n [x] e)) :
  aB (ae.mk 15 k o n [x] e) (av.mk s c) = aD s (ae.mk 15 k o n [x] e) ∧ aD s (ae.mk 15 k o n [x] e) ≠ none := by
 have ho : inV s o := h.o
 have hx : inV s x := h.a x (by simp)
 rw [cY h.o (by simp) h.a]
 have go := bf hv ho
 have gx := bf hv hx
 have hc := fun (hn : 1 ≤ n ∧ n ≤ 300) => n7 (c := c) (r := ae.mk 15 k o n [x] e) (o := vOf s o) (n := n) hv (h.u (by simp)) h.e go.1 hn
 unfold inV at ho hx
 simp only [aB, aP, aO, aN, aX, ho, hx, and_self, bSq, gE, cX, dx, dy, cZ, gS, List.length_cons, List.length_nil, List.getD_cons_zero, List.getD_cons_succ, jb, Nat.reduceAdd, Nat.reduceLT, if_true, if_false, reduceCtorEq, fU, cj, ex, xk]
 by_cases hn : 1 ≤ n ∧ n ≤ 300
 ·simp only [(hc hn).1, (hc hn).2, bSq]
  unfold okE at *
  refine ⟨?_, ?_⟩ <;> grind
 ·unfold okE at *
  refine ⟨?_, ?_⟩ <;> grind
theorem zp {s : ab} {c : Int} {k o n x : Int} {e : List ax} (hv : gj s) (h : iQ s (ae.mk 16 k o n [x] e)) :
  aB (ae.mk 16 k o n [x] e) (av.mk s c) = aD s (ae.mk 16 k o n [x] e) ∧ aD s (ae.mk 16 k o n [x] e) ≠ none := by
 have ho : inV s o := h.o
 have hx : inV s x := h.a x (by simp)
 rw [cY h.o (by simp) h.a]
 have go := bf hv ho
 have gx := bf hv hx
 have hc := fun (hn : 1 ≤ (vOf s o).n) => n7 (c := c) (r := ae.mk 16 k o n [x] e) (o := vOf s o) (n := (vOf s o).n) hv (h.u (by simp)) h.e go.1 ⟨hn, go.2.2⟩
 unfold inV at ho hx
 simp only [aB, aP, aO, aN, aX, ho, hx, and_self, bSq, gE, cX, dx, dy, cZ, gS, List.length_cons, List.length_nil, List.getD_cons_zero, List.getD_cons_succ, jb, Nat.reduceAdd, Nat.reduceLT, if_true, if_false, reduceCtorEq, fU, cj, ex, xk]
 by_cases hn : 1 ≤ (vOf s o).n
 ·have hcv : dB (vOf s o).n = (vOf s o).n := by unfold dB; rw [iN (by omega)]
  simp only [hcv, (hc hn).1, (hc hn).2, bSq]
  unfold okE at *
  refine ⟨?_, ?_⟩ <;> grind
 ·unfold okE at *
  refine ⟨?_, ?_⟩ <;> grind
end Pam
namespace Pam
open Go
theorem qv (l : List Int) : ∀ (a : List Int) (x : Int), x ∈ l.foldl ins a ↔ x ∈ a ∨ x ∈ l := by
 induction l with
 | nil => intro a x; simp
 | cons y l ih => intro a x; rw [List.foldl_cons, ih, rF]; simp; grind
theorem vf (e : List ax) : ∀ (a : List Int) (x : Int), x ∈ e.foldl (fun l p => if nmd p then l ++ [p.v] else l) a ↔ x ∈ a ∨ ∃ p ∈ e, nmd p = true ∧ p.v = x := by
 induction e with
 | nil => intro a x; simp
 | cons p e ih =>
  intro a x
  rw [List.foldl_cons, ih]
  by_cases h : nmd p = true
  ·rw [iP h]; simp; grind
  ·rw [iN h]; simp; grind
theorem lI (a : List Int) (e : List ax) (x : Int) : x ∈ jl a e ↔ x ∈ a ∨ ∃ p ∈ e, nmd p = true ∧ p.v = x := by
 unfold jl
 rw [qv, vf]
 simp
theorem xn (p : ax) : nmd p = true ↔ (p.op = 2 ∨ p.op = 3 ∨ p.op = 8) := by unfold nmd; simp; grind
def d4 (r : ae) : List Int := if r.op < 14 then jl r.a [] else jl r.a r.e
theorem my {r : ae} {x : Int} (h : x ∈ r.a) : x ∈ d4 r := by
 unfold d4
 split <;> (rw [lI]; exact .inl h)
theorem xo {s : ab} {r : ae} (h : ∀ x ∈ d4 r, inV s x) (ho : 14 ≤ r.op) : ∀ p ∈ r.e, oM s p := by
 intro p hp hn
 refine h _ ?_
 unfold d4
 rw [iN (by omega), lI]
 exact .inr ⟨p, hp, (xn p).2 hn, rfl⟩
def cx (op : Int) : Int := if 1 ≤ op ∧ op ≤ 16 then ([0,0,1,1,2,3,2,2,1,3,3,1,2,2,0,1,1] : List Int).getD op.toNat 0 else -1
noncomputable def kc (s : ab) (mk : List Int) (r : ae) : Int :=
 if ¬ inV s r.out_ then 16
 else if mk.contains r.out_ then 8
 else if cx r.op < 0 ∨ ¬ (r.a.length : Int) = cx r.op then 4
 else if (r.e.length : Int) > 24 then 7
 else if ∃ x ∈ d4 r, ¬ inV s x then 16
 else if aD s r = some true then 0 else 10
def bw (s : ab) (i : Nat) : List Int := s.in_ ++ (s.rules.take i).map (fun r => r.out_)
theorem lJ (s : ab) {i : Nat} (h : i < s.rules.length) : bw s (i + 1) = bw s i ++ [(s.rules.getD i default).out_] := by
 unfold bw
 rw [cN _ h, List.map_append, List.append_assoc]
 rfl
def co (s : ab) (l : List Int) : List Bool := (List.range s.vars.length).map (fun (v : Nat) => decide ((v : Int) ∈ l))
theorem f9 (s : ab) (l : List Int) : (co s l).length = s.vars.length := by unfold co; simp
theorem qV {s : ab} {l : List Int} {v : Int} (h : inV s v) : (co s l).getD v.toNat default = l.contains v := by
 unfold inV at h
 unfold co
 have : v.toNat < s.vars.length := by omega
 have e : ((v.toNat : Nat) : Int) = v := by omega
 simp [List.getD, this, e]
theorem mL {s : ab} {l : List Int} {v : Int} (h : inV s v) : (co s l).set v.toNat true = co s (l ++ [v]) := by
 unfold inV at h
 have e : ((v.toNat : Nat) : Int) = v := by omega
 apply List.ext_getElem
 ·simp [f9]
 ·intro i h1 h2
  have hi : i < s.vars.length := by simpa [f9] using h2
  rw [List.getElem_set]
  unfold co
  simp only [List.getElem_map, List.getElem_range, List.mem_append, List.mem_singleton]
  split
  ·rename_i h3
   subst h3
   rw [e]; simp
  ·rename_i h3
   have : ¬ (i : Int) = v := by omega
   simp [this]
noncomputable def kA (s : ab) (i : Nat) : Option au :=
 let c := kc s (bw s i) (s.rules.getD i default)
 if c = 0 then none else some (au.mk c (i : Int))
noncomputable def lh (s : ab) (i : Nat) : Option au :=
 if ∃ x ∈ d4 (s.rules.getD i default), ¬ x ∈ bw s s.rules.length then some (au.mk 9 (i : Int)) else none
def qw (s : ab) (i : Nat) : Option au :=
 if s.out_.getD i default ∈ bw s s.rules.length then none else some (au.mk 9 (-1))
noncomputable def jm (s : ab) : au :=
 if ¬ (mt s).code = 0 then mt s
 else match d2 s.rules.length (kA s) () with
  | .inr z => z
  | .inl _ => match d2 s.rules.length (lh s) () with
   | .inr z => z
   | .inl _ => match d2 s.out_.length (qw s) () with
    | .inr z => z
    | .inl _ => au.mk 0 0
end Pam
namespace Pam
open Go
theorem wa {s : ab} {c : Int} {r : ae} (hv : gj s) (h : iQ s r) (hp : ¬ cx r.op < 0) (hl : (r.a.length : Int) = cx r.op) :
  aB r (av.mk s c) = aD s r ∧ aD s r ≠ none := by
 obtain ⟨op, k, o, n, a, e⟩ := r
 simp only at hp hl
 have hop : 1 ≤ op ∧ op ≤ 16 := by
  by_cases hc : 1 ≤ op ∧ op ≤ 16
  ·exact hc
  ·unfold cx at hp; rw [iN hc] at hp; omega
 have hcs : op = 1 ∨ op = 2 ∨ op = 3 ∨ op = 4 ∨ op = 5 ∨ op = 6 ∨ op = 7 ∨ op = 8 ∨ op = 9 ∨ op = 10 ∨ op = 11 ∨ op = 12 ∨ op = 13 ∨ op = 14 ∨ op = 15 ∨ op = 16 := by omega
 rcases hcs with rfl | rfl | rfl | rfl | rfl | rfl | rfl | rfl | rfl | rfl | rfl | rfl | rfl | rfl | rfl | rfl
 ·have hl' : a.length = 0 := by simpa [cx] using hl
  match a, hl' with | [], _ => exact zG hv h
 ·have hl' : a.length = 1 := by simp [cx] at hl; omega
  match a, hl' with | [x], _ => exact zH hv h
 ·have hl' : a.length = 1 := by simp [cx] at hl; omega
  match a, hl' with | [x], _ => exact zI hv h
 ·have hl' : a.length = 2 := by simp [cx] at hl; omega
  match a, hl' with | [x, y], _ => exact zJ hv h
 ·have hl' : a.length = 3 := by simp [cx] at hl; omega
  match a, hl' with | [x, y, z], _ => exact zK hv h
 ·have hl' : a.length = 2 := by simp [cx] at hl; omega
  match a, hl' with | [x, y], _ => exact zL hv h
 ·have hl' : a.length = 2 := by simp [cx] at hl; omega
  match a, hl' with | [x, y], _ => exact zM hv h
 ·have hl' : a.length = 1 := by simp [cx] at hl; omega
  match a, hl' with | [x], _ => exact zN hv h
 ·have hl' : a.length = 3 := by simp [cx] at hl; omega
  match a, hl' with | [x, y, z], _ => exact zO hv h
 ·have hl' : a.length = 3 := by simp [cx] at hl; omega
  match a, hl' with | [x, y, z], _ => exact zj hv h
 ·have hl' : a.length = 1 := by simp [cx] at hl; omega
  match a, hl' with | [x], _ => exact zk hv h
 ·have hl' : a.length = 2 := by simp [cx] at hl; omega
  match a, hl' with | [x, y], _ => exact zl hv h
 ·have hl' : a.length = 2 := by simp [cx] at hl; omega
  match a, hl' with | [x, y], _ => exact zm hv h
 ·have hl' : a.length = 0 := by simpa [cx] using hl
  match a, hl' with | [], _ => exact zn hv h
 ·have hl' : a.length = 1 := by simp [cx] at hl; omega
  match a, hl' with | [x], _ => exact zo hv h
 ·have hl' : a.length = 1 := by simp [cx] at hl; omega
  match a, hl' with | [x], _ => exact zp hv h
theorem qW (op : Int) : cx op ≤ 3 := by
 unfold cx
 split
 ·rename_i h
  have hcs : op = 1 ∨ op = 2 ∨ op = 3 ∨ op = 4 ∨ op = 5 ∨ op = 6 ∨ op = 7 ∨ op = 8 ∨ op = 9 ∨ op = 10 ∨ op = 11 ∨ op = 12 ∨ op = 13 ∨ op = 14 ∨ op = 15 ∨ op = 16 := by omega
  rcases hcs with rfl | rfl | rfl | rfl | rfl | rfl | rfl | rfl | rfl | rfl | rfl | rfl | rfl | rfl | rfl | rfl <;> decide
 ·decide
theorem sH (op : Int) : jP op = some (cx op) := by
 unfold jP cx
 by_cases h : 1 ≤ op ∧ op ≤ 16
 ·rw [iN (by omega), iN (by omega), iP (by omega), iP h]; rfl
 ·rw [iN h]
  by_cases h1 : op < 1
  ·rw [iP h1]
  ·rw [iN h1, iP (by omega)]
theorem xp (b : Bool) (c k : Int) (s : ab) : bu b c (av.mk s k) = some (if b = true ∧ k = 0 then c else k) := by
 unfold bu
 cases b
 ·simp
 ·by_cases h : k = 0 <;> simp [h]
theorem pY (b : Bool) (c : Int) (s : ab) : bu b c (av.mk s 0) = some (if b = true then c else 0) := by
 unfold bu
 cases b <;> rfl
theorem pZ {b : Bool} {c k : Int} {s : ab} (h : k ≠ 0) : bu b c (av.mk s k) = some k := by
 unfold bu
 cases b
 ·rfl
 ·simp [h]
theorem tG {s : ab} {r : ae} {c x : Int} (h : x ≠ 0) : cD r (av.mk s c) x = some (x, x) := by
 unfold cD
 rw [pZ h]
 simp only [bSq]
 rw [iP h]
theorem wb {s : ab} {r : ae} {c x : Int} (h : x ≠ 0) : cE r (av.mk s c) x = some (x, x) := by
 unfold cE
 rw [sH]
 simp only [bSq, pZ h]
 rw [tG h]
 split <;> rfl
theorem tH (s : ab) (l : List Int) : ∀ a : Int, l.foldl (fun a x => if ¬ inV s x ∧ a = 0 then 16 else a) a = if (∃ x ∈ l, ¬ inV s x) ∧ a = 0 then 16 else a := by
 induction l with
 | nil => intro a; simp
 | cons y l ih =>
  intro a
  rw [List.foldl_cons, ih]
  by_cases ha : a = 0
  ·subst ha
   by_cases hy : inV s y
   ·simp [hy]
   ·simp [hy]
  ·simp [ha]
theorem tI {s : ab} {c : Int} {l : List Int} (hl : l.length ≤ 1000) :
  aU (fun (x : Int × Int) => bK (av.mk s c) l x.1 x.2) (0, 0) = some (if ∃ x ∈ l, ¬ inV s x then 16 else 0) := by
 obtain ⟨h1, _⟩ := lc (A := Int) (T := Int) (O := Int) (S := Int × Int) (fun a i => (a, i)) (body := fun x => bK (av.mk s c) l x.1 x.2) l (fun a x => if ¬ inV s x ∧ a = 0 then 16 else a)
  (fun _ _ => True) (fun a => a) 0 trivial
  (by
   intro i a hi _
   refine ⟨?_, trivial⟩
   show bK (av.mk s c) l a (i : Int) = _
   unfold bK
   rw [iP (ltI hi), iP (inI hi)]
   simp only [tN]
   rw [rD]
   simp only [bSq, xp]
   rw [wrs i (by omega)]
   have : ((!decide (0 ≤ l.getD i default ∧ l.getD i default < (s.vars.length : Int))) = true ∧ a = 0) ↔ (¬ inV s (l.getD i default) ∧ a = 0) := by unfold inV; simp; omega
   simp only [this])
  (by
   intro a _
   show bK (av.mk s c) l a (l.length : Int) = _
   unfold bK
   rw [iN (bi _)])
 rw [tH] at h1
 rw [h1]
 simp
theorem lK (a : List Int) (e : List ax) : (jl a e).length ≤ a.length + e.length := by
 have k : ∀ (e : List ax) (a : List Int), (e.foldl (fun l p => if nmd p then l ++ [p.v] else l) a).length ≤ a.length + e.length := by
  intro e
  induction e with
  | nil => intro a; simp
  | cons p e ih =>
   intro a
   rw [List.foldl_cons]
   have := ih (if nmd p then a ++ [p.v] else a)
   have h2 : (if nmd p then a ++ [p.v] else a).length ≤ a.length + 1 := by split <;> simp
   simp only [List.length_cons]
   omega
 unfold jl
 have := qu (e.foldl (fun l p => if nmd p then l ++ [p.v] else l) a) []
 have := k e a
 simp at *
 omega
theorem sK {s : ab} {r : ae} (h1 : inV s r.out_) (h2 : ¬ (r.e.length : Int) > 24) (h3 : ¬ ∃ x ∈ d4 r, ¬ inV s x) : iQ s r := by
 have h4 : ∀ x ∈ d4 r, inV s x := fun x hx => Classical.byContradiction (fun hc => h3 ⟨x, hx, hc⟩)
 exact ⟨h1, fun x hx => h4 x (my hx), fun ho => xo h4 ho, by omega⟩
theorem xq {s : ab} {c : Int} {r : ae} {l : List Int} (hv : gj s) : hU r (av.mk s c) (co s l) = some (kc s l r, kc s l r) := by
 unfold hU kc
 rw [rD]
 simp only [bSq, pY]
 by_cases h1 : inV s r.out_
 ·have h1' : 0 ≤ r.out_ ∧ r.out_ < (s.vars.length : Int) := h1
  simp only [h1', and_self, decide_true, Bool.not_true, Bool.false_eq_true, if_false, if_true, f9, qV h1, not_true_eq_false, h1]
  rw [pY]
  simp only [bSq]
  by_cases h2 : l.contains r.out_ = true
  ·rw [iP h2, iP h2, wb (by decide)]
  ·rw [iN h2, iN h2]
   unfold cE
   rw [sH]
   simp only [bSq, pY]
   by_cases h3 : cx r.op < 0
   ·rw [iP h3, iP trivial, iP (.inl h3), tG (by decide)]
   ·rw [iN h3]
    by_cases h4 : (r.a.length : Int) = cx r.op
    ·rw [iN (by simpa using h4), iN (fun hc => hc.elim h3 (fun h => h h4))]
     unfold cD
     rw [pY]
     simp only [bSq]
     by_cases h5 : (r.e.length : Int) > 24
     ·have e5 : decide ((r.e.length : Int) > 24) = true := by simpa using h5
      simp only [e5, if_true]
      rw [iP (by decide), iP h5]
     ·have e5 : decide ((r.e.length : Int) > 24) = false := by simpa using h5
      simp only [e5, Bool.false_eq_true, if_false, not_true_eq_false]
      rw [iN h5]
      have hle := qW r.op
      have hj : ∀ l' : List Int, (∀ x, x ∈ l' ↔ x ∈ d4 r) → l'.length ≤ 1000 → dr r (av.mk s c) 0 l' =
        some (if ∃ x ∈ d4 r, ¬ inV s x then 16 else if aD s r = some true then 0 else 10, if ∃ x ∈ d4 r, ¬ inV s x then 16 else if aD s r = some true then 0 else 10) := by
       intro l' hm hl
       unfold dr
       show (aU (fun (x : Int × Int) => bK (av.mk s c) l' x.1 x.2) (0, 0)).bind _ = _
       rw [tI hl]
       simp only [bSq, hm]
       unfold d7
       by_cases h6 : ∃ x ∈ d4 r, ¬ inV s x
       ·simp only [iP h6]
        rw [iN (by decide)]
       ·simp only [iN h6]
        rw [iP trivial]
        obtain ⟨f1, f2⟩ := wa (c := 0) hv (sK h1 h5 h6) h3 h4
        simp only [pY]
        rw [f1]
        cases hf : aD s r with
        | none => exact absurd hf f2
        | some b => cases b <;> simp
      by_cases h7 : r.op ≥ 14
      ·rw [iP h7, lH _ (by omega) (by omega)]
       simp only [bSq]
       have hu : d4 r = jl r.a r.e := by unfold d4; rw [iN (by omega)]
       have := lK r.a r.e
       exact hj _ (fun x => by rw [hu]) (by omega)
      ·rw [iN h7]
       have hu : d4 r = jl r.a [] := by unfold d4; rw [iP (by omega)]
       exact hj _ (fun x => by rw [hu, lI]; simp) (by omega)
    ·rw [iP (by simpa using h4), iP (.inr h4), tG (by decide)]
 ·have h1' : ¬ (0 ≤ r.out_ ∧ r.out_ < (s.vars.length : Int)) := h1
  simp only [h1', decide_false, Bool.not_false, if_true, h1, not_false_eq_true]
  rw [iN (by decide), pZ (by decide)]
  simp only [bSq]
  rw [wb (by decide)]
end Pam
namespace Pam
open Go
theorem wc {T Z : Type} (l : List Int) (p : Int → Prop) [DecidablePred p] (z : Z) (t : T) :
  d2 l.length (fun k => if p (l.getD k default) then none else some z) t = if ∃ x ∈ l, ¬ p x then .inr z else .inl t := by
 rcases b9 l.length (fun k => if p (l.getD k default) then none else some z) t with ⟨e, h⟩ | ⟨j, z', hj, hf, e⟩
 ·rw [e, iN]
  rintro ⟨x, hx, hp⟩
  obtain ⟨i, hi, rfl⟩ := List.mem_iff_getElem.1 hx
  have := h i hi
  have e2 : l.getD i default = l[i] := by simp [List.getD, hi]
  simp only [e2, iN hp] at this
  cases this
 ·rw [e, iP]
  ·split at hf
   ·cases hf
   ·simp only [sJ] at hf; rw [hf]
  ·split at hf
   ·cases hf
   ·rename_i hp; exact ⟨_, br hj, hp⟩
structure li (s : ab) : Prop where
 v : gj s
 nv : s.vars.length ≤ 400
 nr : s.rules.length ≤ 400
 ni : s.in_.length ≤ 400
 no : s.out_.length ≤ 400
 i : ∀ x ∈ s.in_, inV s x
 o : ∀ x ∈ s.out_, inV s x
theorem qX {s : ab} (h : (mt s).code = 0) : li s := by
 unfold mt at h
 split at h
 ·cases h
 ·rename_i hl
  rcases b9 s.vars.length (pS s) () with ⟨e1, h1⟩ | ⟨j, z, hj, hf, e⟩
  ·rw [e1] at h
   rcases b9 s.in_.length (inF s) () with ⟨e2, h2⟩ | ⟨j, z, hj, hf, e⟩
   ·simp only [e2] at h
    rcases b9 s.out_.length (qt s) () with ⟨e3, h3⟩ | ⟨j, z, hj, hf, e⟩
    ·refine ⟨⟨fun v hv => ?_, fun v hv => ?_⟩, by omega, by omega, by omega, by omega, fun x hx => ?_, fun x hx => ?_⟩
     ·obtain ⟨i, hi, rfl⟩ := List.mem_iff_getElem.1 hv
      have := h1 i hi
      have e2 : s.vars.getD i default = s.vars[i] := by simp [List.getD, hi]
      unfold pS va at this
      rw [e2] at this
      split at this
      ·cases this
      ·unfold okE; omega
     ·obtain ⟨i, hi, rfl⟩ := List.mem_iff_getElem.1 hv
      have := h1 i hi
      have e2 : s.vars.getD i default = s.vars[i] := by simp [List.getD, hi]
      unfold pS va at this
      rw [e2] at this
      split at this
      ·cases this
      ·split at this
       ·cases this
       ·omega
     ·obtain ⟨i, hi, rfl⟩ := List.mem_iff_getElem.1 hx
      have := h2 i hi
      have e2 : s.in_.getD i default = s.in_[i] := by simp [List.getD, hi]
      unfold inF at this
      rw [e2] at this
      by_cases hh : inV s s.in_[i]
      ·exact hh
      ·rw [iP hh] at this; cases this
     ·obtain ⟨i, hi, rfl⟩ := List.mem_iff_getElem.1 hx
      have := h3 i hi
      have e2 : s.out_.getD i default = s.out_[i] := by simp [List.getD, hi]
      unfold qt at this
      rw [e2] at this
      by_cases hh : inV s s.out_[i]
      ·exact hh
      ·rw [iP hh] at this; cases this
    ·simp only [e] at h
     unfold qt at hf
     split at hf
     ·simp only [sJ] at hf; subst hf; cases h
     ·cases hf
   ·simp only [e] at h
    unfold inF at hf
    split at hf
    ·simp only [sJ] at hf; subst hf; cases h
    ·split at hf
     ·simp only [sJ] at hf; subst hf; cases h
     ·cases hf
  ·simp only [e] at h
   unfold pS va at hf
   split at hf
   ·simp only [sJ] at hf; subst hf; cases h
   ·split at hf
    ·simp only [sJ] at hf; subst hf; cases h
    ·cases hf
theorem nt {s : ab} {l : List Int} {r : ae} (h : kc s l r = 0) : iQ s r ∧ (∀ x ∈ d4 r, inV s x) ∧ r.a.length ≤ 3 ∧ ¬ l.contains r.out_ = true ∧ ¬ cx r.op < 0 ∧ (r.a.length : Int) = cx r.op ∧ aD s r = some true := by
 unfold kc at h
 by_cases h1 : inV s r.out_
 ·rw [iN (by simpa using h1)] at h
  by_cases h2 : l.contains r.out_ = true
  ·rw [iP h2] at h; cases h
  ·rw [iN h2] at h
   by_cases h3 : cx r.op < 0 ∨ ¬ (r.a.length : Int) = cx r.op
   ·rw [iP h3] at h; cases h
   ·rw [iN h3] at h
    by_cases h5 : (r.e.length : Int) > 24
    ·rw [iP h5] at h; cases h
    ·rw [iN h5] at h
     by_cases h6 : ∃ x ∈ d4 r, ¬ inV s x
     ·rw [iP h6] at h; cases h
     ·rw [iN h6] at h
      have hle := qW r.op
      refine ⟨sK h1 h5 h6, fun x hx => Classical.byContradiction (fun hc => h6 ⟨x, hx, hc⟩), by omega, h2, fun hc => h3 (.inl hc), Classical.byContradiction (fun hc => h3 (.inr hc)), ?_⟩
      by_cases h7 : aD s r = some true
      ·exact h7
      ·rw [iN h7] at h; cases h
 ·rw [iP h1] at h; cases h
theorem jR {s : ab} {l : List Int} {v : Int} (h : inV s v) : (co s l).getD v.toNat default = true ↔ v ∈ l := by rw [qV h]; simp
theorem qY (s : ab) : List.replicate s.vars.length false = co s [] := by
 apply List.ext_getElem
 ·simp [f9]
 ·intro i h1 h2; simp [co]
theorem xr {s : ab} (g : li s) : aU (fun (x : List Bool × Int) => dN s x.1 x.2) (co s [], 0) = some (co s s.in_) := by
 have := d3 (S := List Bool × Int) (T := List Bool) (fun i => (co s (s.in_.take i), (i : Int))) (body := fun x => dN s x.1 x.2) s.in_.length (co s s.in_)
  (by
   intro i hi
   show dN s (co s (s.in_.take i)) (i : Int) = _
   have gi := g.i _ (br hi)
   have gi' := gi
   unfold inV at gi'
   unfold dN
   rw [iP (ltI hi), iP (inI hi)]
   simp only [tN]
   rw [f9, iP gi', mL gi, wrs i (by have := g.ni; omega), cN _ hi])
  (by
   show dN s (co s (s.in_.take s.in_.length)) (s.in_.length : Int) = _
   unfold dN
   rw [iN (bi _), List.take_length])
 exact this
theorem tJ {s : ab} (g : li s) : aU (fun (x : Int × List Bool × Int) => dM s x.1 x.2.1 x.2.2) (0, co s s.in_, 0) = some (d2 s.rules.length (kA s) (0, co s (bw s s.rules.length))) := by
 have e0 : bw s 0 = s.in_ := by simp [bw]
 have := o9 (S := Int × List Bool × Int) (T := Int × List Bool) (Z := au) (fun i => (0, co s (bw s i), (i : Int))) (body := fun x => dM s x.1 x.2.1 x.2.2) s.rules.length (kA s) (0, co s (bw s s.rules.length))
  (by
   intro i hi
   show dM s 0 (co s (bw s i)) (i : Int) = _
   unfold dM
   rw [iP (ltI hi), iP (inI hi)]
   simp only [tN]
   rw [xq g.v]
   simp only [bSq]
   unfold kA
   by_cases h : kc s (bw s i) (s.rules.getD i default) = 0
   ·obtain ⟨gr, _⟩ := nt h
    have go := gr.o
    have go' := go
    unfold inV at go'
    simp only [h, not_true_eq_false, if_false, if_true]
    rw [f9, iP go', mL go, wrs i (by have := g.nr; omega), lJ s hi]
   ·simp only [h, not_false_eq_true, if_true, if_false])
  (by
   show dM s 0 (co s (bw s s.rules.length)) (s.rules.length : Int) = _
   unfold dM
   rw [iN (bi _)])
 rw [e0] at this
 exact this
theorem vg {s : ab} (g : li s) (hr : ∀ i, i < s.rules.length → kA s i = none) :
  aU (fun x => io s (co s (bw s s.rules.length)) x) 0 = some (d2 s.rules.length (lh s) ()) := by
 refine cW s.rules.length (lh s) () (fun i hi => ?_) ?_
 ·have h0 := hr i hi
  unfold kA at h0
  have h0' : kc s (bw s i) (s.rules.getD i default) = 0 := by
   by_cases h : kc s (bw s i) (s.rules.getD i default) = 0
   ·exact h
   ·simp only [iN h] at h0; cases h0
  obtain ⟨gr, hu, ha, _⟩ := nt h0'
  have he := gr.e
  unfold io
  rw [iP (ltI hi), iP (inI hi)]
  simp only [tN]
  generalize hR : s.rules.getD i default = r at *
  have hj : ∀ l : List Int, (∀ x, x ∈ l ↔ x ∈ d4 r) → l.length ≤ 1000 → gv (co s (bw s s.rules.length)) (i : Int) l = some (match lh s i with | some z => .inr (.inr z) | none => .inl ((i + 1 : Nat) : Int)) := by
   intro l hm hl
   unfold gv
   rw [cW l.length (fun k => if l.getD k default ∈ bw s s.rules.length then none else some (au.mk 9 (i : Int))) () (fun k hk => by
    have gk := hu _ ((hm _).1 (br hk))
    have gk' := gk
    unfold inV at gk'
    unfold i4
    rw [iP (ltI hk), iP (inI hk)]
    simp only [tN]
    rw [f9, iP gk', wrs k (by omega)]
    by_cases hc : l.getD k default ∈ bw s s.rules.length
    ·rw [iP ((jR gk).2 hc), iP hc]
    ·rw [iN (fun h => hc ((jR gk).1 h)), iN hc]) (by unfold i4; rw [iN (bi _)])]
   rw [wc l (fun x => x ∈ bw s s.rules.length)]
   unfold lh
   rw [hR]
   simp only [hm]
   by_cases h9 : ∃ x ∈ d4 r, ¬ x ∈ bw s s.rules.length
   ·simp only [iP h9]; rfl
   ·simp only [iN h9, bSq, Sum.elim_inl]
    unfold im
    rw [wrs i (by have := g.nr; omega)]
  by_cases h7 : r.op ≥ 14
  ·rw [iP h7, lH _ (by omega) (by omega)]
   simp only [bSq]
   have hu' : d4 r = jl r.a r.e := by unfold d4; rw [iN (by omega)]
   have := lK r.a r.e
   rw [hj (jl r.a r.e) (fun x => by rw [hu']) (by omega)]
   cases lh s i <;> rfl
  ·rw [iN h7]
   have hu' : d4 r = jl r.a [] := by unfold d4; rw [iP (by omega)]
   rw [hj r.a (fun x => by rw [hu', lI]; simp) (by omega)]
   cases lh s i <;> rfl
 ·unfold io; rw [iN (bi _)]
theorem we {s : ab} (g : li s) : aU (fun x => ik s (co s (bw s s.rules.length)) x) 0 = some (d2 s.out_.length (qw s) ()) := by
 refine cW s.out_.length (qw s) () (fun i hi => ?_) ?_
 ·have gk := g.o _ (br hi)
  have gk' := gk
  unfold inV at gk'
  unfold ik qw
  rw [iP (ltI hi), iP (inI hi)]
  simp only [tN]
  rw [f9, iP gk', wrs i (by have := g.no; omega)]
  by_cases hc : s.out_.getD i default ∈ bw s s.rules.length
  ·rw [iP ((jR gk).2 hc), iP hc]
  ·rw [iN (fun h => hc ((jR gk).1 h)), iN hc]
 ·unfold ik; rw [iN (bi _)]
theorem sL (s : ab) : kR s = some (jm s) := by
 unfold kR jm
 rw [tC]
 simp only [bSq]
 by_cases h : (mt s).code = 0
 ·have g := qX h
  simp only [h, not_true_eq_false, if_false]
  rw [iP ⟨by omega, pT _ (by have := g.nv; omega)⟩]
  rw [qY]
  show (aU (fun (x : List Bool × Int) => dN s x.1 x.2) (co s [], 0)).bind (fun z46 => gA s z46) = _
  rw [xr g]
  simp only [bSq]
  unfold gA
  show (aU (fun (x : Int × List Bool × Int) => dM s x.1 x.2.1 x.2.2) (0, co s s.in_, 0)).bind (Sum.elim (fun z => gw s z.1 z.2) (fun z36 => some z36)) = _
  rw [tJ g]
  simp only [bSq]
  rcases b9 s.rules.length (kA s) ((0 : Int), co s (bw s s.rules.length)) with ⟨e, h1⟩ | ⟨j, z, hj, hf, e⟩
  ·rw [e, iO h1]
   simp only [Sum.elim_inl]
   unfold gw
   rw [vg g h1]
   simp only [bSq]
   cases d2 s.rules.length (lh s) () with
   | inr z => rfl
   | inl u =>
    simp only [Sum.elim_inl]
    unfold il
    rw [we g]
    simp only [bSq]
    cases d2 s.out_.length (qw s) () <;> rfl
  ·rw [e]
   rcases b9 s.rules.length (kA s) () with ⟨e', h1⟩ | ⟨j', z', hj', hf', e'⟩
   ·rw [h1 j hj] at hf; cases hf
   ·have : z = z' := by
     unfold d2 at e e'
     cases hq : (List.range s.rules.length).findSome? (kA s) with
     | none => rw [hq] at e; cases e
     | some q => rw [hq] at e e'; simp at e e'; rw [← e, ← e']
    rw [e', this]; rfl
 ·simp only [h, not_false_eq_true, if_true]
end Pam
namespace Pam
open Go
def qZ (s : ab) (i : Nat) : List Int := (s.rules.take i).map (fun r => r.out_)
theorem tK (s : ab) (i : Nat) : bw s i = s.in_ ++ qZ s i := rfl
theorem tL (r : ae) (ha : r.a.length ≤ 100000) (he : r.e.length ≤ 100000) : mi r = some (d4 r) := by
 unfold mi d4
 by_cases h : r.op < 14
 ·rw [iP h, iP h]
  unfold hZ
  rw [pX _ (by simp only; omega) (by simp)]
  rfl
 ·rw [iN h, iN h]
  unfold hZ
  rw [pX _ (by simp only; omega) (by simp only; omega)]
  rfl
theorem vh (r : ae) : (d4 r).length ≤ r.a.length + r.e.length := by
 unfold d4
 split
 ·have := lK r.a []; simp at this; omega
 ·exact lK _ _
end Pam
namespace Pam
open Go
structure eq (s : ab) : Prop where
 h : li s
 r : ∀ i, i < s.rules.length → kc s (bw s i) (s.rules.getD i default) = 0
 u : ∀ i, i < s.rules.length → ∀ x ∈ d4 (s.rules.getD i default), x ∈ bw s s.rules.length
 o : ∀ x ∈ s.out_, x ∈ bw s s.rules.length
theorem nu {s : ab} (h : (jm s).code = 0) : eq s ∧ jm s = au.mk 0 0 := by
 unfold jm at h ⊢
 by_cases h0 : (mt s).code = 0
 ·simp only [h0, not_true_eq_false, if_false] at h ⊢
  have g := qX h0
  rcases b9 s.rules.length (kA s) () with ⟨e1, h1⟩ | ⟨j, z, hj, hf, e⟩
  ·simp only [e1] at h ⊢
   rcases b9 s.rules.length (lh s) () with ⟨e2, h2⟩ | ⟨j, z, hj, hf, e⟩
   ·simp only [e2] at h ⊢
    rcases b9 s.out_.length (qw s) () with ⟨e3, h3⟩ | ⟨j, z, hj, hf, e⟩
    ·simp only [e3]
     refine ⟨⟨g, fun i hi => ?_, fun i hi x hx => ?_, fun x hx => ?_⟩, trivial⟩
     ·have := h1 i hi
      unfold kA at this
      by_cases hc : kc s (bw s i) (s.rules.getD i default) = 0
      ·exact hc
      ·simp only [iN hc] at this; cases this
     ·have := h2 i hi
      unfold lh at this
      refine Classical.byContradiction fun hc => ?_
      rw [iP ⟨x, hx, hc⟩] at this
      cases this
     ·obtain ⟨i, hi, rfl⟩ := List.mem_iff_getElem.1 hx
      have := h3 i hi
      unfold qw at this
      have e2 : s.out_.getD i default = s.out_[i] := by simp [List.getD, hi]
      rw [e2] at this
      refine Classical.byContradiction fun hc => ?_
      rw [iN hc] at this
      cases this
    ·simp only [e] at h
     unfold qw at hf
     split at hf
     ·cases hf
     ·simp only [sJ] at hf; subst hf; cases h
   ·simp only [e] at h
    unfold lh at hf
    split at hf
    ·simp only [sJ] at hf; subst hf; cases h
    ·cases hf
  ·simp only [e] at h
   unfold kA at hf
   by_cases hc : kc s (bw s j) (s.rules.getD j default) = 0
   ·simp only [iP hc] at hf; cases hf
   ·simp only [iN hc, sJ] at hf; subst hf; exact absurd h hc
 ·simp only [h0, not_false_eq_true, if_true] at h
def c8 (r : ae) : List Int := if r.op = 13 ∧ (r.a.length : Int) = 2 then [r.a.getD 0 default] else d4 r
theorem nw {r : ae} {x : Int} (h : x ∈ c8 r) : x ∈ d4 r := by
 unfold c8 at h
 split at h
 ·rename_i hc
  simp only [List.mem_singleton] at h
  subst h
  exact my (br (by omega))
 ·exact h
theorem ny (r : ae) : (c8 r).length ≤ r.a.length + r.e.length := by
 unfold c8
 split
 ·simp; omega
 ·exact vh r
theorem sM (r : ae) (ha : r.a.length ≤ 100000) (he : r.e.length ≤ 100000) : iJ r = some (c8 r) := by
 have j1 : eD r = some (d4 r) := by
  unfold eD d4
  by_cases h : r.op < 14
  ·rw [iP h, iP h]
   unfold eC
   rw [lH _ (by simp only; omega) (by simp)]
   rfl
  ·rw [iN h, iN h]
   unfold eC
   rw [lH _ (by simp only; omega) (by simp only; omega)]
   rfl
 unfold iJ c8
 by_cases h1 : r.op = 13
 ·rw [iP h1]
  by_cases h2 : (r.a.length : Int) = 2
  ·rw [iP h2, iP (by omega), iP ⟨h1, h2⟩]; rfl
  ·rw [iN h2, iN (fun h => h2 h.2), j1]
 ·rw [iN h1, iN (fun h => h1 h.1), j1]
theorem sN (r : ae) (ha : r.a.length ≤ 100000) (he : r.e.length ≤ 100000) : kW r = some (c8 r) := by
 have j1 : gC r = some (d4 r) := by
  unfold gC
  rw [tL r ha he]
  rfl
 unfold kW c8
 by_cases h1 : r.op = 13
 ·rw [iP h1]
  by_cases h2 : (r.a.length : Int) = 2
  ·rw [iP h2, iP (by omega), iP ⟨h1, h2⟩]; rfl
  ·rw [iN h2, iN (fun h => h2 h.2), j1]
 ·rw [iN h1, iN (fun h => h1 h.1), j1]
def sO (l : List Int) (r : ae) : Prop := ∀ x ∈ c8 r, x ∈ l
instance (l : List Int) (r : ae) : Decidable (sO l r) := inferInstanceAs (Decidable (∀ x ∈ c8 r, x ∈ l))
theorem wg {s : ab} {l : List Int} {r : ae} {a : List ap} {b c : List Int} {d : List ae} (hu : ∀ x ∈ c8 r, inV s x) (ha : r.a.length ≤ 1000) (he : r.e.length ≤ 1000) :
  eE r a b c d (co s l) = some (decide (sO l r)) := by
 unfold eE
 rw [sM r (by omega) (by omega)]
 simp only [bSq]
 unfold c7 dO
 have hn := ny r
 rw [cW (c8 r).length (fun k => if (c8 r).getD k default ∈ l then none else some (k : Int)) () (fun k hk => by
  have gk := hu _ (br hk)
  have gk' := gk
  unfold inV at gk'
  unfold cl fj
  rw [iP (ltI hk), iP (inI hk)]
  simp only [tN]
  rw [f9, iP gk', wrs k (by omega)]
  simp only [bSq]
  by_cases hc : (c8 r).getD k default ∈ l
  ·rw [(jR gk).2 hc, iP hc]; rfl
  ·have : (co s l).getD ((c8 r).getD k default).toNat default = false := by
    cases hh : (co s l).getD ((c8 r).getD k default).toNat default
    ·rfl
    ·exact absurd ((jR gk).1 hh) hc
   rw [this, iN hc]; rfl) (by unfold cl; rw [iN (bi _)])]
 rcases b9 (c8 r).length (fun k => if (c8 r).getD k default ∈ l then none else some (k : Int)) () with ⟨e, h⟩ | ⟨j, z, hj, hf, e⟩
 ·rw [e]
  have : sO l r := by
   intro x hx
   obtain ⟨i, hi, rfl⟩ := List.mem_iff_getElem.1 hx
   have := h i hi
   have e2 : (c8 r).getD i default = (c8 r)[i] := by simp [List.getD, hi]
   rw [e2] at this
   refine Classical.byContradiction fun hc => ?_
   rw [iN hc] at this; cases this
  simp only [this, decide_true]
  rfl
 ·rw [e]
  split at hf
  ·cases hf
  ·rename_i hc
   simp only [sJ] at hf
   have : ¬ sO l r := fun h => hc (h _ (br hj))
   simp only [this, decide_false, ← hf]
   simp only [bSq, Sum.elim_inr]
   simp
def jp (s : ab) : Prop := ∀ i, i < s.rules.length → sO (bw s i) (s.rules.getD i default)
instance (s : ab) : Decidable (jp s) := inferInstanceAs (Decidable (∀ i, i < s.rules.length → sO (bw s i) (s.rules.getD i default)))
def qa (s : ab) (i : Nat) : Option Bool := if sO (bw s i) (s.rules.getD i default) then none else some false
theorem vi {T : Type} (s : ab) (t : T) : (match d2 s.rules.length (qa s) t with | .inl _ => true | .inr z => z) = decide (jp s) := by
 rcases b9 s.rules.length (qa s) t with ⟨e, h⟩ | ⟨j, z, hj, hf, e⟩
 ·rw [e]
  have : jp s := by
   intro i hi
   have := h i hi
   unfold qa at this
   refine Classical.byContradiction fun hc => ?_
   rw [iN hc] at this; cases this
  simp only [this, decide_true]
 ·rw [e]
  unfold qa at hf
  split at hf
  ·cases hf
  ·rename_i hc
   simp only [sJ] at hf
   have : ¬ jp s := fun h => hc (h j hj)
   simp only [this, decide_false, ← hf]
theorem eq.rule {s : ab} (g : eq s) {i : Nat} (hi : i < s.rules.length) : iQ s (s.rules.getD i default) ∧ (∀ x ∈ d4 (s.rules.getD i default), inV s x) ∧ (s.rules.getD i default).a.length ≤ 3 ∧ ¬ (bw s i).contains (s.rules.getD i default).out_ = true ∧ ¬ cx (s.rules.getD i default).op < 0 ∧ ((s.rules.getD i default).a.length : Int) = cx (s.rules.getD i default).op := by
 obtain ⟨h1, h2, h3, h4, h5, h6, _⟩ := nt (g.r i hi)
 exact ⟨h1, h2, h3, h4, h5, h6⟩
theorem wh {s : ab} (g : eq s) : ju s = some (s.vars, s.in_, s.out_, s.rules, co s s.in_) := by
 unfold ju
 rw [iP ⟨by omega, pT _ (by have := g.h.nv; omega)⟩, qY]
 have := d3 (S := List Bool × Int) (T := List Bool) (fun i => (co s (s.in_.take i), (i : Int))) (body := fun x => dt s x.1 x.2) s.in_.length (co s s.in_)
  (by
   intro i hi
   show dt s (co s (s.in_.take i)) (i : Int) = _
   have gi := g.h.i _ (br hi)
   have gi' := gi
   unfold inV at gi'
   unfold dt
   rw [iP (ltI hi), iP (inI hi)]
   simp only [tN]
   rw [f9, iP gi', mL gi, wrs i (by have := g.h.ni; omega), cN _ hi])
  (by
   show dt s (co s (s.in_.take s.in_.length)) (s.in_.length : Int) = _
   unfold dt
   rw [iN (bi _), List.take_length])
 show (aU (fun (x : List Bool × Int) => dt s x.1 x.2) (co s [], 0)).bind (fun z => fV s z) = _
 rw [show s.in_.take 0 = [] from rfl, show ((0 : Nat) : Int) = 0 from rfl] at this
 rw [this]
 rfl
theorem vj {s : ab} (g : eq s) : i5 s = some (decide (jp s)) := by
 unfold i5
 rw [wh g]
 simp only [bSq]
 have e0 : bw s 0 = s.in_ := by simp [bw]
 have := o9 (S := List Bool × Int) (T := List Bool) (Z := Bool) (fun i => (co s (bw s i), (i : Int))) (body := fun x => cO s (s.vars, s.in_, s.out_, s.rules, co s s.in_) x.1 x.2) s.rules.length (qa s) (co s (bw s s.rules.length))
  (by
   intro i hi
   show cO s (s.vars, s.in_, s.out_, s.rules, co s s.in_) (co s (bw s i)) (i : Int) = _
   obtain ⟨gr, hu, ha, _⟩ := g.rule hi
   have he := gr.e
   have go := gr.o
   have go' := go
   unfold inV at go'
   unfold cO
   rw [iP (ltI hi), iP (inI hi)]
   simp only [tN]
   rw [wg (fun x hx => hu x (nw hx)) (by omega) (by omega)]
   simp only [bSq]
   unfold qa
   by_cases hc : sO (bw s i) (s.rules.getD i default)
   ·simp only [hc, decide_true, if_true]
    rw [f9, iP go', mL go, wrs i (by have := g.h.nr; omega), lJ s hi]
   ·simp only [hc, decide_false, Bool.false_eq_true, if_false])
  (by
   show cO s (s.vars, s.in_, s.out_, s.rules, co s s.in_) (co s (bw s s.rules.length)) (s.rules.length : Int) = _
   unfold cO
   rw [iN (bi _)])
 rw [e0, show ((0 : Nat) : Int) = 0 from rfl] at this
 show (aU (fun (x : List Bool × Int) => cO s (s.vars, s.in_, s.out_, s.rules, co s s.in_) x.1 x.2) (co s s.in_, 0)).bind (Sum.elim (fun z14 => eR z14) (fun z15 => some z15)) = _
 rw [this]
 simp only [bSq]
 rw [← vi s (co s (bw s s.rules.length))]
 cases d2 s.rules.length (qa s) (co s (bw s s.rules.length)) <;> rfl
end Pam
namespace Pam
open Go
def bx (s : ab) (v : Nat) : Nat → am
 | 0 => if (v : Int) ∈ s.in_ then ⟨-1, -1⟩ else ⟨0, -1⟩
 | i + 1 => if (s.rules.getD i default).out_ = (v : Int) then ⟨(i : Int), (i : Int)⟩ else bx s v i
def toN (s : ab) (v : Nat) : Nat → Int
 | 0 => (bx s v s.rules.length).to
 | i + 1 => if (v : Int) ∈ c8 (s.rules.getD i default) then (if (i : Int) > toN s v i then (i : Int) else toN s v i) else toN s v i
def n8 (s : ab) (v : Nat) (i : Nat) : Prop := ∃ k, k < i ∧ (s.rules.getD k default).op = 13 ∧ (s.rules.getD k default).a.getD 1 default = (v : Int)
theorem q6 (s : ab) (v i : Nat) : n8 s v (i + 1) ↔ n8 s v i ∨ ((s.rules.getD i default).op = 13 ∧ (s.rules.getD i default).a.getD 1 default = (v : Int)) := by
 constructor
 ·rintro ⟨k, hk, h⟩
  by_cases e : k = i
  ·subst e; exact .inr h
  ·exact .inl ⟨k, by omega, h⟩
 ·rintro (⟨k, hk, h⟩ | h)
  ·exact ⟨k, by omega, h⟩
  ·exact ⟨i, by omega, h⟩
open Classical in
noncomputable def je (s : ab) (v : Nat) (i : Nat) : Int := if n8 s v i then (s.rules.length : Int) else toN s v i
open Classical in
noncomputable def gI (s : ab) (v : Nat) : am := ⟨(bx s v s.rules.length).from_, if (v : Int) ∈ s.out_ ∨ n8 s v s.rules.length then (s.rules.length : Int) else toN s v s.rules.length⟩
noncomputable def aZ (s : ab) : List am := cw s.vars.length (gI s)
theorem sQ (s : ab) (v : Nat) : ∀ i, (bx s v i).to < (i : Int) ∧ (bx s v i).to ≤ (bx s v i).from_ ∧ -1 ≤ (bx s v i).to
 | 0 => by unfold bx; split <;> simp
 | i + 1 => by
  unfold bx
  have := sQ s v i
  split
  ·simp; omega
  ·omega
theorem tM (s : ab) (v : Nat) : ∀ i, i ≤ s.rules.length → toN s v i ≤ (s.rules.length : Int)
 | 0, _ => by unfold toN; have := sQ s v s.rules.length; omega
 | i + 1, h => by
  unfold toN
  have := tM s v i (by omega)
  split
  ·split <;> omega
  ·exact this
theorem vI (v : Int) (s : ab) (h : inV s v) : ((v.toNat : Nat) : Int) = v ∧ v.toNat < s.vars.length := by unfold inV at h; omega
theorem qb {s : ab} {g : Nat → am} {v : Int} {at_ : Int} (h : inV s v) :
  gB v at_ (cw s.vars.length g) = some (cw s.vars.length (fun u => if (u : Int) = v then ⟨(g u).from_, if at_ > (g u).to then at_ else (g u).to⟩ else g u)) := by
 obtain ⟨h1, h2⟩ := vI v s h
 have h' := h
 unfold inV at h'
 unfold gB
 rw [iA, iP h', kb h2, mw]
 congr 1
 apply eJ
 intro u hu
 by_cases e : u = v.toNat
 ·subst e; rw [iP rfl, iP h1]
 ·rw [iN e, iN (by omega)]
theorem tO {s : ab} {g : Nat → am} {l : List Int} {i : Nat} (hu : ∀ x ∈ l, inV s x) (hl : l.length ≤ 1000) :
  aU (fun (x : List am × Int) => da (i : Int) l x.1 x.2) (cw s.vars.length g, 0) =
   some (cw s.vars.length (fun u => if (u : Int) ∈ l then ⟨(g u).from_, if (i : Int) > (g u).to then (i : Int) else (g u).to⟩ else g u)) := by
 have := d3 (S := List am × Int) (T := List am) (fun k => (cw s.vars.length (fun u => if (u : Int) ∈ l.take k then (⟨(g u).from_, if (i : Int) > (g u).to then (i : Int) else (g u).to⟩ : am) else g u), (k : Int)))
  (body := fun x => da (i : Int) l x.1 x.2) l.length (cw s.vars.length (fun u => if (u : Int) ∈ l then ⟨(g u).from_, if (i : Int) > (g u).to then (i : Int) else (g u).to⟩ else g u))
  (by
   intro k hk
   show da (i : Int) l (cw s.vars.length _) (k : Int) = _
   unfold da
   rw [iP (ltI hk), iP (inI hk)]
   simp only [tN]
   rw [qb (hu _ (br hk)), wrs k (by omega)]
   simp only [bSq]
   congr 3
   apply eJ
   intro u hu
   rw [cN _ hk]
   simp only [List.mem_append, List.mem_singleton]
   by_cases h1 : (u : Int) = l.getD k default
   ·rw [iP h1, iP (Or.inr h1)]
    by_cases h2 : (u : Int) ∈ l.take k
    ·rw [iP h2]
     simp only
     congr 1
     split <;> first | rfl | omega | (split <;> omega)
    ·rw [iN h2]
   ·rw [iN h1]
    by_cases h2 : (u : Int) ∈ l.take k
    ·rw [iP h2, iP (Or.inl h2)]
    ·rw [iN h2, iN (fun h => h.elim h2 h1)])
  (by
   show da (i : Int) l (cw s.vars.length _) (l.length : Int) = _
   unfold da
   rw [iN (bi _), List.take_length])
 simp only [List.take_zero, List.not_mem_nil, if_false] at this
 exact this
theorem wi (s : ab) (hn : s.vars.length ≤ 1000) : aU (fun (x : List am × Int) => de s x.1 x.2) (List.replicate s.vars.length (am.mk 0 0), 0) = some (cw s.vars.length (fun _ => ⟨0, -1⟩)) := by
 have := d3 (S := List am × Int) (T := List am) (fun k => (cw s.vars.length (fun u => if u < k then (⟨0, -1⟩ : am) else ⟨0, 0⟩), (k : Int)))
  (body := fun x => de s x.1 x.2) s.vars.length (cw s.vars.length (fun _ => ⟨0, -1⟩))
  (by
   intro k hk
   show de s (cw s.vars.length _) (k : Int) = _
   unfold de
   rw [iP (ltI hk), iA, iP (inI hk), wrs k (by omega)]
   simp only [tN]
   rw [mw]
   congr 3
   apply eJ
   intro u hu
   by_cases h : u = k
   ·subst h; rw [iP rfl, iP (by omega)]
   ·rw [iN h]
    by_cases h2 : u < k
    ·rw [iP h2, iP (by omega)]
    ·rw [iN h2, iN (by omega)])
  (by
   show de s (cw s.vars.length _) (s.vars.length : Int) = _
   unfold de
   rw [iN (bi _)]
   congr 2
   apply eJ
   intro u hu
   rw [iP hu])
 simp only [Nat.not_lt_zero, if_false] at this
 rw [← sG] at this
 exact this
theorem wj {s : ab} (g : li s) : aU (fun (x : List am × Int) => dd s x.1 x.2) (cw s.vars.length (fun _ => ⟨0, -1⟩), 0) = some (cw s.vars.length (fun u => bx s u 0)) := by
 have hni := g.ni
 have := d3 (S := List am × Int) (T := List am) (fun k => (cw s.vars.length (fun u => if (u : Int) ∈ s.in_.take k then (⟨-1, -1⟩ : am) else ⟨0, -1⟩), (k : Int)))
  (body := fun x => dd s x.1 x.2) s.in_.length (cw s.vars.length (fun u => bx s u 0))
  (by
   intro k hk
   show dd s (cw s.vars.length _) (k : Int) = _
   have gi := g.i _ (br hk)
   obtain ⟨v1, v2⟩ := vI _ s gi
   have gi' := gi
   unfold inV at gi'
   unfold dd
   rw [iP (ltI hk), iP (inI hk)]
   simp only [tN]
   rw [iA, iP gi', mw, wrs k (by omega)]
   congr 3
   apply eJ
   intro u hu
   rw [cN _ hk]
   simp only [List.mem_append, List.mem_singleton]
   by_cases h : u = (s.in_.getD k default).toNat
   ·subst h; rw [iP rfl, iP (Or.inr v1)]
   ·rw [iN h]
    by_cases h2 : (u : Int) ∈ s.in_.take k
    ·rw [iP h2, iP (Or.inl h2)]
    ·rw [iN h2, iN (fun hc => hc.elim h2 (fun he => h (by omega)))])
  (by
   show dd s (cw s.vars.length _) (s.in_.length : Int) = _
   unfold dd
   rw [iN (bi _), List.take_length]
   rfl)
 simp only [List.take_zero, List.not_mem_nil, if_false] at this
 exact this
theorem wk {s : ab} (g : eq s) : aU (fun (x : List am × Int) => dc s x.1 x.2) (cw s.vars.length (fun u => bx s u 0), 0) = some (cw s.vars.length (fun u => bx s u s.rules.length)) := by
 have hnr := g.h.nr
 have := d3 (S := List am × Int) (T := List am) (fun k => (cw s.vars.length (fun u => bx s u k), (k : Int)))
  (body := fun x => dc s x.1 x.2) s.rules.length (cw s.vars.length (fun u => bx s u s.rules.length))
  (by
   intro k hk
   show dc s (cw s.vars.length _) (k : Int) = _
   have gi := (g.rule hk).1.o
   obtain ⟨v1, v2⟩ := vI _ s gi
   have gi' := gi
   unfold inV at gi'
   unfold dc
   rw [iP (ltI hk), iP (inI hk)]
   simp only [tN]
   rw [iA, iP gi', mw, wrs k (by omega)]
   congr 3
   apply eJ
   intro u hu
   show _ = if (s.rules.getD k default).out_ = (u : Int) then _ else _
   by_cases h : u = (s.rules.getD k default).out_.toNat
   ·rw [iP h, iP (by omega)]
   ·rw [iN h, iN (by omega)])
  (by
   show dc s (cw s.vars.length _) (s.rules.length : Int) = _
   unfold dc
   rw [iN (bi _)])
 exact this
theorem pd {s : ab} (g : eq s) {k : Nat} (hk : k < s.rules.length) (h : (s.rules.getD k default).op = 13) : (s.rules.getD k default).a.length = 2 := by
 have := (g.rule hk).2.2.2.2.2
 rw [h] at this
 have e : cx 13 = 2 := rfl
 omega
theorem xt {s : ab} (g : eq s) {k : Nat} (hk : k < s.rules.length) (h : (s.rules.getD k default).op = 13) : inV s ((s.rules.getD k default).a.getD 1 default) :=
 (g.rule hk).1.a _ (br (by rw [pd g hk h]; omega))
theorem qc {s : ab} {v i : Nat} (hi : i < s.rules.length) : je s v (i + 1) =
  if (s.rules.getD i default).op = 13 ∧ (s.rules.getD i default).a.getD 1 default = (v : Int) then (s.rules.length : Int)
  else if (v : Int) ∈ c8 (s.rules.getD i default) then (if (i : Int) > je s v i then (i : Int) else je s v i) else je s v i := by
 unfold je
 have e : toN s v (i + 1) = if (v : Int) ∈ c8 (s.rules.getD i default) then (if (i : Int) > toN s v i then (i : Int) else toN s v i) else toN s v i := rfl
 rw [e]
 have hps := q6 s v i
 by_cases h1 : (s.rules.getD i default).op = 13 ∧ (s.rules.getD i default).a.getD 1 default = (v : Int)
 ·rw [iP h1, iP (hps.2 (.inr h1))]
 ·rw [iN h1]
  by_cases h2 : n8 s v i
  ·rw [iP (hps.2 (.inl h2)), iP h2]
   split
   ·rw [iN (by omega)]
   ·rfl
  ·rw [iN (fun h => (hps.1 h).elim h2 h1), iN h2]
theorem sR (s : ab) (v : Nat) {i : Nat} (h : i ≤ s.rules.length) : je s v i ≤ (s.rules.length : Int) := by
 unfold je
 split
 ·omega
 ·exact tM s v i h
theorem wl {s : ab} (g : eq s) : aU (fun (x : List am × Int) => db s x.1 x.2) (cw s.vars.length (fun u => bx s u s.rules.length), 0) =
  some (cw s.vars.length (fun u => ⟨(bx s u s.rules.length).from_, je s u s.rules.length⟩)) := by
 have hnr := g.h.nr
 have := d3 (S := List am × Int) (T := List am) (fun k => (cw s.vars.length (fun u => (⟨(bx s u s.rules.length).from_, je s u k⟩ : am)), (k : Int)))
  (body := fun x => db s x.1 x.2) s.rules.length (cw s.vars.length (fun u => ⟨(bx s u s.rules.length).from_, je s u s.rules.length⟩))
  (by
   intro k hk
   show db s (cw s.vars.length _) (k : Int) = _
   obtain ⟨gr, hu, ha, _⟩ := g.rule hk
   have he := gr.e
   unfold db
   rw [iP (ltI hk), iP (inI hk)]
   simp only [tN]
   rw [sM _ (by omega) (by omega)]
   simp only [bSq]
   have hnl := ny (s.rules.getD k default)
   show (aU (fun (x : List am × Int) => da (k : Int) (c8 (s.rules.getD k default)) x.1 x.2) (cw s.vars.length _, 0)).bind (fun z49 => fD s (k : Int) z49) = _
   rw [tO (fun x hx => hu x (nw hx)) (by omega)]
   simp only [bSq]
   unfold fD
   simp only [tN]
   by_cases h13 : (s.rules.getD k default).op = 13
   ·rw [iP h13, iP (by rw [pd g hk h13]; omega), qb (xt g hk h13)]
    simp only [bSq]
    unfold fC
    rw [wrs k (by omega)]
    congr 3
    apply eJ
    intro u hu
    rw [qc hk]
    have htl := sR s u (i := k) (by omega)
    by_cases h1 : (u : Int) = (s.rules.getD k default).a.getD 1 default
    ·have hp : (s.rules.getD k default).op = 13 ∧ (s.rules.getD k default).a.getD 1 default = (u : Int) := ⟨h13, h1.symm⟩
     rw [iP h1, iP hp]
     split <;> (simp only; congr 1; split <;> first | rfl | omega | (split <;> omega))
    ·have hp : ¬ ((s.rules.getD k default).op = 13 ∧ (s.rules.getD k default).a.getD 1 default = (u : Int)) := fun h => h1 h.2.symm
     rw [iN h1, iN hp]
     split <;> rfl
   ·rw [iN h13]
    unfold fC
    rw [wrs k (by omega)]
    congr 3
    apply eJ
    intro u hu
    have hp : ¬ ((s.rules.getD k default).op = 13 ∧ (s.rules.getD k default).a.getD 1 default = (u : Int)) := fun h => h13 h.1
    rw [qc hk, iN hp]
    split <;> rfl)
  (by
   show db s (cw s.vars.length _) (s.rules.length : Int) = _
   unfold db
   rw [iN (bi _)])
 have e0 : ∀ u, je s u 0 = (bx s u s.rules.length).to := by
  intro u
  unfold je
  rw [iN (fun ⟨k, hk, _⟩ => by omega)]
  rfl
 simp only [e0] at this
 exact this
theorem wm {s : ab} (g : eq s) : aU (fun (x : List am × Int) => c9 s x.1 x.2) (cw s.vars.length (fun u => ⟨(bx s u s.rules.length).from_, je s u s.rules.length⟩), 0) = some (aZ s) := by
 have hno := g.h.no
 have := d3 (S := List am × Int) (T := List am) (fun k => (cw s.vars.length (fun u => (⟨(bx s u s.rules.length).from_, if (u : Int) ∈ s.out_.take k then (s.rules.length : Int) else je s u s.rules.length⟩ : am)), (k : Int)))
  (body := fun x => c9 s x.1 x.2) s.out_.length (aZ s)
  (by
   intro k hk
   show c9 s (cw s.vars.length _) (k : Int) = _
   unfold c9
   rw [iP (ltI hk), iP (inI hk)]
   simp only [tN]
   rw [qb (g.h.o _ (br hk)), wrs k (by omega)]
   simp only [bSq]
   congr 3
   apply eJ
   intro u hu
   have htl := sR s u (Nat.le_refl s.rules.length)
   rw [cN _ hk]
   simp only [List.mem_append, List.mem_singleton]
   by_cases h1 : (u : Int) = s.out_.getD k default
   ·rw [iP h1, iP (Or.inr h1)]
    congr 1
    by_cases h2 : (u : Int) ∈ s.out_.take k
    ·rw [iP h2, iN (by omega)]
    ·rw [iN h2]; split <;> omega
   ·rw [iN h1]
    by_cases h2 : (u : Int) ∈ s.out_.take k
    ·rw [iP h2, iP (Or.inl h2)]
    ·rw [iN h2, iN (fun hc => hc.elim h2 h1)])
  (by
   show c9 s (cw s.vars.length _) (s.out_.length : Int) = _
   unfold c9
   rw [iN (bi _), List.take_length]
   unfold aZ
   congr 2
   apply eJ
   intro u hu
   unfold gI je
   congr 1
   by_cases h1 : (u : Int) ∈ s.out_
   ·rw [iP h1, iP (Or.inl h1)]
   ·rw [iN h1]
    by_cases h2 : n8 s u s.rules.length
    ·rw [iP h2, iP (Or.inr h2)]
    ·rw [iN h2, iN (fun hc => hc.elim h1 h2)])
 simp only [List.take_zero, List.not_mem_nil, if_false] at this
 exact this
theorem sS (s : ab) : j0 s = some (if (jm s).code = 0 then (if jp s then (aZ s, au.mk 0 0) else ([], au.mk 15 (-1))) else ([], jm s)) := by
 unfold j0
 rw [sL]
 simp only [bSq]
 by_cases h : (jm s).code = 0
 ·simp only [h, not_true_eq_false, if_false, if_true]
  obtain ⟨g, _⟩ := nu h
  have hnv := g.h.nv
  rw [vj g]
  simp only [bSq]
  by_cases hs : jp s
  ·simp only [hs, decide_true, if_true]
   have hm : maxLen = 9223372036854775807 := rfl
   rw [iP ⟨by omega, by unfold ij; omega⟩]
   show (aU (fun (x : List am × Int) => de s x.1 x.2) (List.replicate s.vars.length (am.mk 0 0), 0)).bind (fun z80 => fG s z80) = _
   rw [wi s (by omega)]
   simp only [bSq]
   unfold fG
   show (aU (fun (x : List am × Int) => dd s x.1 x.2) (cw s.vars.length (fun _ => ⟨0, -1⟩), 0)).bind (fun z70 => fF s z70) = _
   rw [wj g.h]
   simp only [bSq]
   unfold fF
   show (aU (fun (x : List am × Int) => dc s x.1 x.2) (cw s.vars.length (fun u => bx s u 0), 0)).bind (fun z60 => fE s z60) = _
   rw [wk g]
   simp only [bSq]
   unfold fE
   show (aU (fun (x : List am × Int) => db s x.1 x.2) (cw s.vars.length (fun u => bx s u s.rules.length), 0)).bind (fun z50 => fA s z50) = _
   rw [wl g]
   simp only [bSq]
   unfold fA
   show (aU (fun (x : List am × Int) => c9 s x.1 x.2) (cw s.vars.length _, 0)).bind (fun z23 => gN z23) = _
   rw [wm g]
   rfl
  ·simp only [hs, decide_false, Bool.false_eq_true, if_false]
 ·simp only [h, not_false_eq_true, if_true, if_false]
end Pam
namespace Pam
open Go
theorem tP {s : ab} (v : Nat) (hn : s.rules.length ≤ 1000) : aU (fun (x : Int × Int × Int) => cM s (v : Int) x.1 x.2.1 x.2.2) ((bx s v 0).from_, (bx s v 0).to, 0) = some ((bx s v s.rules.length).from_, (bx s v s.rules.length).to) := by
 have := d3 (S := Int × Int × Int) (T := Int × Int) (fun k => ((bx s v k).from_, (bx s v k).to, (k : Int))) (body := fun x => cM s (v : Int) x.1 x.2.1 x.2.2) s.rules.length ((bx s v s.rules.length).from_, (bx s v s.rules.length).to)
  (by
   intro k hk
   show cM s (v : Int) _ _ (k : Int) = _
   unfold cM
   rw [iP (ltI hk), iP (inI hk)]
   simp only [tN]
   rw [wrs k (by omega)]
   have e : bx s v (k + 1) = if (s.rules.getD k default).out_ = (v : Int) then ⟨(k : Int), (k : Int)⟩ else bx s v k := rfl
   rw [e]
   by_cases h : (s.rules.getD k default).out_ = (v : Int)
   ·rw [iP h, iP h]
   ·rw [iN h, iN h])
  (by
   show cM s (v : Int) _ _ (s.rules.length : Int) = _
   unfold cM
   rw [iN (bi _)])
 exact this
theorem tQ {s : ab} (g : eq s) (v : Nat) : aU (fun (x : Int × Int) => cL s (v : Int) x.1 x.2) ((bx s v s.rules.length).to, 0) = some (toN s v s.rules.length) := by
 have hnr := g.h.nr
 have := d3 (S := Int × Int) (T := Int) (fun k => (toN s v k, (k : Int))) (body := fun x => cL s (v : Int) x.1 x.2) s.rules.length (toN s v s.rules.length)
  (by
   intro k hk
   show cL s (v : Int) (toN s v k) (k : Int) = _
   obtain ⟨gr, hu, ha, _⟩ := g.rule hk
   have he := gr.e
   unfold cL
   rw [iP (ltI hk), iP (inI hk)]
   simp only [tN]
   have hnl := ny (s.rules.getD k default)
   rw [sN _ (by omega) (by omega)]
   simp only [bSq]
   rw [n5 _ _ (by omega)]
   simp only [bSq]
   rw [wrs k (by omega)]
   have e : toN s v (k + 1) = if (v : Int) ∈ c8 (s.rules.getD k default) then (if (k : Int) > toN s v k then (k : Int) else toN s v k) else toN s v k := rfl
   rw [e]
   by_cases h : (v : Int) ∈ c8 (s.rules.getD k default)
   ·rw [iP (List.contains_iff_mem.2 h), iP h]
    by_cases h2 : toN s v k < (k : Int)
    ·rw [iP h2, iP (by omega)]
    ·rw [iN h2, iN (by omega)]
   ·rw [iN (fun hc => h (List.contains_iff_mem.1 hc)), iN h])
  (by
   show cL s (v : Int) _ (s.rules.length : Int) = _
   unfold cL
   rw [iN (bi _)])
 exact this
theorem tR {s : ab} (g : eq s) (v : Nat) : aU (fun (x : Int × Int) => cK s (v : Int) x.1 x.2) (toN s v s.rules.length, 0) = some (je s v s.rules.length) := by
 have hnr := g.h.nr
 open Classical in
 have := d3 (S := Int × Int) (T := Int) (fun k => (if n8 s v k then (s.rules.length : Int) else toN s v s.rules.length, (k : Int))) (body := fun x => cK s (v : Int) x.1 x.2) s.rules.length (je s v s.rules.length)
  (by
   intro k hk
   show cK s (v : Int) (if n8 s v k then (s.rules.length : Int) else toN s v s.rules.length) (k : Int) = _
   unfold cK
   rw [iP (ltI hk), iP (inI hk)]
   simp only [tN]
   rw [wrs k (by omega)]
   have hps := q6 s v k
   by_cases h13 : (s.rules.getD k default).op = 13
   ·rw [iP h13, iP (by rw [pd g hk h13]; omega)]
    by_cases h1 : (s.rules.getD k default).a.getD 1 default = (v : Int)
    ·rw [iP h1, iP (hps.2 (Or.inr ⟨h13, h1⟩))]
    ·rw [iN h1]
     by_cases h2 : n8 s v k
     ·rw [iP h2, iP (hps.2 (Or.inl h2))]
     ·rw [iN h2, iN (fun hc => (hps.1 hc).elim h2 (fun h => h1 h.2))]
   ·rw [iN h13]
    by_cases h2 : n8 s v k
    ·rw [iP h2, iP (hps.2 (Or.inl h2))]
    ·rw [iN h2, iN (fun hc => (hps.1 hc).elim h2 (fun h => h13 h.1))])
  (by
   show cK s (v : Int) _ (s.rules.length : Int) = _
   unfold cK
   rw [iN (bi _)]
   rfl)
 have e0 : ¬ n8 s v 0 := fun ⟨k, hk, _⟩ => by omega
 simp only [iN e0] at this
 exact this
theorem oP {s : ab} (g : eq s) : iL s = some (aZ s) := by
 unfold iL
 have hnv := g.h.nv
 have hnr := g.h.nr
 have hm : maxLen = 9223372036854775807 := rfl
 have := d3 (S := List am × Int) (T := List am) (fun k => (cw k (gI s), (k : Int))) (body := fun x => dv s x.1 x.2) s.vars.length (aZ s)
  (by
   intro k hk
   show dv s (cw k (gI s)) (k : Int) = _
   have hlen := iA k (gI s)
   have j3 : eH s (cw k (gI s)) (k : Int) (bx s k 0).from_ = some (.inl (cw (k + 1) (gI s), ((k + 1 : Nat) : Int))) := by
    have eb : (bx s k 0).to = -1 := by unfold bx; split <;> rfl
    unfold eH
    have hl4 := tP (s := s) k (by omega)
    rw [eb] at hl4
    show (aU (fun (x : Int × Int × Int) => cM s (k : Int) x.1 x.2.1 x.2.2) ((bx s k 0).from_, -1, 0)).bind (fun z => eG s (cw k (gI s)) (k : Int) z.1 z.2) = _
    rw [hl4]
    simp only [bSq]
    unfold eG
    show (aU (fun (x : Int × Int) => cL s (k : Int) x.1 x.2) ((bx s k s.rules.length).to, 0)).bind _ = _
    rw [tQ g]
    simp only [bSq]
    unfold f8
    show (aU (fun (x : Int × Int) => cK s (k : Int) x.1 x.2) (toN s k s.rules.length, 0)).bind _ = _
    rw [tR g]
    simp only [bSq]
    unfold fZ
    rw [n5 _ _ (by have := g.h.no; omega)]
    simp only [bSq]
    rw [iP (show ij ((cw k (gI s)).length + 1) 16 by unfold ij; omega), iP (show ij ((cw k (gI s)).length + 1) 16 by unfold ij; omega)]
    unfold fY
    rw [wrs k (by omega), qU]
    unfold gI je
    by_cases ho : (k : Int) ∈ s.out_
    ·rw [iP (List.contains_iff_mem.2 ho), iP (Or.inl ho)]; rfl
    ·rw [iN (fun hc => ho (List.contains_iff_mem.1 hc))]
     by_cases hp : n8 s k s.rules.length
     ·rw [iP hp, iP (Or.inr hp)]; rfl
     ·rw [iN hp, iN (fun hc => hc.elim ho hp)]; rfl
   unfold dv
   rw [iP (ltI hk), n5 _ _ (by have := g.h.ni; omega)]
   simp only [bSq]
   by_cases hi : (k : Int) ∈ s.in_
   ·have eb : (bx s k 0).from_ = -1 := by unfold bx; rw [iP hi]
    rw [eb] at j3
    rw [iP (List.contains_iff_mem.2 hi), j3]
   ·have eb : (bx s k 0).from_ = 0 := by unfold bx; rw [iN hi]
    rw [eb] at j3
    rw [iN (fun hc => hi (List.contains_iff_mem.1 hc)), j3])
  (by
   show dv s (cw s.vars.length (gI s)) (s.vars.length : Int) = _
   unfold dv
   rw [iN (bi _)]
   rfl)
 show (aU (fun (x : List am × Int) => dv s x.1 x.2) ([], 0)).bind (fun z90 => fX z90) = _
 rw [show cw 0 (gI s) = [] from rfl, show ((0 : Nat) : Int) = 0 from rfl] at this
 rw [this]
 rfl
def kd (s : ab) (l : List am) (at_ : Int) : Nat → Int
 | 0 => 0
 | v + 1 => if (l.getD v default).from_ ≤ at_ ∧ at_ ≤ (l.getD v default).to then kd s l at_ v + dB (s.vars.getD v default).n else kd s l at_ v
def ke (s : ab) (l : List am) : Nat → Int
 | 0 => 0
 | k + 1 => if kd s l (-1 + (k : Int)) s.vars.length > ke s l k then kd s l (-1 + (k : Int)) s.vars.length else ke s l k
theorem lj {s : ab} (g : li s) {v : Nat} (h : v < s.vars.length) : 1 ≤ dB (s.vars.getD v default).n ∧ dB (s.vars.getD v default).n ≤ 300 := by
 have := g.v.n _ (br h)
 unfold dB
 split <;> omega
theorem ut {s : ab} (g : li s) (l : List am) (at_ : Int) : ∀ v, v ≤ s.vars.length → 0 ≤ kd s l at_ v ∧ kd s l at_ v ≤ 300 * (v : Int)
 | 0, _ => by unfold kd; omega
 | v + 1, h => by
  have := ut g l at_ v (by omega)
  have := lj g (v := v) (by omega)
  unfold kd
  split <;> omega
theorem rH {s : ab} (g : li s) (l : List am) (hl : l.length = s.vars.length) (at_ : Int) :
  aU (fun (x : Int × Int) => dg s l at_ x.1 x.2) (0, 0) = some (kd s l at_ s.vars.length) := by
 have hnv := g.nv
 have := d3 (S := Int × Int) (T := Int) (fun k => (kd s l at_ k, (k : Int))) (body := fun x => dg s l at_ x.1 x.2) s.vars.length (kd s l at_ s.vars.length)
  (by
   intro k hk
   show dg s l at_ (kd s l at_ k) (k : Int) = _
   have h1 := ut g l at_ k (by omega)
   have h2 := lj g hk
   unfold dg
   simp only [tN, hl, ex, bSq]
   rw [iP (ltI hk), iP (inI hk), wrs k (by omega), wr (by omega) (by omega)]
   have e : kd s l at_ (k + 1) = if (l.getD k default).from_ ≤ at_ ∧ at_ ≤ (l.getD k default).to then kd s l at_ k + dB (s.vars.getD k default).n else kd s l at_ k := rfl
   rw [e]
   by_cases h3 : (l.getD k default).from_ ≤ at_
   ·rw [iP h3]
    by_cases h4 : at_ ≤ (l.getD k default).to
    ·rw [iP (show (l.getD k default).to ≥ at_ from h4), iP (inI hk), iP (And.intro h3 h4)]
    ·rw [iN (show ¬ (l.getD k default).to ≥ at_ from h4), iN (fun h => h4 h.2)]
   ·rw [iN h3, iN (fun h => h3 h.1)])
  (by
   show dg s l at_ _ (s.vars.length : Int) = _
   unfold dg
   simp only [hl]
   rw [iN (bi _)])
 exact this
theorem wrM (k : Nat) (h : k ≤ 100000) : IntKind.wrap .i64 (-1 + (k : Int) + 1) = -1 + ((k + 1 : Nat) : Int) := by rw [wr (by omega) (by omega)]; omega
theorem rI {s : ab} (g : li s) (l : List am) (hl : l.length = s.vars.length) :
  aU (fun (x : Int × Int) => dh s l x.1 x.2) (0, -1) = some (ke s l (s.rules.length + 2)) := by
 have hnr := g.nr
 have := d3 (S := Int × Int) (T := Int) (fun k => (ke s l k, -1 + (k : Int))) (body := fun x => dh s l x.1 x.2) (s.rules.length + 2) (ke s l (s.rules.length + 2))
  (by
   intro k hk
   show dh s l (ke s l k) (-1 + (k : Int)) = _
   unfold dh
   rw [iP (by omega)]
   show (aU (fun (x : Int × Int) => dg s l (-1 + (k : Int)) x.1 x.2) (0, 0)).bind _ = _
   rw [rH g l hl]
   simp only [bSq]
   unfold gP gO
   rw [wrM k (by omega)]
   have e : ke s l (k + 1) = if kd s l (-1 + (k : Int)) s.vars.length > ke s l k then kd s l (-1 + (k : Int)) s.vars.length else ke s l k := rfl
   rw [e]
   by_cases h : kd s l (-1 + (k : Int)) s.vars.length > ke s l k
   ·rw [iP h, iP h]
   ·rw [iN h, iN h])
  (by
   show dh s l _ (-1 + ((s.rules.length + 2 : Nat) : Int)) = _
   unfold dh
   rw [iN (by omega)])
 exact this
theorem kf (s : ab) : (aZ s).length = s.vars.length := iA _ _
noncomputable def uu (s : ab) : Int := ke s (aZ s) (s.rules.length + 2)
theorem tS {s : ab} (g : eq s) : j8 s = some (uu s) := by
 unfold j8
 rw [oP g]
 simp only [bSq]
 show (aU (fun (x : Int × Int) => dh s (aZ s) x.1 x.2) (0, -1)).bind _ = _
 rw [rI g.h _ (kf s)]
 rfl
end Pam
namespace Pam
open Go
theorem q7 {s : ab} (g : eq s) {i : Nat} (hi : i < s.rules.length) : ¬ (s.rules.getD i default).out_ ∈ bw s i := fun h => (g.rule hi).2.2.2.1 (List.contains_iff_mem.2 h)
theorem wn (s : ab) (x : Int) {i : Nat} (hi : i ≤ s.rules.length) : x ∈ qZ s i ↔ ∃ k, k < i ∧ (s.rules.getD k default).out_ = x := by
 induction i with
 | zero => simp [qZ]
 | succ i ih =>
  have e2 : qZ s (i + 1) = qZ s i ++ [(s.rules.getD i default).out_] := by unfold qZ; rw [cN _ (by omega), List.map_append]; rfl
  rw [e2, List.mem_append, ih (by omega), List.mem_singleton]
  constructor
  ·rintro (⟨k, hk, h⟩ | h)
   ·exact ⟨k, by omega, h⟩
   ·exact ⟨i, by omega, h.symm⟩
  ·rintro ⟨k, hk, h⟩
   by_cases e : k = i
   ·subst e; exact .inr h.symm
   ·exact .inl ⟨k, by omega, h⟩
theorem qd (s : ab) (x : Int) {i : Nat} (hi : i ≤ s.rules.length) : x ∈ bw s i ↔ x ∈ s.in_ ∨ ∃ k, k < i ∧ (s.rules.getD k default).out_ = x := by
 rw [tK, List.mem_append, wn s x hi]
theorem wo {s : ab} (g : eq s) {i k : Nat} (hk : k < i) (hi : i < s.rules.length) : (s.rules.getD k default).out_ ≠ (s.rules.getD i default).out_ := fun h =>
 q7 g hi ((qd s _ (by omega)).2 (.inr ⟨k, hk, h⟩))
theorem ow {s : ab} {v : Nat} : ∀ i, (∀ k, k < i → (s.rules.getD k default).out_ ≠ (v : Int)) → bx s v i = bx s v 0
 | 0, _ => rfl
 | i + 1, h => by
  have e : bx s v (i + 1) = if (s.rules.getD i default).out_ = (v : Int) then ⟨(i : Int), (i : Int)⟩ else bx s v i := rfl
  rw [e, iN (h i (by omega)), ow i (fun k hk => h k (by omega))]
theorem uv {s : ab} {v k : Nat} (hk : (s.rules.getD k default).out_ = (v : Int)) : ∀ i, k < i → (∀ k', k < k' → k' < i → (s.rules.getD k' default).out_ ≠ (v : Int)) → bx s v i = ⟨(k : Int), (k : Int)⟩
 | 0, h, _ => by omega
 | i + 1, h, hu => by
  rw [bx]
  by_cases e : k = i
  ·subst e; rw [iP hk]
  ·rw [iN (hu i (by omega) (by omega))]
   exact uv hk i (by omega) (fun k' h1 h2 => hu k' h1 (by omega))
theorem qe (s : ab) (v : Nat) {i : Nat} : ∀ j, i ≤ j → toN s v i ≤ toN s v j
 | 0, h => by
  have : i = 0 := by omega
  subst this; exact Int.le_refl _
 | j + 1, h => by
  by_cases e : i = j + 1
  ·subst e; exact Int.le_refl _
  ·have := qe s v (i := i) j (by omega)
   have e : toN s v (j + 1) = if (v : Int) ∈ c8 (s.rules.getD j default) then (if (j : Int) > toN s v j then (j : Int) else toN s v j) else toN s v j := rfl
   rw [e]
   split
   ·split <;> omega
   ·exact this
theorem q8 (s : ab) (v : Nat) : ∀ i, toN s v i = (bx s v s.rules.length).to ∨ ∃ k, k < i ∧ toN s v i = (k : Int) ∧ (v : Int) ∈ c8 (s.rules.getD k default)
 | 0 => .inl rfl
 | i + 1 => by
  have e : toN s v (i + 1) = if (v : Int) ∈ c8 (s.rules.getD i default) then (if (i : Int) > toN s v i then (i : Int) else toN s v i) else toN s v i := rfl
  rw [e]
  have ih := q8 s v i
  have old : toN s v i = (bx s v s.rules.length).to ∨ ∃ k, k < i + 1 ∧ toN s v i = (k : Int) ∧ (v : Int) ∈ c8 (s.rules.getD k default) := by
   rcases ih with h | ⟨k, hk, h⟩
   ·exact .inl h
   ·exact .inr ⟨k, by omega, h⟩
  split
  ·rename_i hm
   split
   ·exact .inr ⟨i, by omega, rfl, hm⟩
   ·exact old
  ·exact old
theorem xu {s : ab} {v : Nat} (hv : v < s.vars.length) : (aZ s).getD v default = gI s v := kb hv
theorem qf (s : ab) (v : Nat) : toN s v s.rules.length ≤ (gI s v).to := by
 unfold gI
 simp only
 split
 ·exact tM s v _ (Nat.le_refl _)
 ·exact Int.le_refl _
theorem sT {s : ab} (g : eq s) {i v : Nat} (hi : i < s.rules.length) (h : (s.rules.getD i default).out_ = (v : Int)) : (gI s v).from_ = (i : Int) ∧ (i : Int) ≤ (gI s v).to := by
 have hb : bx s v s.rules.length = ⟨(i : Int), (i : Int)⟩ := uv h _ hi (fun k' h1 h2 he => wo g h1 h2 (by rw [h, he]))
 refine ⟨?_, ?_⟩
 ·show (bx s v s.rules.length).from_ = _
  rw [hb]
 ·have h1 := qf s v
  have h2 := qe s v (i := 0) s.rules.length (by omega)
  have h3 : toN s v 0 = (i : Int) := by
   show (bx s v s.rules.length).to = _
   rw [hb]
  omega
def km (s : ab) : List Int → Int
 | [] => 0
 | x :: l => dB (s.vars.getD x.toNat default).n + km s l
theorem mM (s : ab) (x : Int) : ∀ l, km s (l ++ [x]) = km s l + dB (s.vars.getD x.toNat default).n
 | [] => by simp [km]
 | y :: l => by
  have := mM s x l
  simp only [List.cons_append, km, this]
  omega
theorem nA {s : ab} (g : li s) : ∀ (L : List Int), (∀ x ∈ L, inV s x) → 0 ≤ km s L ∧ km s L ≤ 300 * (L.length : Int)
 | [], _ => by simp [km]
 | x :: L, h => by
  have h1 := nA g L (fun y hy => h y (by simp [hy]))
  have hx := h x (by simp)
  unfold inV at hx
  have h2 := lj g (v := x.toNat) (by omega)
  simp only [km, List.length_cons]
  omega
end Pam
namespace Pam
open Go
set_option maxRecDepth 100000 in
theorem zP : ∀ n : Nat, n < 401 → jo 1 (n : Int) = some (0, (n : Int)) := by decide
theorem xw {x N : Nat} {l : List Int} {a : Int} (h1 : x ≤ N) (hl : l.length = N) (ht : l.take x = List.replicate x a) :
  (cpy l x (N - x) (l.take x)).take (x + min x (N - x)) = List.replicate (x + min x (N - x)) a := by
 unfold cpy
 rw [iP (by omega), ht, List.take_replicate, List.length_replicate, List.take_append_of_le_length (by simp; omega), List.take_of_length_le (by simp; omega), List.replicate_append_replicate]
 congr 1
 omega
theorem xx {x N : Nat} {l : List Int} (h1 : x ≤ N) (hl : l.length = N) : cpn (N - x) (l.take x) = ((min x (N - x) : Nat) : Int) := by
 unfold cpn
 rw [List.length_take, hl, Nat.min_eq_left h1]
theorem ws {N : Nat} (hN : N ≤ 1000) (a : Int) : ∀ (k x : Nat) (l : List Int), N - x ≤ k → 1 ≤ x → x ≤ N → l.length = N → l.take x = List.replicate x a →
  aU (fun (q : List Int × Int) => aS q.1 q.2) (l, (x : Int)) = some (List.replicate N a) := by
 have done : ∀ (l : List Int), l.length = N → l.take N = List.replicate N a → aU (fun (q : List Int × Int) => aS q.1 q.2) (l, (N : Int)) = some (List.replicate N a) := by
  intro l hl ht
  refine dH ?_
  show aS l (N : Int) = _
  unfold aS
  rw [iN (by omega), ← ht, List.take_of_length_le (by omega)]
 intro k
 induction k with
 | zero =>
  intro x l h0 h1 h2 hl ht
  have : x = N := by omega
  subst this
  exact done l hl ht
 | succ k ih =>
  intro x l h0 h1 h2 hl ht
  by_cases e : x = N
  ·subst e; exact done l hl ht
  ·have hb : aS l (x : Int) = some (.inl (cpy l x (N - x) (l.take x), ((x + min x (N - x) : Nat) : Int))) := by
    unfold aS
    rw [iP (by omega), iP (by omega)]
    simp only [tN, List.drop_zero]
    rw [hl, xx h2 hl, wr (by omega) (by omega)]
    simp
   rw [gM (s := (l, (x : Int))) hb]
   exact ih _ _ (by omega) (by omega) (by omega) (by rw [kx]; exact hl) (xw h2 hl ht)
theorem q9 {n : Nat} (h : n ≤ 400) (a : Int) : cG (n : Int) (lit ([a] : List Int)) = some (List.replicate n a) := by
 unfold cG
 have e1 : IntKind.wrap .u64 ((lit ([a] : List Int)).length : Int) = 1 := by
  show IntKind.wrap .u64 ((1 : Nat) : Int) = 1
  decide
 have e2 : IntKind.wrap .u64 (n : Int) = (n : Int) := by
  rw [IntKind.wrap_u64]; omega
 have e3 : IntKind.wrap .i64 (n : Int) = (n : Int) := wr (by omega) (by omega)
 rw [iN (by omega), e1, e2, zP n (by omega)]
 simp only [bSq]
 rw [iN (by omega), iN (by omega), e3]
 simp only [tN]
 rw [iP ⟨by omega, oO n (by omega)⟩]
 have e4 : ((lit ([a] : List Int)).drop 0).take (lit ([a] : List Int)).length = [a] := by simp [lit]
 rw [e4]
 show (aU (fun (q : List Int × Int) => aS q.1 q.2) (cpy (List.replicate n 0) 0 n [a], cpn n [a])).bind (fun z => cd z) = _
 have : aU (fun (q : List Int × Int) => aS q.1 q.2) (cpy (List.replicate n 0) 0 n [a], cpn n [a]) = some (List.replicate n a) := by
  by_cases e : n = 0
  ·subst e
   refine dH ?_
   show aS _ _ = _
   unfold aS
   rw [iN (by rw [kx]; simp [cpn])]
   simp [cpy]
  ·have h1 : cpn n [a] = ((1 : Nat) : Int) := by unfold cpn; simp; omega
   rw [h1]
   refine ws (by omega) a n 1 _ (by omega) (by omega) (by omega) (by rw [kx]; simp) ?_
   unfold cpy
   rw [iP (by simp)]
   have : min [a].length n = 1 := by simp; omega
   rw [this]
   match n, e with
   | m + 1, _ => simp
 rw [this]
 rfl
theorem mN (n : Int) : gg n = some (dB n) := by unfold gg; rw [xk]
def jL (u : Int) (p : ax) : Bool := p.v == u && (p.op == 8 || p.op == 3 && p.n != 0)
def oQ (s : ab) (r : ae) (u : Int) : Bool :=
 (r.op == 14 || r.op == 16) && (s.vars.getD u.toNat default).n == (s.vars.getD r.out_.toNat default).n && !r.a.contains u && !r.e.any (jL u)
theorem wt (p : ax) (u : Int) : i6 p u = some (jL u p) := by
 unfold i6 jL
 by_cases h1 : p.v = u
 ·rw [iP h1]
  by_cases h2 : p.op = 8
  ·rw [iP h2]; simp [h1, h2]
  ·rw [iN h2]
   by_cases h3 : p.op = 3
   ·rw [iP h3]; simp [h1, h3]
   ·rw [iN h3]; simp [h1, h2, h3]
 ·rw [iN h1]; simp [h1]
theorem sU {T : Type} [Inhabited T] (l : List T) (p : T → Bool) : (d2 l.length (fun i => if p (l.getD i default) = true then some i else none) () = .inl () ∧ l.any p = false) ∨
  ∃ i, i < l.length ∧ d2 l.length (fun i => if p (l.getD i default) = true then some i else none) () = .inr i ∧ l.any p = true := by
 rcases b9 l.length (fun i => if p (l.getD i default) = true then some i else none) () with ⟨e, h⟩ | ⟨i, z, hi, hz, e⟩
 ·refine .inl ⟨e, ?_⟩
  rw [List.any_eq_false]
  intro x hx
  obtain ⟨i, hi, rfl⟩ := List.mem_iff_getElem.1 hx
  have := h i hi
  have e2 : l.getD i default = l[i] := by simp [List.getD, hi]
  rw [e2] at this
  intro hc
  rw [iP hc] at this
  cases this
 ·split at hz
  ·rename_i hc
   simp only [sJ] at hz
   subst hz
   exact .inr ⟨_, hi, e, List.any_eq_true.2 ⟨_, br hi, hc⟩⟩
  ·cases hz
theorem rJ (e : List ax) (u : Int) (he : e.length ≤ 100000) : bq e u = some (e.any (jL u)) := by
 unfold bq bW
 rw [cW e.length (fun i => (if jL u (e.getD i default) = true then some i else none).map (fun i : Nat => (i : Int))) () (fun i hi => by
  unfold bp
  rw [iP (ltI hi), iP (inI hi)]
  simp only [tN, wt, bSq]
  by_cases h : jL u (e.getD i default) = true
  ·rw [iP h, iP h]; rfl
  ·rw [iN h, iN h, wrs i (by omega)]; rfl) (by unfold bp; rw [iN (bi _)])]
 have hm : d2 e.length (fun i => (if jL u (e.getD i default) = true then some i else none).map (fun i : Nat => (i : Int))) () =
   (match d2 e.length (fun i => if jL u (e.getD i default) = true then some i else none) () with | .inl t => .inl t | .inr z => .inr (z : Int)) := by
  unfold d2
  have : (List.range e.length).findSome? (fun i => (if jL u (e.getD i default) = true then some i else none).map (fun i : Nat => (i : Int))) =
    ((List.range e.length).findSome? (fun i => if jL u (e.getD i default) = true then some i else none)).map (fun i : Nat => (i : Int)) := by
   rw [List.map_findSome?]; rfl
  rw [this]
  cases (List.range e.length).findSome? (fun i => if jL u (e.getD i default) = true then some i else none) <;> rfl
 rw [hm]
 rcases sU e (jL u) with ⟨h1, h2⟩ | ⟨i, hi, h1, h2⟩
 ·rw [h1, h2]; rfl
 ·rw [h1, h2]
  unfold bh at *
  simp only [bSq, Sum.elim_inr]
  simp
theorem xy {s : ab} {r : ae} {u : Int} (ho : inV s r.out_) (hu : inV s u) (ha : r.a.length ≤ 1000) (he : r.e.length ≤ 1000) : ji s r u = some (oQ s r u) := by
 have j1 : eu r u = some (!r.e.any (jL u)) := by
  unfold eu
  rw [rJ _ _ (by omega)]
  rfl
 have rest : (if ¬ ((s.vars.getD u.toNat default).n) = ((s.vars.getD r.out_.toNat default).n) then (some false) else ((bC r.a u).bind fun y2 => if y2 = true then (some false) else (eu r u))) =
   some ((s.vars.getD u.toNat default).n == (s.vars.getD r.out_.toNat default).n && !r.a.contains u && !r.e.any (jL u)) := by
  by_cases h1 : (s.vars.getD u.toNat default).n = (s.vars.getD r.out_.toNat default).n
  ·rw [iN (not_not_intro h1), oK _ _ (by omega)]
   simp only [bSq]
   by_cases h2 : r.a.contains u = true
   ·rw [iP h2, h2]; simp
   ·rw [iN h2, j1, h1]; simp only [Bool.not_eq_true] at h2; rw [h2]; simp
  ·rw [iP h1, show ((s.vars.getD u.toNat default).n == (s.vars.getD r.out_.toNat default).n) = false from by simpa using h1]
   rfl
 unfold ji oQ
 have ho' : 0 ≤ r.out_ ∧ r.out_ < (s.vars.length : Int) := ho
 have hu' : 0 ≤ u ∧ u < (s.vars.length : Int) := hu
 rw [iP ho']
 by_cases h14 : r.op = 14
 ·rw [iN (not_not_intro h14), iP hu', rest, h14]; simp
 ·rw [iP h14]
  by_cases h16 : r.op = 16
  ·rw [iN (not_not_intro h16), iP hu', rest, h16]; simp
  ·rw [iP h16]; simp [h14, h16]
theorem tT {s : ab} {r : ae} {u : Int} (ho : inV s r.out_) (hu : inV s u) (ha : r.a.length ≤ 1000) (he : r.e.length ≤ 1000) : iM s r u = some (oQ s r u) := by
 have j1 : d1 r u = some (!r.e.any (jL u)) := by
  unfold d1
  rw [cW r.e.length (fun i => (if jL u (r.e.getD i default) = true then some i else none).map (fun _ : Nat => false)) () (fun i hi => by
   unfold ib
   rw [iP (ltI hi), iP (inI hi)]
   simp only [tN]
   unfold jL
   obtain ⟨p, hp⟩ : ∃ p, r.e.getD i default = p := ⟨_, rfl⟩
   simp only [hp]
   by_cases h1 : p.v = u
   ·rw [iP h1]
    by_cases h2 : p.op = 8
    ·rw [iP h2, iP (by simp only [h1, h2]; simp)]; rfl
    ·rw [iN h2]
     by_cases h3 : p.op = 3
     ·rw [iP h3]
      by_cases h4 : p.n = 0
      ·rw [iN (not_not_intro h4), iN (by simp only [h1, h2, h3, h4]; simp), wrs i (by omega)]; rfl
      ·rw [iP h4, iP (by simp only [h1, h3]; simp; exact h4)]; rfl
     ·rw [iN h3, iN (by simp only [h1]; simp [h2, h3]), wrs i (by omega)]; rfl
   ·rw [iN h1, iN (by simp [h1]), wrs i (by omega)]; rfl) (by unfold ib; rw [iN (bi _)])]
  have hm : d2 r.e.length (fun i => (if jL u (r.e.getD i default) = true then some i else none).map (fun _ : Nat => false)) () =
    (match d2 r.e.length (fun i => if jL u (r.e.getD i default) = true then some i else none) () with | .inl t => .inl t | .inr _ => .inr false) := by
   unfold d2
   have : (List.range r.e.length).findSome? (fun i => (if jL u (r.e.getD i default) = true then some i else none).map (fun _ : Nat => false)) =
     ((List.range r.e.length).findSome? (fun i => if jL u (r.e.getD i default) = true then some i else none)).map (fun _ : Nat => false) := by
    rw [List.map_findSome?]; rfl
   rw [this]
   cases (List.range r.e.length).findSome? (fun i => if jL u (r.e.getD i default) = true then some i else none) <;> rfl
  rw [hm]
  rcases sU r.e (jL u) with ⟨h1, h2⟩ | ⟨i, hi, h1, h2⟩
  ·rw [h1, h2]; rfl
  ·rw [h1, h2]; rfl
 have rest : (if ¬ ((s.vars.getD r.out_.toNat default).n) = ((s.vars.getD u.toNat default).n) then (some false) else ((kD r.a u).bind fun y5 => if y5 = true then (some false) else (d1 r u))) =
   some ((s.vars.getD u.toNat default).n == (s.vars.getD r.out_.toNat default).n && !r.a.contains u && !r.e.any (jL u)) := by
  by_cases h1 : (s.vars.getD r.out_.toNat default).n = (s.vars.getD u.toNat default).n
  ·rw [iN (not_not_intro h1), n5 _ _ (by omega)]
   simp only [bSq]
   by_cases h2 : r.a.contains u = true
   ·rw [iP h2, h2]; simp
   ·rw [iN h2, j1, h1]; simp only [Bool.not_eq_true] at h2; rw [h2]; simp
  ·rw [iP h1]
   have : ¬ (s.vars.getD u.toNat default).n = (s.vars.getD r.out_.toNat default).n := fun h => h1 h.symm
   rw [show ((s.vars.getD u.toNat default).n == (s.vars.getD r.out_.toNat default).n) = false from by simpa using this]
   rfl
 unfold iM oQ
 have ho' : 0 ≤ r.out_ ∧ r.out_ < (s.vars.length : Int) := ho
 have hu' : 0 ≤ u ∧ u < (s.vars.length : Int) := hu
 by_cases h14 : r.op = 14
 ·rw [iN (not_not_intro h14), iP ⟨ho', hu'⟩, rest, h14]; simp
 ·rw [iP h14]
  by_cases h16 : r.op = 16
  ·rw [iN (not_not_intro h16), iP ⟨ho', hu'⟩, rest, h16]; simp
  ·rw [iP h16]; simp [h14, h16]
end Pam
namespace Pam
open Go
def atV (l : List Int) (v : Int) : Int := l.getD v.toNat default
def bm (s : ab) (v : Int) : Int := dB (s.vars.getD v.toNat default).n
noncomputable def spV (s : ab) (v : Int) : am := (aZ s).getD v.toNat default
def er (s : ab) (by_ at_ : List Int) (v x u : Int) : Prop :=
  x + bm s v ≤ atV at_ u ∨ atV at_ u + bm s u ≤ x ∨ (spV s u).to < (spV s v).from_ ∨
    ((spV s u).to = (spV s v).from_ ∧ (spV s u).from_ < (spV s v).from_ ∧ x = atV at_ u ∧ 0 ≤ atV by_ v ∧ oQ s (s.rules.getD (atV by_ v).toNat default) u = true)
noncomputable instance (s : ab) (by_ at_ : List Int) (v x u : Int) : Decidable (er s by_ at_ v x u) := inferInstanceAs (Decidable (_ ∨ _ ∨ _ ∨ (_ ∧ _ ∧ _ ∧ _ ∧ _)))
theorem et {s : ab} (g : li s) {v : Int} (h : inV s v) : 1 ≤ bm s v ∧ bm s v ≤ 300 := by
  refine lj g (v := v.toNat) ?_
  unfold inV at h; omega
def tU (s : ab) (l : List Int) : Prop := l.length = s.vars.length ∧ ∀ v, inV s v → atV l v < (s.rules.length : Int)
theorem xz {s : ab} (g : eq s) {by_ at_ keep done : List Int} {c v x u : Int} (hv : inV s v) (hu : inV s u) (hb : tU s by_) (ha : at_.length = s.vars.length)
    (hx : 0 ≤ x ∧ x ≤ 100000) (hat : -1 ≤ atV at_ u ∧ atV at_ u ≤ 100000) :
    fm v x u s.vars s.in_ s.out_ s.rules (aZ s) c done by_ at_ keep = some (decide (er s by_ at_ v x u)) := by
  have c1 := et g.h hv
  have c2 := et g.h hu
  have hv' : 0 ≤ v ∧ v < (s.vars.length : Int) := hv
  have hu' : 0 ≤ u ∧ u < (s.vars.length : Int) := hu
  have hu3 : 0 ≤ u ∧ u < (at_.length : Int) := by rw [ha]; exact hu
  have hv3 : 0 ≤ v ∧ v < (by_.length : Int) := by rw [hb.1]; exact hv
  have hs : (0 ≤ u ∧ u < ((aZ s).length : Int)) ∧ (0 ≤ v ∧ v < ((aZ s).length : Int)) := by rw [kf]; exact ⟨hu, hv⟩
  have hby := hb.2 v hv
  have eta : ab.mk s.vars s.in_ s.out_ s.rules = s := rfl
  unfold fm
  rw [iP hv', mN]
  simp only [bSq]
  rw [iP hu', mN]
  simp only [bSq]
  rw [iP hu3, iP hs, iP hv3, eta]
  have w1 : IntKind.wrap .i64 (x + dB (s.vars.getD v.toNat default).n) = x + bm s v := wr (by unfold bm at c1; omega) (by unfold bm at c1; omega)
  have w2 : IntKind.wrap .i64 (at_.getD u.toNat default + dB (s.vars.getD u.toNat default).n) = atV at_ u + bm s u := wr (by unfold bm at c2; unfold atV at hat; omega) (by unfold bm at c2; unfold atV at hat; omega)
  rw [w1, w2]
  show (if x + bm s v ≤ atV at_ u then some true else if atV at_ u + bm s u ≤ x then some true else if (spV s u).to < (spV s v).from_ then some true else
    if (spV s u).to = (spV s v).from_ then if (spV s u).from_ < (spV s v).from_ then if x = atV at_ u then if atV by_ v ≥ 0 then
      if 0 ≤ atV by_ v ∧ atV by_ v < (s.rules.length : Int) then (ji s (s.rules.getD (atV by_ v).toNat default) u).bind fun y3 => some y3 else none
      else some false else some false else some false else some false) = some (decide (er s by_ at_ v x u))
  by_cases h1 : x + bm s v ≤ atV at_ u
  · rw [iP h1, dT (p := er s by_ at_ v x u) (.inl h1)]
  rw [iN h1]
  by_cases h2 : atV at_ u + bm s u ≤ x
  · rw [iP h2, dT (p := er s by_ at_ v x u) (.inr (.inl h2))]
  rw [iN h2]
  by_cases h3 : (spV s u).to < (spV s v).from_
  · rw [iP h3, dT (p := er s by_ at_ v x u) (.inr (.inr (.inl h3)))]
  rw [iN h3]
  by_cases h4 : (spV s u).to = (spV s v).from_
  · rw [iP h4]
    by_cases h5 : (spV s u).from_ < (spV s v).from_
    · rw [iP h5]
      by_cases h6 : x = atV at_ u
      · rw [iP h6]
        by_cases h7 : atV by_ v ≥ 0
        · rw [iP h7, iP ⟨h7, hby⟩]
          have hk : (atV by_ v).toNat < s.rules.length := by omega
          have hr := g.rule hk
          rw [xy hr.1.o hu (by omega) (by have := hr.1.e; omega)]
          show some (oQ s (s.rules.getD (atV by_ v).toNat default) u) = _
          congr 1
          cases ho : oQ s (s.rules.getD (atV by_ v).toNat default) u with
          | true => exact (dT (p := er s by_ at_ v x u) (.inr (.inr (.inr ⟨h4, h5, h6, h7, ho⟩)))).symm
          | false =>
            refine (dF (p := er s by_ at_ v x u) ?_).symm
            rintro (h | h | h | ⟨_, _, _, _, h⟩)
            · exact h1 h
            · exact h2 h
            · exact h3 h
            · rw [ho] at h; cases h
        · rw [iN h7, dF (p := er s by_ at_ v x u)]
          rintro (h | h | h | ⟨_, _, _, h, _⟩)
          · exact h1 h
          · exact h2 h
          · exact h3 h
          · exact h7 h
      · rw [iN h6, dF (p := er s by_ at_ v x u)]
        rintro (h | h | h | ⟨_, _, h, _, _⟩)
        · exact h1 h
        · exact h2 h
        · exact h3 h
        · exact h6 h
    · rw [iN h5, dF (p := er s by_ at_ v x u)]
      rintro (h | h | h | ⟨_, h, _, _, _⟩)
      · exact h1 h
      · exact h2 h
      · exact h3 h
      · exact h5 h
  · rw [iN h4, dF (p := er s by_ at_ v x u)]
    rintro (h | h | h | ⟨h, _, _, _, _⟩)
    · exact h1 h
    · exact h2 h
    · exact h3 h
    · exact h4 h
theorem rK {s : ab} (g : eq s) {by_ at_ keep done : List Int} {c v x : Int} (hv : inV s v) (hd : ∀ u ∈ done, inV s u ∧ -1 ≤ atV at_ u ∧ atV at_ u ≤ 100000) (hb : tU s by_) (ha : at_.length = s.vars.length)
    (hx : 0 ≤ x ∧ x ≤ 100000) (hl : done.length ≤ 1000) :
    bP done v x s.vars s.in_ s.out_ s.rules (aZ s) c by_ at_ keep = some (decide (¬ ∀ u ∈ done, er s by_ at_ v x u)) := by
  have step : ∀ i, i < done.length → eF (done.getD i default) v x s.vars s.in_ s.out_ s.rules (aZ s) c done by_ at_ keep = some (!decide (er s by_ at_ v x (done.getD i default))) := by
    intro i hi
    obtain ⟨h1, h2⟩ := hd _ (br hi)
    unfold eF
    rw [xz g hv h1 hb ha hx h2]
    rfl
  unfold bP du
  rw [cW done.length (fun i => if ¬ er s by_ at_ v x (done.getD i default) then some (i : Int) else none) () (fun i hi => by
    unfold bO
    rw [iP (ltI hi), iP (inI hi)]
    simp only [tN, step i hi, bSq]
    by_cases h : er s by_ at_ v x (done.getD i default)
    · rw [iN (by simp only [h, decide_true]; decide), iN (not_not_intro h), wrs i (by omega)]
    · rw [iP (by simp only [h, decide_false]; decide), iP h]) (by unfold bO; rw [iN (bi _)])]
  rcases b9 done.length (fun i => if ¬ er s by_ at_ v x (done.getD i default) then some (i : Int) else none) () with ⟨e, h⟩ | ⟨i, z, hi, hz, e⟩
  · rw [e]
    have : ∀ u ∈ done, er s by_ at_ v x u := by
      intro u hu
      obtain ⟨i, hi, rfl⟩ := List.mem_iff_getElem.1 hu
      have := h i hi
      have e2 : done.getD i default = done[i] := by simp [List.getD, hi]
      rw [e2] at this
      refine Classical.byContradiction fun hc => ?_
      rw [iP hc] at this
      cases this
    rw [dF (not_not_intro this)]
    rfl
  · rw [e]
    have hn : ¬ er s by_ at_ v x (done.getD i default) := fun hc => by rw [iN (not_not_intro hc)] at hz; cases hz
    rw [iP hn] at hz
    simp only [sJ] at hz
    rw [dT (p := ¬ ∀ u ∈ done, er s by_ at_ v x u) (fun h => hn (h _ (br hi))), ← hz]
    simp only [bSq, Sum.elim_inr]
    simp
theorem ra {s : ab} (g : eq s) {by_ at_ keep done : List Int} {c v fr : Int} (hv : inV s v) (hd : ∀ u ∈ done, inV s u ∧ -1 ≤ atV at_ u ∧ atV at_ u ≤ 100000) (hb : tU s by_) (ha : at_.length = s.vars.length)
    (hf : 0 ≤ fr ∧ fr ≤ 6000) (hl : done.length ≤ 900) (hc : 0 ≤ c ∧ c ≤ 6000) :
    ∃ r, bz v fr s.vars s.in_ s.out_ s.rules (aZ s) c by_ at_ keep done = some r ∧
      ((r.1 = false ∧ ∀ x, fr ≤ x → x + bm s v ≤ 6000 → ¬ ∀ u ∈ done, er s by_ at_ v x u) ∨
       ∃ x, fr ≤ x ∧ x + bm s v ≤ 6000 ∧ (∀ u ∈ done, er s by_ at_ v x u) ∧ (∀ y, fr ≤ y → y < x → ¬ ∀ u ∈ done, er s by_ at_ v y u) ∧
        r = (true, if x + bm s v > c then x + bm s v else c, at_.set v.toNat x, done ++ [v])) := by
  have c1 := et g.h hv
  have hv' : 0 ≤ v ∧ v < (s.vars.length : Int) := hv
  have hva : 0 ≤ v ∧ v < (at_.length : Int) := by rw [ha]; exact hv
  obtain ⟨K, hK⟩ : ∃ K : Nat, K = (6000 - bm s v + 1 - fr).toNat := ⟨_, rfl⟩
  have hkI : ∀ i : Nat, i < K ↔ fr + (i : Int) + bm s v ≤ 6000 := by intro i; omega
  have he : bz v fr s.vars s.in_ s.out_ s.rules (aZ s) c by_ at_ keep done =
      some (match d2 K (fun i => if ∀ u ∈ done, er s by_ at_ v (fr + (i : Int)) u then some (true, (if fr + (i : Int) + bm s v > c then fr + (i : Int) + bm s v else c), at_.set v.toNat (fr + (i : Int)), done ++ [v]) else none) () with
        | .inl _ => (false, c, at_, done) | .inr z => z) := by
    unfold bz
    rw [iP hv', mN]
    simp only [bSq]
    have hloop := o9 (S := Int) (T := Unit) (Z := Bool × Int × List Int × List Int) (fun i => fr + (i : Int)) (body := fun x4 => cA v s.vars s.in_ s.out_ s.rules (aZ s) c by_ at_ keep done (bm s v) x4) K
      (fun i => if ∀ u ∈ done, er s by_ at_ v (fr + (i : Int)) u then some (true, (if fr + (i : Int) + bm s v > c then fr + (i : Int) + bm s v else c), at_.set v.toNat (fr + (i : Int)), done ++ [v]) else none) ()
      (by
        intro i hi
        have h6 := (hkI i).1 hi
        unfold cA
        have hcon := rK g (keep := keep) (c := c) (x := fr + (i : Int)) hv hd hb ha ⟨by omega, by omega⟩ (by omega)
        rw [wr (n := fr + (i : Int) + bm s v) (by omega) (by omega), iP h6, hcon]
        simp only [bSq]
        by_cases h : ∀ u ∈ done, er s by_ at_ v (fr + (i : Int)) u
        · rw [iN (by rw [decide_eq_true_iff]; exact not_not_intro h), iP hva, iP (oO _ (by omega)), iP h]
          rfl
        · rw [iP (dT h), iN h, wr (by omega) (by omega)]
          simp only [sJ, Sum.inl.injEq]
          omega)
      (by
        unfold cA
        have h6 : ¬ fr + (K : Int) + bm s v ≤ 6000 := fun h => by have := (hkI K).2 h; omega
        have hK2 : (K : Int) ≤ 6000 := by omega
        rw [wr (n := fr + (K : Int) + bm s v) (by omega) (by omega), iN h6])
    have e0 : fr + ((0 : Nat) : Int) = fr := by omega
    simp only [e0] at hloop
    show (aU (fun x4 => cA v s.vars s.in_ s.out_ s.rules (aZ s) c by_ at_ keep done (bm s v) x4) fr).bind _ = _
    rw [hloop]
    simp only [bSq]
    cases d2 K (fun i => if ∀ u ∈ done, er s by_ at_ v (fr + (i : Int)) u then some (true, (if fr + (i : Int) + bm s v > c then fr + (i : Int) + bm s v else c), at_.set v.toNat (fr + (i : Int)), done ++ [v]) else none) () with
    | inl t => rfl
    | inr z => rfl
  refine ⟨_, he, ?_⟩
  rcases wq K (fun i => if ∀ u ∈ done, er s by_ at_ v (fr + (i : Int)) u then some (true, (if fr + (i : Int) + bm s v > c then fr + (i : Int) + bm s v else c), at_.set v.toNat (fr + (i : Int)), done ++ [v]) else none) () with ⟨e, h⟩ | ⟨i, z, hi, hz, hmin, e⟩
  · rw [e]
    refine .inl ⟨rfl, fun x h1 h2 h3 => ?_⟩
    have hx : fr + ((x - fr).toNat : Int) = x := by omega
    have := h (x - fr).toNat ((hkI _).2 (by omega))
    simp only [hx] at this
    rw [iP h3] at this
    cases this
  · rw [e]
    split at hz
    · rename_i hfree
      simp only [sJ] at hz
      refine .inr ⟨fr + (i : Int), by omega, (hkI i).1 hi, hfree, fun y h1 h2 h3 => ?_, hz.symm⟩
      have hy : fr + ((y - fr).toNat : Int) = y := by omega
      have := hmin (y - fr).toNat (by omega)
      simp only [hy] at this
      rw [iP h3] at this
      cases this
    · cases hz
end Pam
namespace Pam
open Go
theorem sV {S O : Type} {body : S → Option (S ⊕ O)} (n : Nat) (I : Nat → S → Prop) (Q : O → Prop)
  (step : ∀ i s, i < n → I i s → ∃ r, body s = some r ∧ (match r with | .inl s' => I (i + 1) s' | .inr o => Q o))
  (fin : ∀ s, I n s → ∃ o, body s = some (.inr o) ∧ Q o) : ∀ s0, I 0 s0 → ∃ o, aU body s0 = some o ∧ Q o := by
 have key : ∀ (k i : Nat) (s : S), i + k = n → I i s → ∃ o, aU body s = some o ∧ Q o := by
  intro k
  induction k with
  | zero =>
   intro i s hi h
   have : i = n := by omega
   subst this
   obtain ⟨o, h1, h2⟩ := fin s h
   exact ⟨o, dH h1, h2⟩
  | succ k ih =>
   intro i s hi h
   obtain ⟨r, h1, h2⟩ := step i s (by omega) h
   cases r with
   | inl s' => rw [gM h1]; exact ih (i + 1) s' (by omega) h2
   | inr o => exact ⟨o, dH h1, h2⟩
 exact fun s0 h => key n 0 s0 (by omega) h
theorem wu {s : ab} (h : (jm s).code = 0) : s.in_.Nodup := by
 have h0 : (mt s).code = 0 := by
  unfold jm at h
  refine Classical.byContradiction fun hc => ?_
  rw [iP hc] at h
  exact hc h
 unfold mt at h0
 split at h0
 ·cases h0
 rcases b9 s.vars.length (pS s) () with ⟨e1, _⟩ | ⟨j, z, hj, hf, e⟩
 ·simp only [e1] at h0
  rcases b9 s.in_.length (inF s) () with ⟨e2, h2⟩ | ⟨j, z, hj, hf, e⟩
  ·unfold List.Nodup
   rw [List.pairwise_iff_getElem]
   intro i j hi hj hij he
   have := h2 j hj
   unfold inF at this
   split at this
   ·cases this
   ·have e3 : s.in_.getD j default = s.in_[j] := by simp [List.getD, hj]
    rw [iP] at this
    ·cases this
    ·rw [List.contains_iff_mem, e3, ← he]
     exact List.mem_take_iff_getElem.2 ⟨i, by omega, rfl⟩
  ·simp only [e] at h0
   unfold inF at hf
   split at hf
   ·simp only [sJ] at hf; subst hf; cases h0
   ·split at hf
    ·simp only [sJ] at hf; subst hf; cases h0
    ·cases hf
 ·simp only [e] at h0
  unfold pS va at hf
  split at hf
  ·simp only [sJ] at hf; subst hf; cases h0
  ·split at hf
   ·simp only [sJ] at hf; subst hf; cases h0
   ·cases hf
def bQ (s : ab) : Nat → Int
 | 0 => 1
 | i + 1 => if (s.rules.getD i default).op = 13 then bQ s i + bm s (s.rules.getD i default).out_ else bQ s i
def eM (s : ab) (i : Nat) : List Int := cw i (fun j => if (s.rules.getD j default).op = 13 then bQ s j else -1)
def kg (s : ab) : Nat → Nat → Int
 | 0, _ => -1
 | i + 1, v => if (s.rules.getD i default).out_ = (v : Int) then (i : Int) else kg s i v
def gc (s : ab) (i : Nat) : List Int := cw s.vars.length (kg s i)
theorem rb (s : ab) (v : Nat) : ∀ i, kg s i v < (i : Int)
 | 0 => by unfold kg; omega
 | i + 1 => by
  have := rb s v i
  unfold kg
  split <;> omega
theorem kh {s : ab} (g : eq s) : ∀ i, i ≤ s.rules.length → 1 ≤ bQ s i ∧ bQ s i ≤ 1 + 300 * (i : Int)
 | 0, _ => by unfold bQ; omega
 | i + 1, hi => by
  have := kh g i (by omega)
  have := et g.h (g.rule (i := i) (by omega)).1.o
  unfold bQ
  split <;> omega
theorem uw (s : ab) : tU s (gc s s.rules.length) := by
 refine ⟨iA _ _, fun v hv => ?_⟩
 obtain ⟨h1, h2⟩ := vI v s hv
 unfold atV gc
 rw [kb h2]
 exact rb s _ _
theorem ux {s : ab} (g : eq s) : aU (fun (x : List Int × Int × List Int × Int) => cJ s x.1 x.2.1 x.2.2.1 x.2.2.2) (List.replicate s.vars.length (-1), 1, [], 0) =
  some (gc s s.rules.length, bQ s s.rules.length, eM s s.rules.length) := by
 have nr := g.h.nr
 have := d3 (S := List Int × Int × List Int × Int) (T := List Int × Int × List Int) (fun i => (gc s i, bQ s i, eM s i, (i : Int))) (body := fun x => cJ s x.1 x.2.1 x.2.2.1 x.2.2.2) s.rules.length
  (gc s s.rules.length, bQ s s.rules.length, eM s s.rules.length)
  (by
   intro i hi
   have ho := (g.rule hi).1.o
   obtain ⟨h1, h2⟩ := vI _ s ho
   have hk := kh g i (by omega)
   have hc := et g.h ho
   have ho' : 0 ≤ (s.rules.getD i default).out_ ∧ (s.rules.getD i default).out_ < (s.vars.length : Int) := ho
   have hby : (gc s i).set (s.rules.getD i default).out_.toNat (i : Int) = gc s (i + 1) := by
    unfold gc
    rw [mw]
    refine eJ fun v hv => ?_
    show _ = (if (s.rules.getD i default).out_ = (v : Int) then (i : Int) else kg s i v)
    by_cases e : v = (s.rules.getD i default).out_.toNat
    ·rw [iP e, iP (by omega)]
    ·rw [iN e, iN (by omega)]
   have j4 : ∀ c k : Int, fI s (gc s i) (eM s i) (i : Int) c k = some (.inl (gc s (i + 1), c, eM s i ++ [k], ((i + 1 : Nat) : Int))) := by
    intro c k
    unfold fI
    have : (eM s i).length = i := iA _ _
    rw [iP (oO _ (by omega)), wrs i (by omega)]
    simp only [tN]
    rw [hby]
    rfl
   show cJ s (gc s i) (bQ s i) (eM s i) (i : Int) = some (.inl (gc s (i + 1), bQ s (i + 1), eM s (i + 1), ((i + 1 : Nat) : Int)))
   unfold cJ
   rw [iP (ltI hi), iP (inI hi)]
   simp only [tN]
   have hlen : (gc s i).length = s.vars.length := iA _ _
   rw [hlen, iP ho']
   have ek : eM s (i + 1) = eM s i ++ [if (s.rules.getD i default).op = 13 then bQ s i else -1] := qU _ _
   by_cases h13 : (s.rules.getD i default).op = 13
   ·rw [iP h13, iP ho', mN]
    simp only [bSq]
    rw [wr (by unfold bm at hc; omega) (by unfold bm at hc; omega), j4, ek, iP h13]
    show _ = some (Sum.inl (gc s (i + 1), (if (s.rules.getD i default).op = 13 then bQ s i + bm s (s.rules.getD i default).out_ else bQ s i), eM s i ++ [bQ s i], ((i + 1 : Nat) : Int)))
    rw [iP h13]
    rfl
   ·rw [iN h13, j4, ek, iN h13]
    show _ = some (Sum.inl (gc s (i + 1), (if (s.rules.getD i default).op = 13 then bQ s i + bm s (s.rules.getD i default).out_ else bQ s i), eM s i ++ [-1], ((i + 1 : Nat) : Int)))
    rw [iN h13])
  (by
   show cJ s _ _ _ _ = _
   unfold cJ
   rw [iN (bi _)])
 have e0 : gc s 0 = List.replicate s.vars.length (-1) := by rw [sG]; rfl
 rw [e0] at this
 exact this
structure tV (s : ab) (by_ : List Int) (fr : Int) (D : List Int) (c : Int) (at_ : List Int) : Prop where
 len : at_.length = s.vars.length
 out : ∀ v, inV s v → ¬ v ∈ D → atV at_ v = -1
 ins : ∀ v ∈ D, inV s v ∧ fr ≤ atV at_ v ∧ atV at_ v + bm s v ≤ c
 lo : fr ≤ c
 hi : c ≤ 6000
 sum : c ≤ fr + km s D
 pair : D.Pairwise (fun u v => er s by_ at_ v (atV at_ v) u)
theorem rL {s : ab} {l : List Int} {u v : Int} (x : Int) (hl : l.length = s.vars.length) (hu : inV s u) (hv : inV s v) : atV (l.set v.toNat x) u = if u = v then x else atV l u := by
 unfold inV at hu hv
 unfold atV
 by_cases e : u = v
 ·subst e
  rw [iP rfl]
  simp [List.getD, List.getElem?_set_self (show u.toNat < l.length by omega)]
 ·rw [iN e]
  have : v.toNat ≠ u.toNat := by omega
  simp [List.getD, List.getElem?_set_ne this]
theorem sW {s : ab} (g : eq s) {by_ at_ keep D : List Int} {c v fr : Int} (hb : tU s by_) (hf : 0 ≤ fr) (h : tV s by_ fr D c at_) (hv : inV s v) (hn : ¬ v ∈ D) (hl : D.length ≤ 900) :
  ∃ r, bz v fr s.vars s.in_ s.out_ s.rules (aZ s) c by_ at_ keep D = some r ∧ (r.1 = false ∨ ∃ c' at', r = (true, c', at', D ++ [v]) ∧ tV s by_ fr (D ++ [v]) c' at') := by
 have hd : ∀ u ∈ D, inV s u ∧ -1 ≤ atV at_ u ∧ atV at_ u ≤ 100000 := by
  intro u hu
  obtain ⟨h1, h2, h3⟩ := h.ins u hu
  have := et g.h h1
  have := h.hi
  exact ⟨h1, by omega, by omega⟩
 have hlo := h.lo
 have hhi := h.hi
 obtain ⟨r, hr, hc⟩ := ra g (keep := keep) (c := c) hv hd hb h.len ⟨hf, by omega⟩ hl ⟨by omega, by omega⟩
 refine ⟨r, hr, ?_⟩
 rcases hc with ⟨hc, _⟩ | ⟨x, h1, h2, h3, h4, rfl⟩
 ·exact .inl hc
 refine .inr ⟨_, _, rfl, ?_⟩
 have cv := et g.h hv
 have hxc : x ≤ c := by
  refine Classical.byContradiction fun hx => h4 c h.lo (by omega) fun u hu => ?_
  exact .inr (.inl (h.ins u hu).2.2)
 have hself : atV (at_.set v.toNat x) v = x := by rw [rL x h.len hv hv, iP rfl]
 have hother : ∀ u ∈ D, atV (at_.set v.toNat x) u = atV at_ u := fun u hu => by
  rw [rL x h.len (h.ins u hu).1 hv, iN (fun e => hn (by rw [← e]; exact hu))]
 refine ⟨by simp [h.len], ?_, ?_, ?_, ?_, ?_, ?_⟩
 ·intro u hu hun
  have e1 : u ≠ v := fun e => hun (by simp [e])
  rw [rL x h.len hu hv, iN e1]
  exact h.out u hu fun hc => hun (by simp [hc])
 ·intro u hu
  rcases List.mem_append.1 hu with hu | hu
  ·obtain ⟨a1, a2, a3⟩ := h.ins u hu
   rw [hother u hu]
   refine ⟨a1, a2, ?_⟩
   split <;> omega
  ·simp only [List.mem_singleton] at hu
   subst hu
   rw [hself]
   refine ⟨hv, h1, ?_⟩
   split <;> omega
 ·split <;> omega
 ·split <;> omega
 ·rw [mM]
  have := h.sum
  have e : dB (s.vars.getD v.toNat default).n = bm s v := rfl
  rw [e]
  split <;> omega
 ·rw [List.pairwise_append]
  refine ⟨?_, List.pairwise_singleton _ _, ?_⟩
  ·refine h.pair.imp_of_mem fun {a b} ha hb' hp => ?_
   unfold er at hp ⊢
   rw [hother a ha, hother b hb']
   exact hp
  ·intro a ha b hb'
   simp only [List.mem_singleton] at hb'
   subst hb'
   have := h3 a ha
   unfold er at this ⊢
   rw [hother a ha, hself]
   exact this
end Pam
namespace Pam
open Go
theorem wv {l : List Int} (h : l.Nodup) {i : Nat} (hi : i < l.length) : ¬ l.getD i default ∈ l.take i := by
 have h1 : (l.take (i + 1)).Nodup := h.sublist (List.take_sublist _ _)
 rw [cN _ hi, List.nodup_append] at h1
 intro hc
 exact h1.2.2 _ hc _ (by simp) rfl
structure tW (s : ab) (p : dk) : Prop where
 keep : p.keep = eM s s.rules.length
 lay : tV s (gc s s.rules.length) (bQ s s.rules.length) (bw s s.rules.length) p.cells p.at_
theorem ww (s : ab) {i : Nat} (hi : i ≤ s.rules.length) : (bw s i).length = s.in_.length + i := by
 unfold bw
 simp [hi]
theorem uy (s : ab) : ∃ p f, fJ s = some (p, f) ∧ (f.code ≠ 0 ∨ (eq s ∧ jp s ∧ f = au.mk 0 0 ∧ tW s p)) := by
 unfold fJ
 rw [sS]
 simp only [bSq]
 by_cases hc : (jm s).code = 0
 ·by_cases hs : jp s
  ·simp only [iP hc, iP hs, not_true_eq_false, if_false]
   obtain ⟨g, _⟩ := nu hc
   have hnd := wu hc
   have nv := g.h.nv
   have nr := g.h.nr
   have ni := g.h.ni
   rw [q9 nv]
   simp only [bSq]
   have l3 := ux g
   show ∃ p f, (aU (fun (x : List Int × Int × List Int × Int) => cJ s x.1 x.2.1 x.2.2.1 x.2.2.2) (List.replicate s.vars.length (-1), 1, [], 0)).bind
    (fun z => df s (aZ s, au.mk 0 0) (List.replicate s.vars.length (-1)) z.1 z.2.1 z.2.2) = some (p, f) ∧ _
   rw [l3]
   simp only [bSq]
   have hk := kh g s.rules.length (Nat.le_refl _)
   have hb := uw s
   unfold df
   by_cases hm : bQ s s.rules.length > 6000
   ·rw [iP hm]; exact ⟨_, _, rfl, .inl (by decide)⟩
   ·rw [iN hm]
    obtain ⟨o, h1, h2⟩ := sV (S := Int × List Int × List Int × Int) (O := (Int × List Int × List Int) ⊕ (dk × au))
     (body := fun x => bJ s (aZ s, au.mk 0 0) (gc s s.rules.length) (bQ s s.rules.length) (eM s s.rules.length) x.1 x.2.1 x.2.2.1 x.2.2.2) s.in_.length
     (fun i q => q.2.2.2 = (i : Int) ∧ q.2.2.1 = s.in_.take i ∧ tV s (gc s s.rules.length) (bQ s s.rules.length) (s.in_.take i) q.1 q.2.1)
     (fun o => match o with
      | .inl q => q.2.2 = s.in_ ∧ tV s (gc s s.rules.length) (bQ s s.rules.length) s.in_ q.1 q.2.1
      | .inr q => q.2.code ≠ 0)
     (by
      rintro i ⟨c, at_, done, x⟩ hi ⟨e1, e2, h⟩
      simp only at e1 e2 h
      subst e1 e2
      have hv : inV s (s.in_.getD i default) := g.h.i _ (br hi)
      obtain ⟨r, hr, hcs⟩ := sW g (keep := eM s s.rules.length) hb (by omega) h hv (wv hnd hi) (by simp; omega)
      show ∃ r, bJ s (aZ s, au.mk 0 0) (gc s s.rules.length) (bQ s s.rules.length) (eM s s.rules.length) c at_ (s.in_.take i) (i : Int) = some r ∧ _
      unfold bJ
      rw [iP (ltI hi), iP (inI hi)]
      simp only [tN]
      rw [hr]
      simp only [bSq]
      rcases hcs with hcs | ⟨c', at', rfl, h'⟩
      ·rw [iN (by rw [hcs]; decide)]
       exact ⟨_, rfl, by show (7 : Int) ≠ 0; decide⟩
      ·rw [iP rfl, wrs i (by omega)]
       rw [← cN _ hi] at h' ⊢
       exact ⟨_, rfl, rfl, rfl, h'⟩)
     (by
      rintro ⟨c, at_, done, x⟩ ⟨e1, e2, h⟩
      simp only at e1 e2 h
      subst e1 e2
      rw [List.take_length] at h ⊢
      refine ⟨.inl (c, at_, s.in_), ?_, rfl, h⟩
      show bJ s _ _ _ _ c at_ s.in_ (s.in_.length : Int) = _
      unfold bJ
      rw [iN (bi _)])
     (bQ s s.rules.length, List.replicate s.vars.length (-1), [], 0)
     ⟨rfl, rfl, ⟨by simp, fun v hv _ => by
       unfold atV
       unfold inV at hv
       show ((List.replicate s.vars.length (-1 : Int))[v.toNat]?).getD default = -1
       rw [List.getElem?_replicate, iP (by omega)]
       rfl
      , fun v hv => by simp at hv, Int.le_refl _, by omega, by simp [km], by simp⟩⟩
    show ∃ p f, (aU (fun (x : Int × List Int × List Int × Int) => bJ s (aZ s, au.mk 0 0) (gc s s.rules.length) (bQ s s.rules.length) (eM s s.rules.length) x.1 x.2.1 x.2.2.1 x.2.2.2) _).bind _ = some (p, f) ∧ _
    rw [h1]
    simp only [bSq]
    match o, h2 with
    | .inr (p, f), h2 => exact ⟨p, f, rfl, .inl h2⟩
    | .inl (c, at_, done), ⟨e, h⟩ =>
     simp only at e h
     subst e
     simp only [Sum.elim_inl]
     unfold fH
     obtain ⟨o, h1, h2⟩ := sV (S := Int × List Int × List Int × Int) (O := (Int × List Int × List Int) ⊕ (dk × au))
      (body := fun x => bI s (aZ s, au.mk 0 0) (gc s s.rules.length) (bQ s s.rules.length) (eM s s.rules.length) x.1 x.2.1 x.2.2.1 x.2.2.2) s.rules.length
      (fun i q => q.2.2.2 = (i : Int) ∧ q.2.2.1 = bw s i ∧ tV s (gc s s.rules.length) (bQ s s.rules.length) (bw s i) q.1 q.2.1)
      (fun o => match o with
       | .inl q => q.2.2 = bw s s.rules.length ∧ tV s (gc s s.rules.length) (bQ s s.rules.length) (bw s s.rules.length) q.1 q.2.1
       | .inr q => q.2.code ≠ 0)
      (by
       rintro i ⟨c, at_, done, x⟩ hi ⟨e1, e2, h⟩
       simp only at e1 e2 h
       subst e1 e2
       have hv : inV s (s.rules.getD i default).out_ := (g.rule hi).1.o
       obtain ⟨r, hr, hcs⟩ := sW g (keep := eM s s.rules.length) hb (by omega) h hv (q7 g hi) (by rw [ww s (by omega)]; omega)
       show ∃ r, bI s (aZ s, au.mk 0 0) (gc s s.rules.length) (bQ s s.rules.length) (eM s s.rules.length) c at_ (bw s i) (i : Int) = some r ∧ _
       unfold bI
       rw [iP (ltI hi), iP (inI hi)]
       simp only [tN]
       rw [hr]
       simp only [bSq]
       rcases hcs with hcs | ⟨c', at', rfl, h'⟩
       ·rw [iN (by rw [hcs]; decide)]
        exact ⟨_, rfl, by show (7 : Int) ≠ 0; decide⟩
       ·rw [iP rfl, wrs i (by omega)]
        rw [← lJ s hi] at h' ⊢
        exact ⟨_, rfl, rfl, rfl, h'⟩)
      (by
       rintro ⟨c, at_, done, x⟩ ⟨e1, e2, h⟩
       simp only at e1 e2 h
       subst e1 e2
       refine ⟨.inl (c, at_, bw s s.rules.length), ?_, rfl, h⟩
       show bI s _ _ _ _ c at_ _ (s.rules.length : Int) = _
       unfold bI
       rw [iN (bi _)])
      (c, at_, s.in_, 0)
      ⟨rfl, by simp [bw], by simpa [bw] using h⟩
     show ∃ p f, (aU (fun (x : Int × List Int × List Int × Int) => bI s (aZ s, au.mk 0 0) (gc s s.rules.length) (bQ s s.rules.length) (eM s s.rules.length) x.1 x.2.1 x.2.2.1 x.2.2.2) _).bind _ = some (p, f) ∧ _
     rw [h1]
     simp only [bSq]
     match o, h2 with
     | .inr (p, f), h2 => exact ⟨p, f, rfl, .inl h2⟩
     | .inl (c, at_, done), ⟨e, h⟩ =>
      simp only at e h
      subst e
      refine ⟨_, _, rfl, .inr ⟨g, hs, rfl, rfl, h⟩⟩
  ·simp only [iP hc, iN hs]
   exact ⟨_, _, rfl, .inl (by decide)⟩
 ·simp only [iN hc]
  rw [iP hc]
  exact ⟨_, _, rfl, .inl hc⟩
end Pam
namespace Pam
open Go
theorem qx (l : List Int) (hl : l.length ≤ 9000000) : ip l l = some true := by
 unfold ip
 rw [iN (by simp)]
 rw [cW l.length (fun _ => none) () (fun i hi => by
  simp only [gH, tN]
  rw [iP (ltI hi), iP ⟨inI hi, inI hi⟩, iN (by simp), wrs i (by omega)]) (by simp [gH]), iO (fun _ _ => rfl)]
 rfl
end Pam
namespace Pam
open Go
theorem rc {s : ab} (g : eq s) {by_ at_ keep done : List Int} {c v fr : Int} (hv : inV s v) (hd : ∀ u ∈ done, inV s u ∧ -1 ≤ atV at_ u ∧ atV at_ u ≤ 100000) (hb : tU s by_) (ha : at_.length = s.vars.length)
  (hf : 0 ≤ fr ∧ fr + bm s v ≤ 6000) (hl : done.length ≤ 900) (hc : 0 ≤ c ∧ c ≤ 6000) (h : ∀ u ∈ done, er s by_ at_ v fr u) :
  bz v fr s.vars s.in_ s.out_ s.rules (aZ s) c by_ at_ keep done = some (true, if fr + bm s v > c then fr + bm s v else c, at_.set v.toNat fr, done ++ [v]) := by
 have c1 := et g.h hv
 obtain ⟨r, hr, h1⟩ := ra g (keep := keep) (c := c) hv hd hb ha (fr := fr) ⟨hf.1, by omega⟩ hl hc
 rw [hr]
 rcases h1 with ⟨_, h2⟩ | ⟨x, h1, h2, h3, h4, rfl⟩
 ·exact absurd h (h2 fr (Int.le_refl _) hf.2)
 ·have : x = fr := Classical.byContradiction fun hx => h4 fr (Int.le_refl _) (by omega) h
  rw [this]
def sP : ab := ab.mk (lit ([(ap.mk 105 4), (ap.mk 105 4)] : List ap)) (lit ([0] : List Int)) (lit ([1] : List Int)) (lit ([(ae.mk 14 0 1 0 [] (lit ([(ax.mk 3 0 0 0), (ax.mk 5 13 0 0)] : List ax)))] : List ae))
theorem wx : gj sP := ⟨by unfold okE; decide, by decide⟩
theorem ym : aD sP (ae.mk 14 0 1 0 [] (lit ([(ax.mk 3 0 0 0), (ax.mk 5 13 0 0)] : List ax))) = some true := by
 have hc := n7 (c := 0) (r := ae.mk 14 0 1 0 [] (lit ([(ax.mk 3 0 0 0), (ax.mk 5 13 0 0)] : List ax))) (o := vOf sP 1) (n := 4) wx (by unfold oM; decide) (by decide) (by unfold okE; decide) (by decide)
 have ht : pU sP 4 (lit ([(ax.mk 3 0 0 0), (ax.mk 5 13 0 0)] : List ax)) = 105 := by decide
 have h2 : ka sP (lit ([(ax.mk 3 0 0 0), (ax.mk 5 13 0 0)] : List ax)) 4 = some 105 := by rw [← ht]; exact hc.2
 rw [cY (by decide) (by decide) (by decide)]
 unfold aX
 rw [cX]
 simp only [bSq]
 have hcel : d8 4 = some 4 := rfl
 have hv : (sP.vars.getD (1 : Int).toNat default) = ap.mk 105 4 := rfl
 simp only [hv, hcel, bSq, h2]
 decide
theorem wy : kc sP (bw sP 0) (ae.mk 14 0 1 0 [] (lit ([(ax.mk 3 0 0 0), (ax.mk 5 13 0 0)] : List ax))) = 0 := by
 unfold kc
 rw [iN (by decide), iN (by decide), iN (by decide), iN (by decide), iN (by decide), iP ym]
theorem sX : jm sP = au.mk 0 0 := by
 have hl : sP.rules.length = 1 := rfl
 have h0 : (mt sP).code = 0 := by rfl
 unfold jm
 simp only [h0, not_true_eq_false, if_false]
 have e1 : d2 sP.rules.length (kA sP) () = .inl () := iO (fun i hi => by
  have : i = 0 := by omega
  subst this
  unfold kA
  simp only [show kc sP (bw sP 0) (sP.rules.getD 0 default) = 0 from wy, if_true])
 have e2 : d2 sP.rules.length (lh sP) () = .inl () := iO (fun i hi => by
  have : i = 0 := by omega
  subst this
  unfold lh
  rw [iN (by decide)])
 have e3 : d2 sP.out_.length (qw sP) () = .inl () := iO (fun i hi => by
  have : i = 0 := by
   have : sP.out_.length = 1 := rfl
   omega
  subst this
  unfold qw
  rw [iP (by decide)])
 simp only [e1, e2, e3]
theorem vl : jp sP := by decide
theorem yn : ∀ v, ¬ n8 sP v sP.rules.length := by
 rintro v ⟨k, hk, h1, _⟩
 have : k = 0 := by
  have : sP.rules.length = 1 := rfl
  omega
 subst this
 exact absurd h1 (by decide)
theorem wz : spV sP 0 = ⟨-1, 0⟩ := by
 unfold spV aZ
 rw [kb (by decide)]
 unfold gI
 rw [iN (fun h => h.elim (by decide) (yn _))]
 rfl
theorem wA : spV sP 1 = ⟨0, 1⟩ := by
 unfold spV aZ
 rw [kb (by decide)]
 unfold gI
 rw [iP (Or.inl (by decide))]
 rfl
theorem lR : fW = some true := by
 have g : eq sP := (nu (by rw [sX])).1
 have hsp := sS sP
 rw [sX] at hsp
 simp only [vl, if_true] at hsp
 have hb : tU sP (gc sP 1) := uw sP
 have lay0 : bz 0 1 sP.vars sP.in_ sP.out_ sP.rules (aZ sP) 1 (gc sP 1) (List.replicate 2 (-1)) (eM sP 1) [] = some (true, 5, [1, -1], [0]) :=
  rc g (by decide) (by simp) hb (by decide) (by decide) (by decide) (by decide) (by simp)
 have lay1 : bz 1 1 sP.vars sP.in_ sP.out_ sP.rules (aZ sP) 5 (gc sP 1) [1, -1] (eM sP 1) [0] = some (true, 5, [1, 1], [0, 1]) :=
  rc g (by decide) (by decide) hb (by decide) (by decide) (by decide) (by decide) (by
   intro u hu
   simp only [List.mem_singleton] at hu
   subst hu
   refine .inr (.inr (.inr ⟨by rw [wz, wA], by rw [wz, wA]; decide, by decide, by decide, by decide⟩)))
 have hmake : fJ sP = some (dk.mk [1, 1] (eM sP 1) 5, au.mk 0 0) := by
  unfold fJ
  rw [hsp]
  simp only [bSq, not_true_eq_false, if_false]
  rw [q9 (n := sP.vars.length) (by decide)]
  simp only [bSq]
  show (aU (fun (x : List Int × Int × List Int × Int) => cJ sP x.1 x.2.1 x.2.2.1 x.2.2.2) (List.replicate sP.vars.length (-1), 1, [], 0)).bind
    (fun z => df sP (aZ sP, au.mk 0 0) (List.replicate sP.vars.length (-1)) z.1 z.2.1 z.2.2) = _
  rw [ux g]
  simp only [bSq]
  show df sP (aZ sP, au.mk 0 0) (List.replicate 2 (-1)) (gc sP 1) 1 (eM sP 1) = _
  unfold df
  rw [iN (by decide)]
  have l2 : aU (fun (x : Int × List Int × List Int × Int) => bJ sP (aZ sP, au.mk 0 0) (gc sP 1) 1 (eM sP 1) x.1 x.2.1 x.2.2.1 x.2.2.2) (1, List.replicate 2 (-1), [], 0) = some (.inl (5, [1, -1], [0])) := by
   rw [gM (s' := (5, [1, -1], [0], 1)) (by
    show bJ sP _ _ _ _ 1 (List.replicate 2 (-1)) [] 0 = _
    unfold bJ
    rw [iP (by decide), iP (by decide)]
    show (bz 0 1 sP.vars sP.in_ sP.out_ sP.rules (aZ sP) 1 (gc sP 1) (List.replicate 2 (-1)) (eM sP 1) []).bind _ = _
    rw [lay0]
    rfl)]
   refine dH ?_
   show bJ sP _ _ _ _ 5 [1, -1] [0] 1 = _
   unfold bJ
   rw [iN (by decide)]
  have l1 : aU (fun (x : Int × List Int × List Int × Int) => bI sP (aZ sP, au.mk 0 0) (gc sP 1) 1 (eM sP 1) x.1 x.2.1 x.2.2.1 x.2.2.2) (5, [1, -1], [0], 0) = some (.inl (5, [1, 1], [0, 1])) := by
   rw [gM (s' := (5, [1, 1], [0, 1], 1)) (by
    show bI sP _ _ _ _ 5 [1, -1] [0] 0 = _
    unfold bI
    rw [iP (by decide), iP (by decide)]
    show (bz 1 1 sP.vars sP.in_ sP.out_ sP.rules (aZ sP) 5 (gc sP 1) [1, -1] (eM sP 1) [0]).bind _ = _
    rw [lay1]
    rfl)]
   refine dH ?_
   show bI sP _ _ _ _ 5 [1, 1] [0, 1] 1 = _
   unfold bI
   rw [iN (by decide)]
  show (aU (fun (x : Int × List Int × List Int × Int) => bJ sP (aZ sP, au.mk 0 0) (gc sP 1) 1 (eM sP 1) x.1 x.2.1 x.2.2.1 x.2.2.2) (1, List.replicate 2 (-1), [], 0)).bind _ = _
  rw [l2]
  simp only [bSq, Sum.elim_inl]
  unfold fH
  show (aU (fun (x : Int × List Int × List Int × Int) => bI sP (aZ sP, au.mk 0 0) (gc sP 1) 1 (eM sP 1) x.1 x.2.1 x.2.2.1 x.2.2.2) (5, [1, -1], [0], 0)).bind _ = _
  rw [l1]
  rfl
 unfold fW
 show (fJ sP).bind _ = _
 rw [hmake]
 simp only [bSq, if_true]
 show (ip (lit ([1, 1] : List Int)) (lit ([1, 1] : List Int))).bind _ = _
 rw [qx _ (by decide)]
 rfl
end Pam
namespace Pam
open Go
theorem re {A T Z : Type} (P : T → Prop) (f : Nat → A → T → A ⊕ Z) (h : ∀ i a x a', f i a x = .inl a' → P x) : ∀ (l : List T) (i : Nat) (a b : A), j9 f i l a = .inl b → ∀ x ∈ l, P x
 | [], i, a, b, _, x, hx => by cases hx
 | y :: l, i, a, b, he, x, hx => by
  rw [j9] at he
  cases hf : f i a y with
  | inr z => rw [hf] at he; cases he
  | inl a' =>
   rw [hf] at he
   rcases List.mem_cons.1 hx with rfl | hx
   ·exact h _ _ _ _ hf
   ·exact re P f h l _ _ _ he x hx
theorem ox {A T Z : Type} (P : Z → Prop) (f : Nat → A → T → A ⊕ Z) (h : ∀ i a x z, f i a x = .inr z → P z) : ∀ (l : List T) (i : Nat) (a : A) (z : Z), j9 f i l a = .inr z → P z
 | [], i, a, z, he => by cases he
 | y :: l, i, a, z, he => by
  rw [j9] at he
  cases hf : f i a y with
  | inr z' => rw [hf] at he; simp only [Sum.inr.injEq] at he; subst he; exact h _ _ _ _ hf
  | inl a' => rw [hf] at he; exact ox P f h l _ _ _ he
structure wB (s : ab) (m : Nat) : Prop where
 nv : s.vars.length ≤ m
 nr : s.rules.length ≤ m
 ni : s.in_.length ≤ m
 no : s.out_.length ≤ m
 r : ∀ r ∈ s.rules, r.a.length ≤ 100 ∧ r.e.length ≤ 1000
theorem sY (s : ab) (m : Nat) (hm : m ≤ 100000) : ∃ b, dz s (m : Int) = some b ∧ (b = false → wB s m) := by
 unfold dz
 by_cases h1 : (s.vars.length : Int) > m
 ·rw [iP h1]; exact ⟨true, rfl, fun h => by cases h⟩
 rw [iN h1]
 by_cases h2 : (s.rules.length : Int) > m
 ·rw [iP h2]; exact ⟨true, rfl, fun h => by cases h⟩
 rw [iN h2]
 by_cases h3 : (s.in_.length : Int) > m
 ·rw [iP h3]; exact ⟨true, rfl, fun h => by cases h⟩
 rw [iN h3]
 by_cases h4 : (s.out_.length : Int) > m
 ·rw [iP h4]; exact ⟨true, rfl, fun h => by cases h⟩
 rw [iN h4]
 obtain ⟨e1, _⟩ := lG (A := Int) (T := ap) (O := Int) (Z := Bool) (S := Int × Int) (fun a i => (a, i)) (body := fun x => b8 s x.1 x.2) s.vars
  (fun _ a v => if v.n > 1000 then .inr true else .inl (IntKind.wrap .i64 (a + dB v.n))) (fun _ _ => True) (fun a => a) 0 trivial
  (by
   intro i a hi _
   refine ⟨?_, fun _ _ => trivial⟩
   show b8 s a (i : Int) = _
   unfold b8
   rw [iP (ltI hi), iP (inI hi)]
   simp only [tN, ex, bSq]
   rw [wrs i (by omega)]
   by_cases h : (s.vars.getD i default).n > 1000
   ·rw [iP h, iP h]
   ·rw [iN h, iN h])
  (by
   intro a _
   show b8 s a (s.vars.length : Int) = _
   unfold b8
   rw [iN (bi _)])
 show ∃ b, (aU (fun (x : Int × Int) => b8 s x.1 x.2) (0, 0)).bind (Sum.elim (fun z18 => cR s m z18) (fun z19 => some z19)) = some b ∧ _
 rw [e1]
 simp only [bSq]
 cases hE : j9 (fun _ a v => if v.n > 1000 then .inr true else .inl (IntKind.wrap .i64 (a + dB v.n))) 0 s.vars (0 : Int) with
 | inr z =>
  refine ⟨z, rfl, fun hz => ?_⟩
  have := ox (fun z => z = true) _ (fun i a x z h => by
   split at h
   ·simp only [Sum.inr.injEq] at h; exact h.symm
   ·cases h) _ _ _ _ hE
  rw [hz] at this; cases this
 | inl a0 =>
  simp only [Sum.elim_inl]
  unfold cR
  obtain ⟨e2, _⟩ := lG (A := Int) (T := ae) (O := Int) (Z := Bool) (S := Int × Int) (fun a i => (a, i)) (body := fun x => bY s x.1 x.2) s.rules
   (fun _ a r => if (r.a.length : Int) > 100 ∨ (r.e.length : Int) > 1000 ∨ (r.op = 15 ∧ r.n > 1000) then .inr true else .inl (IntKind.wrap .i64 (a + IntKind.wrap .i64 ((r.a.length : Int) + (r.e.length : Int))))) (fun _ _ => True) (fun a => a) a0 trivial
   (by
    intro i a hi _
    refine ⟨?_, fun _ _ => trivial⟩
    show bY s a (i : Int) = _
    unfold bY dK
    rw [iP (ltI hi), iP (inI hi)]
    simp only [tN]
    rw [wrs i (by omega)]
    by_cases h1 : ((s.rules.getD i default).a.length : Int) > 100
    ·rw [iP h1, iP (.inl h1)]
    ·rw [iN h1]
     by_cases h2 : ((s.rules.getD i default).e.length : Int) > 1000
     ·rw [iP h2, iP (.inr (.inl h2))]
     ·rw [iN h2]
      by_cases h3 : (s.rules.getD i default).op = 15
      ·rw [iP h3]
       by_cases h4 : (s.rules.getD i default).n > 1000
       ·rw [iP h4, iP (.inr (.inr ⟨h3, h4⟩))]
       ·rw [iN h4, iN (fun h => h.elim h1 (fun h => h.elim h2 (fun h => h4 h.2)))]
      ·rw [iN h3, iN (fun h => h.elim h1 (fun h => h.elim h2 (fun h => h3 h.1)))])
   (by
    intro a _
    show bY s a (s.rules.length : Int) = _
    unfold bY
    rw [iN (bi _)])
  show ∃ b, (aU (fun (x : Int × Int) => bY s x.1 x.2) (a0, 0)).bind (Sum.elim (fun z9 => dJ m z9) (fun z10 => some z10)) = some b ∧ _
  rw [e2]
  simp only [bSq]
  cases hF : j9 (fun _ a r => if (r.a.length : Int) > 100 ∨ (r.e.length : Int) > 1000 ∨ (r.op = 15 ∧ r.n > 1000) then .inr true else .inl (IntKind.wrap .i64 (a + IntKind.wrap .i64 ((r.a.length : Int) + (r.e.length : Int))))) 0 s.rules a0 with
  | inr z =>
   refine ⟨z, rfl, fun hz => ?_⟩
   have := ox (fun z => z = true) _ (fun i a x z h => by
    split at h
    ·simp only [Sum.inr.injEq] at h; exact h.symm
    ·cases h) _ _ _ _ hF
   rw [hz] at this; cases this
  | inl a1 =>
   have hR := re (fun r : ae => r.a.length ≤ 100 ∧ r.e.length ≤ 1000) _ (fun i a x a' h => by
    split at h
    ·cases h
    ·rename_i hc
     have h1 : ¬ (x.a.length : Int) > 100 := fun h => hc (.inl h)
     have h2 : ¬ (x.e.length : Int) > 1000 := fun h => hc (.inr (.inl h))
     omega) _ _ _ _ hF
   exact ⟨_, rfl, fun _ => ⟨by omega, by omega, by omega, by omega, hR⟩⟩
end Pam
namespace Pam
open Go
theorem tX (s : ab) {v : Int} (hv : inV s v) : spV s v = gI s v.toNat := by
 obtain ⟨_, h2⟩ := vI v s hv
 unfold spV
 exact xu h2
theorem vm {s : ab} (g : eq s) {v : Int} (hv : inV s v) (h : v ∈ bw s s.rules.length) : (spV s v).from_ ≤ (spV s v).to := by
 obtain ⟨h1, h2⟩ := vI v s hv
 rw [tX s hv]
 by_cases ho : ∃ k, k < s.rules.length ∧ (s.rules.getD k default).out_ = v
 ·obtain ⟨k, hk, e⟩ := ho
  obtain ⟨e1, e2⟩ := sT g hk (v := v.toNat) (by rw [e, h1])
  omega
 ·have hi : v ∈ s.in_ := by
   rcases (qd s v (Nat.le_refl _)).1 h with h | h
   ·exact h
   ·exact absurd h ho
  have hb : bx s v.toNat s.rules.length = bx s v.toNat 0 := ow _ (fun k hk e => ho ⟨k, hk, by rw [e, h1]⟩)
  have h0 : bx s v.toNat 0 = ⟨-1, -1⟩ := by unfold bx; rw [h1, iP hi]
  have h3 := qf s v.toNat
  have h4 := qe s v.toNat s.rules.length (Nat.zero_le _)
  have h5 : toN s v.toNat 0 = -1 := by unfold toN; rw [hb, h0]
  have h6 : (gI s v.toNat).from_ = -1 := by
   show (bx s v.toNat s.rules.length).from_ = -1
   rw [hb, h0]
  omega
theorem sZ {s : ab} (g : eq s) {v : Int} (hv : inV s v) (h : ¬ v ∈ bw s s.rules.length) : ¬ (spV s v).from_ ≤ (spV s v).to := by
 obtain ⟨h1, h2⟩ := vI v s hv
 rw [tX s hv]
 have hm := qd s v (Nat.le_refl s.rules.length)
 have hb : bx s v.toNat s.rules.length = bx s v.toNat 0 := ow _ (fun k hk e => h (hm.2 (.inr ⟨k, hk, by rw [e, h1]⟩)))
 have h0 : bx s v.toNat 0 = ⟨0, -1⟩ := by unfold bx; rw [h1, iN (fun hc => h (hm.2 (.inl hc)))]
 have h3 : ¬ ((v.toNat : Int) ∈ s.out_ ∨ n8 s v.toNat s.rules.length) := by
  rw [h1]
  rintro (hc | ⟨k, hk, e1, e2⟩)
  ·exact h (g.o v hc)
  ·refine h (g.u k hk v (my ?_))
   rw [← h1, ← e2]
   exact br (by have := pd g hk e1; omega)
 have h4 : toN s v.toNat s.rules.length = -1 := by
  rcases q8 s v.toNat s.rules.length with h5 | ⟨k, hk, _, h5⟩
  ·rw [h5, hb, h0]
  ·rw [h1] at h5
   exact absurd (g.u k hk v (nw h5)) h
 have h5 : (gI s v.toNat).to = -1 := by
  unfold gI
  exact (iN h3).trans h4
 have h6 : (gI s v.toNat).from_ = 0 := by
  show (bx s v.toNat s.rules.length).from_ = 0
  rw [hb, h0]
 omega
theorem rf (s : ab) (v : Nat) : ∀ i, 0 ≤ kg s i v → ∃ k, k < i ∧ kg s i v = (k : Int) ∧ (s.rules.getD k default).out_ = (v : Int)
 | 0, h => by simp [kg] at h
 | i + 1, h => by
  unfold kg at h ⊢
  split at h
  ·rename_i e
   rw [iP e]
   exact ⟨i, by omega, rfl, e⟩
  ·rename_i e
   rw [iN e]
   obtain ⟨k, h1, h2, h3⟩ := rf s v i h
   exact ⟨k, by omega, h2, h3⟩
def tY (s : ab) (at_ : List Int) (a b : Int) : Prop :=
 (spV s a).from_ < (spV s b).from_ ∧ (spV s a).to ≤ (spV s b).from_ ∧ ((spV s a).to = (spV s b).from_ → atV at_ a = atV at_ b ∧ ∃ k, k < s.rules.length ∧ (spV s b).from_ = (k : Int) ∧ oQ s (s.rules.getD k default) a = true ∧ (s.rules.getD k default).out_ = b)
theorem n9 {s : ab} (g : eq s) {at_ : List Int} {a b : Int} (ha : inV s a) (hb : inV s b) (hma : a ∈ bw s s.rules.length) (h : er s (gc s s.rules.length) at_ b (atV at_ b) a)
  (h1 : ¬ atV at_ a + bm s a ≤ atV at_ b) (h2 : ¬ atV at_ b + bm s b ≤ atV at_ a) : tY s at_ a b := by
 have hle := vm g ha hma
 rcases h with h | h | h | ⟨e1, e2, e3, e4, e5⟩
 ·exact absurd h h2
 ·exact absurd h h1
 ·exact ⟨by omega, by omega, fun e => by omega⟩
 ·refine ⟨e2, by omega, fun _ => ⟨e3.symm, ?_⟩⟩
  obtain ⟨q1, q2⟩ := vI b s hb
  have hw : atV (gc s s.rules.length) b = kg s s.rules.length b.toNat := by unfold atV gc; rw [kb q2]
  rw [hw] at e4 e5
  obtain ⟨k, hk, e6, e7⟩ := rf s b.toNat _ e4
  rw [e6] at e5
  refine ⟨k, hk, ?_, by simpa using e5, by rw [e7, q1]⟩
  rw [tX s hb]
  exact (sT g hk e7).1
theorem uz {T : Type} {R : T → T → Prop} {l : List T} (h : l.Pairwise R) {a b : T} (ha : a ∈ l) (hb : b ∈ l) (hab : a ≠ b) : R a b ∨ R b a := by
 obtain ⟨i, hi, rfl⟩ := List.mem_iff_getElem.1 ha
 obtain ⟨j, hj, rfl⟩ := List.mem_iff_getElem.1 hb
 rw [List.pairwise_iff_getElem] at h
 rcases Nat.lt_trichotomy i j with e | e | e
 ·exact .inl (h i j hi hj e)
 ·subst e; exact absurd rfl hab
 ·exact .inr (h j i hj hi e)
theorem s6 {s : ab} (g : eq s) {p : dk} {f : au} (hp : tW s p) {x : Nat} (hx : x < s.vars.length) {a b : Int} (ha : inV s a) (hb : inV s b) (h : tY s p.at_ a b) :
  dw s (p, f) (aZ s) (x : Int) a b = some (.inl ((x + 1 : Nat) : Int)) := by
 have nv := g.h.nv
 obtain ⟨h1, h2, h3⟩ := h
 have hsl := kf s
 have hal := hp.lay.len
 unfold dw
 have i1 : (0 ≤ a ∧ a < ((aZ s).length : Int)) ∧ (0 ≤ b ∧ b < ((aZ s).length : Int)) := by rw [hsl]; exact ⟨ha, hb⟩
 have i2 : (0 ≤ a ∧ a < ((p.at_).length : Int)) ∧ (0 ≤ b ∧ b < ((p.at_).length : Int)) := by rw [hal]; exact ⟨ha, hb⟩
 have w : IntKind.wrap .i64 ((x : Int) + 1) = ((x + 1 : Nat) : Int) := wrs x (by omega)
 rw [iP i1]
 show (if (spV s a).from_ = (spV s b).from_ then _ else if (spV s a).to > (spV s b).from_ then _ else if (spV s a).to = (spV s b).from_ then _ else _) = _
 rw [iN (by omega), iN (by omega)]
 by_cases e : (spV s a).to = (spV s b).from_
 ·obtain ⟨e1, k, hk, e2, e3, _⟩ := h3 e
  rw [iP e]
  show (if (0 ≤ a ∧ a < ((p.at_).length : Int)) ∧ (0 ≤ b ∧ b < ((p.at_).length : Int)) then (if ¬ atV p.at_ a = atV p.at_ b then _ else if (spV s b).from_ < 0 then _ else if 0 ≤ (spV s b).from_ ∧ (spV s b).from_ < (s.rules.length : Int) then
   (iM s (s.rules.getD ((spV s b).from_).toNat default) a).bind _ else _) else _) = _
  rw [iP i2, iN (not_not_intro e1), e2, iN (by omega), iP (inI hk)]
  simp only [tN]
  have hr := g.rule hk
  rw [tT hr.1.o ha (by omega) (by have := hr.1.e; omega), e3]
  simp only [bSq, if_true]
  rw [w]
 ·rw [iN e, w]
theorem mT (s : ab) (_ : s.ok) (_ : s.sz ≤ 1048576) : i7 s = some true := by
 unfold i7
 rw [lR]
 simp only [bSq, if_true]
 obtain ⟨b, hb, _⟩ := sY s 150 (by omega)
 rw [show dz s 150 = some b from hb]
 simp only [bSq]
 cases b with
 | true => rfl
 | false =>
  rw [iN (by decide)]
  obtain ⟨p, f, hm, hf⟩ := uy s
  rw [hm]
  simp only [bSq]
  by_cases hfc : f.code = 0
  ·rcases hf with hf | ⟨g, hs, rfl, hp⟩
   ·exact absurd hfc hf
   rw [iN (not_not_intro hfc), oP g]
   simp only [bSq]
   have nv := g.h.nv
   have nr := g.h.nr
   have hL := hp.lay
   have l3 := o9 (S := Int × Int) (T := Int) (Z := Bool) (fun i => (bQ s i, (i : Int))) (body := fun x => cn s (p, au.mk 0 0) x.1 x.2) s.rules.length (fun _ => none) (bQ s s.rules.length)
    (by
     intro i hi
     have ho := (g.rule hi).1.o
     have ho' : 0 ≤ (s.rules.getD i default).out_ ∧ (s.rules.getD i default).out_ < (s.vars.length : Int) := ho
     have hk := kh g i (by omega)
     have hc := et g.h ho
     have hkl : p.keep.length = s.rules.length := by rw [hp.keep]; exact iA _ _
     have hkg : p.keep.getD i default = if (s.rules.getD i default).op = 13 then bQ s i else -1 := by rw [hp.keep]; exact kb hi
     show cn s (p, au.mk 0 0) (bQ s i) (i : Int) = some (.inl (bQ s (i + 1), ((i + 1 : Nat) : Int)))
     unfold cn
     rw [iP (ltI hi), iP (inI hi)]
     simp only [tN]
     rw [hkl]
     show _ = some (Sum.inl ((if (s.rules.getD i default).op = 13 then bQ s i + bm s (s.rules.getD i default).out_ else bQ s i), ((i + 1 : Nat) : Int)))
     by_cases h13 : (s.rules.getD i default).op = 13
     ·rw [iP h13, iP (inI hi), iN (by rw [hkg, iP h13]; simp), iP ho', ex]
      simp only [bSq]
      rw [wr (by unfold bm at hc; omega) (by unfold bm at hc; omega), wrs i (by omega), iP h13]
      rfl
     ·rw [iN h13, iP (inI hi), iN (by rw [hkg, iN h13]; simp), wrs i (by omega), iN h13])
    (by
     show cn s (p, au.mk 0 0) (bQ s s.rules.length) (s.rules.length : Int) = _
     unfold cn
     rw [iN (bi _)])
   show (aU (fun (x : Int × Int) => cn s (p, au.mk 0 0) x.1 x.2) (bQ s 0, ((0 : Nat) : Int))).bind _ = _
   rw [l3, iO (fun _ _ => rfl)]
   simp only [bSq, Sum.elim_inl]
   unfold d9
   have hk := kh g s.rules.length (Nat.le_refl _)
   have hhi := hL.hi
   have mem_of : ∀ v, inV s v → ¬ atV p.at_ v < 0 → v ∈ bw s s.rules.length := fun v hv h => Classical.byContradiction fun hc => h (by rw [hL.out v hv hc]; decide)
   rw [cW s.vars.length (fun _ => none) () (fun i hi => by
    have hv : inV s (i : Int) := inI hi
    have hal : ((i : Int)).toNat = i := by simp
    have hcell := et g.h hv
    have hj3 : cm (i : Int) = some (.inl ((i + 1 : Nat) : Int)) := by unfold cm; rw [wrs i (by omega)]
    unfold fw
    rw [iP (ltI hi), iP (inI hi), ex]
    simp only [bSq]
    rw [iP (by rw [hL.len]; exact inI hi)]
    show (if atV p.at_ (i : Int) < 0 then (if 0 ≤ (i : Int) ∧ (i : Int) < ((aZ s).length : Int) then (if (spV s (i : Int)).from_ ≤ (spV s (i : Int)).to then _ else cm (i : Int)) else _)
     else if atV p.at_ (i : Int) < bQ s s.rules.length then _ else if IntKind.wrap .i64 (atV p.at_ (i : Int) + bm s (i : Int)) > p.cells then _ else _) = _
    by_cases h0 : atV p.at_ (i : Int) < 0
    ·have hnm : ¬ (i : Int) ∈ bw s s.rules.length := fun hc => by have := hL.ins _ hc; omega
     rw [iP h0, iP (by rw [kf]; exact inI hi), iN (sZ g hv hnm), hj3]
    ·have hmi := mem_of _ hv h0
     obtain ⟨_, hi1, hi2⟩ := hL.ins _ hmi
     rw [iN h0, iN (by omega), wr (by omega) (by omega), iN (by omega)]
     rw [cW s.vars.length (fun _ => none) () (fun w hw => by
      have hwv : inV s (w : Int) := inI hw
      have hcw := et g.h hwv
      have hw1 : IntKind.wrap .i64 ((w : Int) + 1) = ((w + 1 : Nat) : Int) := wrs w (by omega)
      unfold fv
      rw [iP (ltI hw), hw1]
      by_cases hwi : (w : Int) = (i : Int)
      ·rw [iP hwi]
      rw [iN hwi, iP (by rw [hL.len]; exact inI hw)]
      show (if atV p.at_ (w : Int) < 0 then _ else if IntKind.wrap .i64 (atV p.at_ (i : Int) + bm s (i : Int)) ≤ atV p.at_ (w : Int) then _ else if 0 ≤ (w : Int) ∧ (w : Int) < (s.vars.length : Int) then
       (d8 (s.vars.getD ((w : Int)).toNat default).n).bind (fun y13 => if IntKind.wrap .i64 (atV p.at_ (w : Int) + y13) ≤ atV p.at_ (i : Int) then _ else
        if (0 ≤ (i : Int) ∧ (i : Int) < ((aZ s).length : Int)) ∧ (0 ≤ (w : Int) ∧ (w : Int) < ((aZ s).length : Int)) then (if (spV s (i : Int)).from_ > (spV s (w : Int)).from_ then _ else _) else _) else _) = _
      by_cases h0w : atV p.at_ (w : Int) < 0
      ·rw [iP h0w]
      rw [iN h0w, wr (by omega) (by omega)]
      have hmw := mem_of _ hwv h0w
      obtain ⟨_, hw2, hw3⟩ := hL.ins _ hmw
      by_cases h1 : atV p.at_ (i : Int) + bm s (i : Int) ≤ atV p.at_ (w : Int)
      ·rw [iP h1]
      rw [iN h1, iP (inI hw), ex]
      simp only [bSq]
      have hcwe : dB (s.vars.getD ((w : Int)).toNat default).n = bm s (w : Int) := rfl
      rw [hcwe, wr (by omega) (by omega)]
      by_cases h2 : atV p.at_ (w : Int) + bm s (w : Int) ≤ atV p.at_ (i : Int)
      ·rw [iP h2]
      rw [iN h2, iP (by rw [kf]; exact ⟨inI hi, inI hw⟩)]
      rcases uz hL.pair hmi hmw (fun e => hwi e.symm) with hr | hr
      ·have ha := n9 g hv hwv hmi hr h1 h2
       rw [iN (by have := ha.1; omega), s6 g hp hw hv hwv ha]
      ·have ha := n9 g hwv hv hmw hr h2 h1
       rw [iP (by have := ha.1; omega), s6 g hp hw hwv hv ha]) (by unfold fv; rw [iN (bi _)]), iO (fun _ _ => rfl)]
     simp only [bSq, Sum.elim_inl]
     rw [hj3]) (by unfold fw; rw [iN (bi _)]), iO (fun _ _ => rfl)]
   rfl
  ·rw [iP hfc]
end Pam
