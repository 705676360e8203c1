/- The fault of all of a system but its rules: the program and the document tell the same. -/
import Derived.Test.YtkolbkclheicbaaDaFun1
import Derived.Test.YtkolbkclheicbaaDWide1
import Derived.Test.YtkolbkclheicbaaDBase3
set_option linter.all false
namespace Pam
open Go
theorem pJ (v : Int) (j : av) : dU v j = some (decide (0 ≤ v ∧ v < (j.system.vars.length : Int))) := by
 unfold dU
 by_cases h : v ≥ 0
 ·rw [iP h]; congr 1; rw [decide_eq_decide]; omega
 ·rw [iN h]; congr 1; symm; rw [decide_eq_false_iff_not]; omega
theorem nY (l : List Int) (v : Int) (hl : l.length ≤ 9000000) : ∃ k, df l v = some k ∧ (decide (k ≥ 0)) = l.contains v := by
 unfold df
 rw [bw l.length (fun i => if l.getD i default = v then some (i : Int) else none) () (fun i hi => by
  unfold cB
  rw [iP (ltI hi), iP (inI hi)]
  simp only [tN]
  by_cases h : l.getD i default = v
  ·rw [iP h.symm, iP h]
  ·rw [iN (fun e => h e.symm), iN h, wrs i (by omega)]) (by unfold cB; rw [iN (bj _)])]
 rcases cZ l.length (fun i => if l.getD i default = v then some (i : Int) else none) () with ⟨e, h⟩ | ⟨j, z, hj, hf, e⟩
 ·rw [e]
  refine ⟨-1, rfl, ?_⟩
  have : ¬ v ∈ l := by
   intro hm
   obtain ⟨i, hi, rfl⟩ := List.mem_iff_getElem.1 hm
   have := h i hi
   simp [List.getD, hi] at this
  simp [this]
 ·rw [e]
  refine ⟨z, rfl, ?_⟩
  by_cases hh : l.getD j default = v
  ·rw [iP hh] at hf
   simp only [sJ] at hf
   subst hf
   have : v ∈ l := by rw [← hh]; exact bJ hj
   simp [this]
  ·rw [iN hh] at hf; cases hf
theorem qm (l : List Int) (v : Int) (hl : l.length ≤ 9000000) : cC l v = some (l.contains v) := by
 unfold cC
 obtain ⟨k, h1, h2⟩ := nY l v hl
 rw [h1]
 simp only [bSq, h2]
theorem hN (l : List Int) (v : Int) (hl : l.length ≤ 9000000) : io l v = some (l.contains v) := by
 unfold io
 rw [bw l.length (fun i => if l.getD i default = v then some true else none) () (fun i hi => by
  unfold jK
  rw [iP (ltI hi), iP (inI hi)]
  simp only [tN]
  by_cases h : l.getD i default = v
  ·rw [iP h, iP h]
  ·rw [iN h, iN h, wrs i (by omega)]) (by unfold jK; rw [iN (bj _)])]
 rcases cZ l.length (fun i => if l.getD i default = v then some true else none) () with ⟨e, h⟩ | ⟨j, z, hj, hf, e⟩
 ·rw [e]
  have : ¬ v ∈ l := by
   intro hm
   obtain ⟨i, hi, rfl⟩ := List.mem_iff_getElem.1 hm
   have := h i hi
   simp [List.getD, hi] at this
  show some false = _
  simp [this]
 ·rw [e]
  by_cases hh : l.getD j default = v
  ·rw [iP hh] at hf
   simp only [sJ] at hf
   subst hf
   have : v ∈ l := by rw [← hh]; exact bJ hj
   show some true = _
   simp [this]
  ·rw [iN hh] at hf; cases hf
def inV (s : af) (v : Int) : Prop := 0 ≤ v ∧ v < (s.vars.length : Int)
instance (s : af) (v : Int) : Decidable (inV s v) := inferInstanceAs (Decidable (_ ∧ _))
def sx (x : ao) (i : Nat) : Option ar :=
 if ¬ x.elem = 105 ∧ ¬ x.elem = 98 then some (ar.mk 10 (-2 - i)) else if x.n < 0 ∨ x.n > 300 then some (ar.mk 13 (-2 - i)) else none
def mI (s : af) (i : Nat) : Option ar := sx (s.vars.getD i default) i
def inF (s : af) (i : Nat) : Option ar :=
 if ¬ inV s (s.in_.getD i default) then some (ar.mk 16 (-1)) else if (s.in_.take i).contains (s.in_.getD i default) then some (ar.mk 8 (-1)) else none
def lb (s : af) (i : Nat) : Option ar := if ¬ inV s (s.out_.getD i default) then some (ar.mk 16 (-1)) else none
def ki (s : af) : ar :=
 if (s.vars.length : Int) > 400 ∨ (s.rules.length : Int) > 400 ∨ (s.in_.length : Int) > 400 ∨ (s.out_.length : Int) > 400 then ar.mk 7 (-1)
 else match dB s.vars.length (mI s) () with
  | .inr z => z
  | .inl _ => match dB s.in_.length (inF s) () with
   | .inr z => z
   | .inl _ => match dB s.out_.length (lb s) () with
    | .inr z => z
    | .inl _ => ar.mk 0 0
theorem wr2 (i : Nat) (h : i < 1000000) : IntKind.wrap .i64 (-2 - (i : Int)) = -2 - i := wr (by omega) (by omega)
theorem qW (s : af) (c : Int) : fE (av.mk s c) = some (ki s) := by
 have out : s.out_.length ≤ 400 → cH (av.mk s c) = some (match dB s.out_.length (lb s) () with | .inr z => z | .inl _ => ar.mk 0 0) := by
  intro hl
  unfold cH
  rw [bw s.out_.length (lb s) () (fun i hi => by
   unfold dW lb inV
   rw [iP (ltI hi), iP (inI hi)]
   simp only [tN]
   rw [pJ]
   simp only [bSq]
   by_cases h : 0 ≤ s.out_.getD i default ∧ s.out_.getD i default < (s.vars.length : Int)
   ·rw [iP (by simpa using h), iN (by simpa using h), wrs i (by omega)]
   ·rw [iN (by simpa using h), iP h]) (by unfold dW; rw [iN (bj _)])]
  cases dB s.out_.length (lb s) () <;> rfl
 have inn : s.in_.length ≤ 400 → s.out_.length ≤ 400 → cd (av.mk s c) = some (match dB s.in_.length (inF s) () with
   | .inr z => z
   | .inl _ => match dB s.out_.length (lb s) () with | .inr z => z | .inl _ => ar.mk 0 0) := by
  intro hl ho
  unfold cd
  rw [bw s.in_.length (inF s) () (fun i hi => by
   unfold dX inF inV
   rw [iP (ltI hi), iP (inI hi)]
   simp only [tN]
   rw [pJ]
   simp only [bSq]
   by_cases h : 0 ≤ s.in_.getD i default ∧ s.in_.getD i default < (s.vars.length : Int)
   ·rw [iP (by simpa using h), iP ⟨by omega, by omega⟩, qm _ _ (by simp; omega), iN (by simpa using h)]
    simp only [bSq]
    split
    ·rfl
    ·rw [wrs i (by omega)]
   ·rw [iN (by simpa using h), iP h]) (by unfold dX; rw [iN (bj _)])]
  cases dB s.in_.length (inF s) () with
  | inr z => rfl
  | inl _ => exact out ho
 have main : s.vars.length ≤ 400 → s.in_.length ≤ 400 → s.out_.length ≤ 400 → (a8 (fun x14 => dh (av.mk s c) x14) 0).bind (Sum.elim (fun _ => cd (av.mk s c)) (fun z15 => some z15)) = some (match dB s.vars.length (mI s) () with
   | .inr z => z
   | .inl _ => match dB s.in_.length (inF s) () with
    | .inr z => z
    | .inl _ => match dB s.out_.length (lb s) () with | .inr z => z | .inl _ => ar.mk 0 0) := by
  intro hv hl ho
  rw [bw s.vars.length (mI s) () (fun i hi => by
   unfold dh mI
   rw [iP (ltI hi), iP (inI hi)]
   simp only [tN]
   obtain ⟨x, hx⟩ : ∃ x, s.vars.getD i default = x := ⟨_, rfl⟩
   simp only [hx]
   unfold sx
   have tail : cI (av.mk s c) (i : Int) = some (match (if x.n < 0 ∨ x.n > 300 then some (ar.mk 13 (-2 - (i : Int))) else none) with | some z => .inr (.inr z) | none => .inl ((i + 1 : Nat) : Int)) := by
    unfold cI
    simp only [tN, hx]
    by_cases h1 : x.n < 0
    ·rw [iP h1, iP (.inl h1), wr2 i (by omega)]
    ·rw [iN h1]
     by_cases h2 : x.n > 300
     ·rw [iP h2, iP (.inr h2), wr2 i (by omega)]
     ·rw [iN h2, iN (by omega), wrs i (by omega)]
   by_cases h1 : x.elem = 105
   ·rw [iN (by simpa using h1), iN (by simp [h1])]; rw [tail]; generalize (if x.n < 0 ∨ x.n > 300 then some (ar.mk 13 (-2 - (i : Int))) else none) = q; cases q <;> rfl
   ·rw [iP h1]
    by_cases h2 : x.elem = 98
    ·rw [iN (by simpa using h2), iN (by simp [h2])]; rw [tail]; generalize (if x.n < 0 ∨ x.n > 300 then some (ar.mk 13 (-2 - (i : Int))) else none) = q; cases q <;> rfl
    ·rw [iP h2, iP ⟨h1, h2⟩, wr2 i (by omega)]) (by unfold dh; rw [iN (bj _)])]
  cases dB s.vars.length (mI s) () with
  | inr z => rfl
  | inl _ => exact inn hl ho
 unfold fE ki
 by_cases h1 : (s.vars.length : Int) > 400
 ·rw [iP h1, iP (.inl h1)]
 rw [iN h1]
 by_cases h2 : (s.rules.length : Int) > 400
 ·rw [iP h2, iP (.inr (.inl h2))]
 rw [iN h2]
 by_cases h3 : (s.in_.length : Int) > 400
 ·rw [iP h3, iP (.inr (.inr (.inl h3)))]
 rw [iN h3]
 by_cases h4 : (s.out_.length : Int) > 400
 ·rw [iP h4, iP (.inr (.inr (.inr h4)))]
 rw [iN h4, iN (by omega)]
 exact main (by omega) (by omega) (by omega)
theorem qX (s : af) : i7 s = some (ki s) := by
 have hF : ∀ a b, d1 a b = some (ar.mk a b) := fun _ _ => rfl
 have out : s.out_.length ≤ 400 → eg s = some (match dB s.out_.length (lb s) () with | .inr z => z | .inl _ => ar.mk 0 0) := by
  intro hl
  unfold eg
  rw [bw s.out_.length (lb s) () (fun i hi => by
   unfold gl lb inV
   rw [iP (ltI hi), iP (inI hi)]
   simp only [tN]
   by_cases h1 : s.out_.getD i default < 0
   ·rw [iP h1, iP (by omega), hF]; rfl
   ·rw [iN h1]
    by_cases h2 : s.out_.getD i default ≥ (s.vars.length : Int)
    ·rw [iP h2, iP (by omega), hF]; rfl
    ·rw [iN h2, iN (by omega), wrs i (by omega)]) (by unfold gl; rw [iN (bj _)])]
  cases dB s.out_.length (lb s) () <;> rfl
 have inn : s.in_.length ≤ 400 → s.out_.length ≤ 400 → dw s = some (match dB s.in_.length (inF s) () with
   | .inr z => z
   | .inl _ => match dB s.out_.length (lb s) () with | .inr z => z | .inl _ => ar.mk 0 0) := by
  intro hl ho
  unfold dw
  rw [bw s.in_.length (inF s) () (fun i hi => by
   unfold gm inF inV
   rw [iP (ltI hi), iP (inI hi)]
   simp only [tN]
   by_cases h1 : s.in_.getD i default < 0
   ·rw [iP h1, iP (by omega), hF]; rfl
   ·rw [iN h1]
    by_cases h2 : s.in_.getD i default ≥ (s.vars.length : Int)
    ·rw [iP h2, iP (by omega), hF]; rfl
    ·rw [iN h2, iP ⟨by omega, by omega⟩, iN (by omega), hN _ _ (by simp; omega)]
     simp only [bSq, hF]
     split
     ·rfl
     ·rw [wrs i (by omega)]) (by unfold gm; rw [iN (bj _)])]
  cases dB s.in_.length (inF s) () with
  | inr z => rfl
  | inl _ => exact out ho
 have main : s.vars.length ≤ 400 → s.in_.length ≤ 400 → s.out_.length ≤ 400 → (a8 (fun x21 => fm s x21) 0).bind (Sum.elim (fun _ => dw s) (fun z25 => some z25)) = some (match dB s.vars.length (mI s) () with
   | .inr z => z
   | .inl _ => match dB s.in_.length (inF s) () with
    | .inr z => z
    | .inl _ => match dB s.out_.length (lb s) () with | .inr z => z | .inl _ => ar.mk 0 0) := by
  intro hv hl ho
  rw [bw s.vars.length (mI s) () (fun i hi => by
   unfold fm mI
   rw [iP (ltI hi), iP (inI hi)]
   simp only [tN]
   obtain ⟨x, hx⟩ : ∃ x, s.vars.getD i default = x := ⟨_, rfl⟩
   simp only [hx]
   unfold sx
   have tail : eh s (i : Int) = some (match (if x.n < 0 ∨ x.n > 300 then some (ar.mk 13 (-2 - (i : Int))) else none) with | some z => .inr (.inr z) | none => .inl ((i + 1 : Nat) : Int)) := by
    unfold eh
    rw [iP (inI hi)]
    simp only [tN, hx]
    by_cases h1 : x.n < 0
    ·rw [iP h1, iP (.inl h1), wr2 i (by omega), hF]; rfl
    ·rw [iN h1]
     by_cases h2 : x.n > 300
     ·rw [iP h2, iP (.inr h2), wr2 i (by omega), hF]; rfl
     ·rw [iN h2, iN (by omega), wrs i (by omega)]
   by_cases h1 : x.elem = 105
   ·rw [iN (by simpa using h1), iN (by simp [h1])]; rw [tail]; generalize (if x.n < 0 ∨ x.n > 300 then some (ar.mk 13 (-2 - (i : Int))) else none) = q; cases q <;> rfl
   ·rw [iP h1]
    by_cases h2 : x.elem = 98
    ·rw [iN (by simpa using h2), iN (by simp [h2])]; rw [tail]; generalize (if x.n < 0 ∨ x.n > 300 then some (ar.mk 13 (-2 - (i : Int))) else none) = q; cases q <;> rfl
    ·rw [iP h2, iP ⟨h1, h2⟩, wr2 i (by omega), hF]; rfl) (by unfold fm; rw [iN (bj _)])]
  cases dB s.vars.length (mI s) () with
  | inr z => rfl
  | inl _ => exact inn hl ho
 unfold i7 ki
 by_cases h1 : (s.vars.length : Int) > 400
 ·rw [iP h1, iP (.inl h1)]; rfl
 rw [iN h1]
 by_cases h3 : (s.in_.length : Int) > 400
 ·rw [iP h3, iP (.inr (.inr (.inl h3)))]; rfl
 rw [iN h3]
 by_cases h4 : (s.out_.length : Int) > 400
 ·rw [iP h4, iP (.inr (.inr (.inr h4)))]; rfl
 rw [iN h4]
 by_cases h2 : (s.rules.length : Int) > 400
 ·rw [iP h2, iP (.inr (.inl h2))]; rfl
 rw [iN h2, iN (by omega)]
 exact main (by omega) (by omega) (by omega)
def opT (k : Int) : Int × Int × Int :=
 if 1 ≤ k ∧ k ≤ 7 then (105, 105, 2) else if k = 8 ∨ k = 9 then (105, 98, 2) else if 10 ≤ k ∧ k ≤ 12 then (98, 98, 2) else if k = 13 then (105, 105, 1) else if k = 14 then (98, 98, 1) else (0, 0, 0)
theorem e7 (k : Int) : ix k = some (opT k) := by
 unfold ix opT
 repeat' split
 all_goals first
  | rfl
  | (exfalso; omega)
theorem cE (k : Int) : iA k = some (opT k) := by
 unfold iA
 by_cases h1 : k < 1
 ·rw [iP h1]; unfold opT
  rw [iN (by omega), iN (by omega), iN (by omega), iN (by omega), iN (by omega)]
 rw [iN h1]
 by_cases h2 : k > 14
 ·rw [iP h2]; unfold opT
  rw [iN (by omega), iN (by omega), iN (by omega), iN (by omega), iN (by omega)]
 rw [iN h2]
 have : k = 1 ∨ k = 2 ∨ k = 3 ∨ k = 4 ∨ k = 5 ∨ k = 6 ∨ k = 7 ∨ k = 8 ∨ k = 9 ∨ k = 10 ∨ k = 11 ∨ k = 12 ∨ k = 13 ∨ k = 14 := by omega
 rcases this with rfl | rfl | rfl | rfl | rfl | rfl | rfl | rfl | rfl | rfl | rfl | rfl | rfl | rfl <;> rfl
theorem tp (k : Int) : (opT k).2.2 = 0 ∨ ((opT k).1 = 105 ∨ (opT k).1 = 98) ∧ ((opT k).2.1 = 105 ∨ (opT k).2.1 = 98) := by
 unfold opT
 repeat' split
 all_goals simp
def dy (s : af) (n : Int) (p : aB) (rs : List Int) : Option (List Int) :=
 if p.op = 1 then (if p.k = 0 then some (105 :: rs) else if p.k = 1 ∧ (p.n = 0 ∨ p.n = 1) then some (98 :: rs) else none)
 else if p.op = 2 then (if (s.vars.getD p.v.toNat default).n = 0 then some ((s.vars.getD p.v.toNat default).elem :: rs) else none)
 else if p.op = 3 then (if (s.vars.getD p.v.toNat default).n > 0 ∧ p.n ≥ 0 ∧ p.n ≤ (s.vars.getD p.v.toNat default).n - n then some ((s.vars.getD p.v.toNat default).elem :: rs) else none)
 else if p.op = 4 then (if p.n ≥ -1000000 ∧ p.n ≤ 1000000 then some (105 :: rs) else none)
 else if p.op = 5 then (match rs with
  | a :: r => if (opT p.k).2.2 = 1 ∧ a = (opT p.k).1 then some ((opT p.k).2.1 :: r) else none
  | [] => none)
 else if p.op = 6 then (match rs with
  | a :: b :: r => if (opT p.k).2.2 = 2 ∧ a = (opT p.k).1 ∧ b = (opT p.k).1 then some ((opT p.k).2.1 :: r) else none
  | _ => none)
 else if p.op = 7 then (match rs with
  | a :: b :: c :: r => if c = 98 ∧ b = a then some (a :: r) else none
  | _ => none)
 else if p.op = 8 then (match rs with
  | a :: b :: r => if (s.vars.getD p.v.toNat default).n > 0 ∧ b = 105 ∧ a = (s.vars.getD p.v.toNat default).elem then some ((s.vars.getD p.v.toNat default).elem :: r) else none
  | _ => none)
 else none
def okE (x : Int) : Prop := x = 105 ∨ x = 98
def okS (rs : List Int) : Prop := ∀ x ∈ rs, okE x
structure fh (s : af) : Prop where
 e : ∀ v ∈ s.vars, okE v.elem
 n : ∀ v ∈ s.vars, 0 ≤ v.n ∧ v.n ≤ 300
def nZ (s : af) (p : aB) : Prop := (p.op = 2 ∨ p.op = 3 ∨ p.op = 8) → inV s p.v
theorem tq {s : af} {n : Int} {p : aB} {rs rs' : List Int} (hv : fh s) (hu : nZ s p) (hs : okS rs) (h : dy s n p rs = some rs') : okS rs' ∧ rs'.length ≤ rs.length + 1 := by
 have hel : p.op = 2 ∨ p.op = 3 ∨ p.op = 8 → okE (s.vars.getD p.v.toNat default).elem := fun ho => hv.e _ (bJ (by have := hu ho; unfold inV at this; omega))
 have cons : ∀ {x : Int} {r : List Int}, okE x → okS r → okS (x :: r) := fun h1 h2 y hy => by
  rcases List.mem_cons.1 hy with rfl | hy
  ·exact h1
  ·exact h2 y hy
 have tl : ∀ {x : Int} {r : List Int}, okS (x :: r) → okS r := fun h1 y hy => h1 y (by simp [hy])
 have hk : ∀ m : Int, (opT p.k).2.2 = m → m ≠ 0 → okE (opT p.k).2.1 := fun m h1 h2 => by
  rcases tp p.k with h | h
  ·exact absurd (h1.symm.trans h) h2
  ·exact h.2
 unfold dy at h
 by_cases h1 : p.op = 1
 ·rw [iP h1] at h
  split at h
  ·simp only [sJ] at h; subst h; exact ⟨cons (.inl rfl) hs, by simp⟩
  ·split at h
   ·simp only [sJ] at h; subst h; exact ⟨cons (.inr rfl) hs, by simp⟩
   ·cases h
 rw [iN h1] at h
 by_cases h2 : p.op = 2
 ·rw [iP h2] at h
  split at h
  ·simp only [sJ] at h; subst h; exact ⟨cons (hel (.inl h2)) hs, by simp⟩
  ·cases h
 rw [iN h2] at h
 by_cases h3 : p.op = 3
 ·rw [iP h3] at h
  split at h
  ·simp only [sJ] at h; subst h; exact ⟨cons (hel (.inr (.inl h3))) hs, by simp⟩
  ·cases h
 rw [iN h3] at h
 by_cases h4 : p.op = 4
 ·rw [iP h4] at h
  split at h
  ·simp only [sJ] at h; subst h; exact ⟨cons (.inl rfl) hs, by simp⟩
  ·cases h
 rw [iN h4] at h
 by_cases h5 : p.op = 5
 ·rw [iP h5] at h
  split at h
  ·split at h
   ·rename_i hc
    simp only [sJ] at h; subst h; exact ⟨cons (hk 1 hc.1 (by decide)) (tl hs), by simp⟩
   ·cases h
  ·cases h
 rw [iN h5] at h
 by_cases h6 : p.op = 6
 ·rw [iP h6] at h
  split at h
  ·split at h
   ·rename_i hc
    simp only [sJ] at h; subst h; exact ⟨cons (hk 2 hc.1 (by decide)) (tl (tl hs)), by simp⟩
   ·cases h
  ·cases h
 rw [iN h6] at h
 by_cases h7 : p.op = 7
 ·rw [iP h7] at h
  split at h
  ·split at h
   ·simp only [sJ] at h; subst h; exact ⟨cons (hs _ (by simp)) (tl (tl (tl hs))), by simp⟩
   ·cases h
  ·cases h
 rw [iN h7] at h
 by_cases h8 : p.op = 8
 ·rw [iP h8] at h
  split at h
  ·split at h
   ·simp only [sJ] at h; subst h; exact ⟨cons (hel (.inr (.inr h8))) (tl (tl hs)), by simp⟩
   ·cases h
  ·cases h
 rw [iN h8] at h
 cases h
theorem o7 (n : Nat) (h : n ≤ 1000000) : dD n 1 := by
 unfold dD
 have : maxLen = 9223372036854775807 := rfl
 omega
theorem eq (l : List Int) : l.reverse.length = l.length := by simp
theorem rv1 (a : Int) (r : List Int) : ((a :: r).reverse).getD r.length default = a ∧ ((a :: r).reverse).take r.length = r.reverse := by
 constructor
 ·simp [List.getD]
 ·simp
theorem rv2 (a b : Int) (r : List Int) : ((a :: b :: r).reverse).getD r.length default = b ∧ ((a :: b :: r).reverse).getD (r.length + 1) default = a ∧ ((a :: b :: r).reverse).take r.length = r.reverse := by
 refine ⟨?_, ?_, ?_⟩
 ·simp [List.getD]
 ·have := (rv1 a (b :: r)).1
  simpa using this
 ·simp
theorem rv3 (a b c : Int) (r : List Int) : ((a :: b :: c :: r).reverse).getD r.length default = c ∧ ((a :: b :: c :: r).reverse).getD (r.length + 1) default = b ∧ ((a :: b :: c :: r).reverse).getD (r.length + 2) default = a ∧ ((a :: b :: c :: r).reverse).take r.length = r.reverse := by
 refine ⟨?_, ?_, ?_, ?_⟩
 ·simp [List.getD]
 ·have := (rv2 a b (c :: r)).1
  simpa using this
 ·have := (rv1 a (b :: c :: r)).1
  simpa using this
 ·simp
def f9 (k : Nat) (rs : List Int) : Int := rs.getD (k - 1) 0
theorem qY (k : Nat) (rs : List Int) (hk : 1 ≤ k ∧ k ≤ 3) (hl : rs.length ≤ 1000) : be (k : Int) rs.reverse = some (f9 k rs) := by
 unfold be f9
 rw [eq]
 by_cases h : (k : Int) > (rs.length : Int)
 ·rw [iP h]
  have : rs.length ≤ k - 1 := by omega
  simp [List.getD, List.getElem?_eq_none this]
 ·rw [iN h, wr (by omega) (by omega), iP (by omega)]
  congr 1
  have e : ((rs.length : Int) - (k : Int)).toNat = rs.length - k := by omega
  rw [e]
  have h1 : rs.length - k < rs.reverse.length := by simp; omega
  have h2 : k - 1 < rs.length := by omega
  simp only [List.getD, List.getElem?_eq_getElem h1, List.getElem?_eq_getElem h2, Option.getD_some, List.getElem_reverse]
  congr 1
  omega
theorem uc {e : List aB} {n : Int} {j : av} {l : List Int} {i : Nat} {t m : Int} (hi : i < e.length) (h : aG (e.getD i default) n j l = some (t, m, false)) :
  aW e n j l (i : Int) = some (.inr (.inr (0, false))) := by
 unfold aW
 rw [iP (ltI hi), iP (inI hi)]
 simp only [tN]
 rw [h]
 rfl
theorem uz {e : List aB} {n : Int} {j : av} {l : List Int} {i : Nat} {m : Int} (k : Nat) (hi : i < e.length) (h : aG (e.getD i default) n j l = some ((k : Int), m, true)) (hl : k ≤ l.length) (hb : l.length ≤ 1000) (hi' : i < 100000) :
  aW e n j l (i : Int) = some (.inl (l.take (l.length - k) ++ [m], ((i + 1 : Nat) : Int))) := by
 unfold aW
 rw [iP (ltI hi), iP (inI hi)]
 simp only [tN]
 rw [h]
 simp only [bSq, if_true]
 rw [iN (by omega), wr (by omega) (by omega), iP ⟨by omega, o7 _ (by omega)⟩, wrs i (by omega)]
 have : ((l.length : Int) - (k : Int)).toNat = l.length - k := by omega
 rw [this]
 rfl
theorem ud (l : List Int) (x : Int) : l.reverse.take (l.reverse.length - 0) ++ [x] = (x :: l).reverse := by
 rw [Nat.sub_zero, List.take_length]; simp
theorem tt {k m : Int} (h : (opT k).2.2 = m) (hm : m ≠ 0) : (opT k).1 ≠ 0 := by
 rcases tp k with h' | h'
 ·exact absurd (h.symm.trans h') hm
 ·rcases h'.1 with h | h <;> omega
def vL {Z : Type} (z : Z) (i : Nat) : Option (List Int) → (List Int × Int) ⊕ (List Int ⊕ Z)
 | some rs' => .inl (rs'.reverse, ((i + 1 : Nat) : Int))
 | none => .inr (.inr z)
theorem ue {s : af} {c : Int} {e : List aB} {n : Int} {rs : List Int} {i : Nat} (hv : fh s) (hu : nZ s (e.getD i default)) (hs : okS rs) (hn : 1 ≤ n ∧ n ≤ 300) (hl : rs.length ≤ 900) (hi : i < e.length) (hi' : i < 100000) :
  aW e n (av.mk s c) rs.reverse (i : Int) = some (vL (0, false) i (dy s n (e.getD i default) rs)) := by
 have hb : rs.reverse.length ≤ 1000 := by simp; omega
 have ok0 : ∀ m, aG (e.getD i default) n (av.mk s c) rs.reverse = some (0, m, true) → aW e n (av.mk s c) rs.reverse (i : Int) = some (.inl ((m :: rs).reverse, ((i + 1 : Nat) : Int))) := fun m h => by
  rw [uz 0 hi h (by omega) hb hi', ud]
 have fail : ∀ t m, aG (e.getD i default) n (av.mk s c) rs.reverse = some (t, m, false) → aW e n (av.mk s c) rs.reverse (i : Int) = some (.inr (.inr (0, false))) := fun t m h => uc hi h
 have okk : ∀ (k : Nat) (m : Int) (r : List Int), aG (e.getD i default) n (av.mk s c) rs.reverse = some ((k : Int), m, true) → rs.length = r.length + k → rs.reverse.take r.length = r.reverse →
   aW e n (av.mk s c) rs.reverse (i : Int) = some (.inl ((m :: r).reverse, ((i + 1 : Nat) : Int))) := fun k m r h h1 h2 => by
  rw [uz k hi h (by rw [eq]; omega) hb hi', eq, show rs.length - k = r.length by omega, h2]
  simp
 have t1 := qY 1 rs (by omega) (by omega)
 have t2 := qY 2 rs (by omega) (by omega)
 have t3 := qY 3 rs (by omega) (by omega)
 simp only [Int.natCast_one, Int.cast_ofNat_Int] at t1 t2 t3
 generalize hp : e.getD i default = p at *
 have hvar : p.op = 2 ∨ p.op = 3 ∨ p.op = 8 → (0 ≤ p.v ∧ p.v < (s.vars.length : Int)) ∧ (0 ≤ (s.vars.getD p.v.toNat default).n ∧ (s.vars.getD p.v.toNat default).n ≤ 300) ∧ okE (s.vars.getD p.v.toNat default).elem := fun ho => by
  have h := hu ho
  have hm : s.vars.getD p.v.toNat default ∈ s.vars := bJ (by unfold inV at h; omega)
  exact ⟨h, hv.n _ hm, hv.e _ hm⟩
 by_cases h1 : p.op = 1
 ·have hst : aG p n (av.mk s c) rs.reverse = if p.k = 1 then (if p.n = 0 then some (0, 98, true) else some (0, 98, p.n == 1)) else some (0, 105, p.k == 0) := by
   unfold aG; rw [iP h1]
  unfold dy; rw [iP h1]
  by_cases k0 : p.k = 0
  ·rw [iP k0]; exact ok0 105 (by rw [hst, iN (by omega), k0]; rfl)
  ·rw [iN k0]
   by_cases k1 : p.k = 1
   ·by_cases n0 : p.n = 0
    ·rw [iP ⟨k1, .inl n0⟩]; exact ok0 98 (by rw [hst, iP k1, iP n0])
    ·by_cases n1 : p.n = 1
     ·rw [iP ⟨k1, .inr n1⟩]; exact ok0 98 (by rw [hst, iP k1, iN n0, n1]; rfl)
     ·rw [iN (by omega)]; exact fail 0 98 (by rw [hst, iP k1, iN n0, nB n1])
   ·rw [iN (by omega)]; exact fail 0 105 (by rw [hst, iN k1, nB k0])
 by_cases h2 : p.op = 2
 ·obtain ⟨q1, q2, q3⟩ := hvar (.inl h2)
  have hst : aG p n (av.mk s c) rs.reverse = some (0, (s.vars.getD p.v.toNat default).elem, (s.vars.getD p.v.toNat default).n == 0) := by
   unfold aG; rw [iN h1, iP h2, iP q1]
  unfold dy; rw [iN h1, iP h2]
  by_cases n0 : (s.vars.getD p.v.toNat default).n = 0
  ·rw [iP n0]; exact ok0 _ (by rw [hst, n0]; rfl)
  ·rw [iN n0]; exact fail _ _ (by rw [hst, nB n0])
 by_cases h3 : p.op = 3
 ·obtain ⟨q1, q2, q3⟩ := hvar (.inr (.inl h3))
  have hst : aG p n (av.mk s c) rs.reverse = some (0, (s.vars.getD p.v.toNat default).elem, decide ((s.vars.getD p.v.toNat default).n > 0 ∧ p.n ≥ 0 ∧ p.n ≤ (s.vars.getD p.v.toNat default).n - n)) := by
   unfold aG; rw [iN h1, iN h2, iP h3, iP q1]
   simp only
   rw [wr (by omega) (by omega)]
   by_cases a : (s.vars.getD p.v.toNat default).n > 0
   ·rw [iP a]
    by_cases b : p.n ≥ 0
    ·rw [iP b]; congr 3; rw [decide_eq_decide]; exact ⟨fun h => ⟨a, b, h⟩, fun h => h.2.2⟩
    ·rw [iN b, dF (fun h => b h.2.1)]
   ·rw [iN a, dF (fun h => a h.1)]
  unfold dy; rw [iN h1, iN h2, iP h3]
  by_cases a : (s.vars.getD p.v.toNat default).n > 0 ∧ p.n ≥ 0 ∧ p.n ≤ (s.vars.getD p.v.toNat default).n - n
  ·rw [iP a]; exact ok0 _ (by rw [hst, dT a])
  ·rw [iN a]; exact fail _ _ (by rw [hst, dF a])
 by_cases h4 : p.op = 4
 ·have hst : aG p n (av.mk s c) rs.reverse = some (0, 105, decide (p.n ≥ -1000000 ∧ p.n ≤ 1000000)) := by
   unfold aG; rw [iN h1, iN h2, iN h3, iP h4]
   by_cases a : p.n ≥ -1000000
   ·rw [iP a]; simp [a]
   ·rw [iN a]; simp [a]
  unfold dy; rw [iN h1, iN h2, iN h3, iP h4]
  by_cases a : p.n ≥ -1000000 ∧ p.n ≤ 1000000
  ·rw [iP a]; exact ok0 _ (by rw [hst, dT a])
  ·rw [iN a]; exact fail _ _ (by rw [hst, dF a])
 have w5 : IntKind.wrap .i64 (IntKind.wrap .i64 ((5 : Int) - 5) + 1) = 1 := by decide
 have w6 : IntKind.wrap .i64 (IntKind.wrap .i64 ((6 : Int) - 5) + 1) = 2 := by decide
 by_cases h5 : p.op = 5
 ·have hst : aG p n (av.mk s c) rs.reverse = if (opT p.k).2.2 = 1 then (if f9 1 rs = (opT p.k).1 then some ((opT p.k).2.2, (opT p.k).2.1, true) else some ((opT p.k).2.2, (opT p.k).2.1, false)) else some ((opT p.k).2.2, (opT p.k).2.1, false) := by
   unfold aG; rw [iN h1, iN h2, iN h3, iN h4, iP h5, show (p.op == 5) = true by simp [h5]]
   unfold bn
   rw [iP rfl, e7]
   simp only [bSq]
   rw [h5, w5, t1]
   simp only [bSq]
   by_cases a : (opT p.k).2.2 = 1
   ·rw [iP a, iP a, iP a]
   ·rw [iN a, iN a]
  unfold dy; rw [iN h1, iN h2, iN h3, iN h4, iP h5]
  by_cases a : (opT p.k).2.2 = 1
  ·rw [iP a] at hst
   have nz := tt a (by decide)
   cases rs with
   | nil =>
    rw [iN (by show ¬ (0 : Int) = _; omega)] at hst
    exact fail _ _ hst
   | cons x r =>
    by_cases b : x = (opT p.k).1
    ·rw [iP (show f9 1 (x :: r) = _ from b), a] at hst
     simp only
     rw [iP ⟨a, b⟩]
     exact okk 1 _ r hst (by simp) (rv1 x r).2
    ·rw [iN (show ¬ f9 1 (x :: r) = _ from b)] at hst
     simp only
     rw [iN (fun h => b h.2)]
     exact fail _ _ hst
  ·rw [iN a] at hst
   have f := fail _ _ hst
   cases rs with
   | nil => exact f
   | cons x r => simp only; rw [iN (fun h => a h.1)]; exact f
 by_cases h6 : p.op = 6
 ·have hst : aG p n (av.mk s c) rs.reverse = if (opT p.k).2.2 = 2 then (if f9 1 rs = (opT p.k).1 then some ((opT p.k).2.2, (opT p.k).2.1, f9 2 rs == (opT p.k).1) else some ((opT p.k).2.2, (opT p.k).2.1, false)) else some ((opT p.k).2.2, (opT p.k).2.1, false) := by
   unfold aG; rw [iN h1, iN h2, iN h3, iN h4, iN h5, show (p.op == 6) = true by simp [h6]]
   unfold bn
   rw [iP rfl, e7]
   simp only [bSq]
   rw [h6, w6, t1]
   simp only [bSq]
   by_cases a : (opT p.k).2.2 = 2
   ·rw [iP a, iP a, iN (by omega : ¬ (opT p.k).2.2 = 1), t2]
    simp only [bSq]
   ·rw [iN a, iN a]
  unfold dy; rw [iN h1, iN h2, iN h3, iN h4, iN h5, iP h6]
  by_cases a : (opT p.k).2.2 = 2
  ·rw [iP a] at hst
   have nz := tt a (by decide)
   match rs, hst, okk, fail with
   | [], hst, _, fail =>
    rw [iN (by show ¬ (0 : Int) = _; omega)] at hst
    exact fail _ _ hst
   | [x], hst, _, fail =>
    have : (f9 2 [x] == (opT p.k).1) = false := nB (by show (0 : Int) ≠ _; omega)
    rw [this] at hst
    exact fail _ _ (by rw [hst]; split <;> rfl)
   | x :: y :: r, hst, okk, fail =>
    simp only
    by_cases b : x = (opT p.k).1
    ·rw [iP (show f9 1 (x :: y :: r) = _ from b), a] at hst
     by_cases d : y = (opT p.k).1
     ·rw [show (f9 2 (x :: y :: r) == (opT p.k).1) = true from eQ d] at hst
      rw [iP ⟨a, b, d⟩]
      exact okk 2 _ r hst (by simp) (rv2 x y r).2.2
     ·rw [show (f9 2 (x :: y :: r) == (opT p.k).1) = false from nB d] at hst
      rw [iN (fun h => d h.2.2)]
      exact fail _ _ hst
    ·rw [iN (show ¬ f9 1 (x :: y :: r) = _ from b)] at hst
     rw [iN (fun h => b h.2.1)]
     exact fail _ _ hst
  ·rw [iN a] at hst
   have f := fail _ _ hst
   match rs, f with
   | [], f => exact f
   | [x], f => exact f
   | x :: y :: r, f => simp only; rw [iN (fun h => a h.1)]; exact f
 by_cases h7 : p.op = 7
 ·have hst : aG p n (av.mk s c) rs.reverse = if f9 3 rs = 98 then (if f9 1 rs = f9 2 rs then some (3, f9 1 rs, f9 1 rs != 0) else some (3, f9 1 rs, false)) else some (3, f9 1 rs, false) := by
   unfold aG; rw [iN h1, iN h2, iN h3, iN h4, iN h5, show (p.op == 6) = false by simp [h6]]
   unfold bn
   rw [iN (by decide), iP h7, t1, t3]
   simp only [bSq]
   rw [t2]
   simp only [bSq]
  unfold dy; rw [iN h1, iN h2, iN h3, iN h4, iN h5, iN h6, iP h7]
  match rs, hst, okk, fail, hs with
  | [], hst, _, fail, _ => rw [iN (by show ¬ (0 : Int) = _; omega)] at hst; exact fail _ _ hst
  | [x], hst, _, fail, _ => rw [iN (by show ¬ (0 : Int) = _; omega)] at hst; exact fail _ _ hst
  | [x, y], hst, _, fail, _ => rw [iN (by show ¬ (0 : Int) = _; omega)] at hst; exact fail _ _ hst
  | x :: y :: z :: r, hst, okk, fail, hs =>
   simp only
   by_cases b : z = 98
   ·rw [iP (show f9 3 (x :: y :: z :: r) = 98 from b)] at hst
    by_cases d : y = x
    ·have hx : x ≠ 0 := by rcases hs x (by simp) with h | h <;> omega
     rw [iP (show f9 1 (x :: y :: z :: r) = f9 2 (x :: y :: z :: r) from d.symm), show (f9 1 (x :: y :: z :: r) != 0) = true from bne_iff_ne.2 hx] at hst
     rw [iP ⟨b, d⟩]
     exact okk 3 x r hst (by simp) (rv3 x y z r).2.2.2
    ·rw [iN (show ¬ f9 1 (x :: y :: z :: r) = f9 2 (x :: y :: z :: r) from fun h => d h.symm)] at hst
     rw [iN (fun h => d h.2)]
     exact fail _ _ hst
   ·rw [iN (show ¬ f9 3 (x :: y :: z :: r) = 98 from b)] at hst
    rw [iN (fun h => b h.1)]
    exact fail _ _ hst
 by_cases h8 : p.op = 8
 ·obtain ⟨q1, q2, q3⟩ := hvar (.inr (.inr h8))
  have hst : aG p n (av.mk s c) rs.reverse = if (s.vars.getD p.v.toNat default).n > 0 then (if f9 1 rs = (s.vars.getD p.v.toNat default).elem then some (2, (s.vars.getD p.v.toNat default).elem, f9 2 rs == 105) else some (2, (s.vars.getD p.v.toNat default).elem, false)) else some (2, (s.vars.getD p.v.toNat default).elem, false) := by
   unfold aG; rw [iN h1, iN h2, iN h3, iN h4, iN h5, show (p.op == 6) = false by simp [h6]]
   unfold bn
   rw [iN (by decide), iN h7, iP h8, iP q1, t1]
   simp only [bSq]
   rw [t2]
   simp only [bSq]
  unfold dy; rw [iN h1, iN h2, iN h3, iN h4, iN h5, iN h6, iN h7, iP h8]
  match rs, hst, okk, fail with
  | [], hst, _, fail =>
   by_cases a : (s.vars.getD p.v.toNat default).n > 0
   ·rw [iP a, iN (by show ¬ (0 : Int) = _; rcases q3 with h | h <;> omega)] at hst; exact fail _ _ hst
   ·rw [iN a] at hst; exact fail _ _ hst
  | [x], hst, _, fail =>
   rw [show (f9 2 [x] == 105) = false from rfl] at hst
   exact fail _ _ (by rw [hst]; split <;> (try split) <;> rfl)
  | x :: y :: r, hst, okk, fail =>
   simp only
   by_cases a : (s.vars.getD p.v.toNat default).n > 0
   ·rw [iP a] at hst
    by_cases b : x = (s.vars.getD p.v.toNat default).elem
    ·rw [iP (show f9 1 (x :: y :: r) = _ from b)] at hst
     by_cases d : y = 105
     ·rw [show (f9 2 (x :: y :: r) == 105) = true from eQ d] at hst
      rw [iP ⟨a, d, b⟩]
      exact okk 2 _ r hst (by simp) (rv2 x y r).2.2
     ·rw [show (f9 2 (x :: y :: r) == 105) = false from nB d] at hst
      rw [iN (fun h => d h.2.1)]
      exact fail _ _ hst
    ·rw [iN (show ¬ f9 1 (x :: y :: r) = _ from b)] at hst
     rw [iN (fun h => b h.2.2)]
     exact fail _ _ hst
   ·rw [iN a] at hst
    rw [iN (fun h => a h.1)]
    exact fail _ _ hst
 ·have hst : aG p n (av.mk s c) rs.reverse = some (0, 0, false) := by
   unfold aG; rw [iN h1, iN h2, iN h3, iN h4, iN h5, show (p.op == 6) = false by simp [h6]]
   unfold bn
   rw [iN (by decide), iN h7, iN h8]
  unfold dy; rw [iN h1, iN h2, iN h3, iN h4, iN h5, iN h6, iN h7, iN h8]
  exact fail _ _ hst
theorem uY (x m : Int) (r : List Int) : ((x :: r).reverse).set r.length m = (m :: r).reverse := by simp
theorem wl1 (x : Int) (r : List Int) (h : r.length ≤ 1000) : IntKind.wrap .i64 (((x :: r).reverse.length : Int) - 1) = (r.length : Int) := by
 rw [eq, List.length_cons, wr (by omega) (by omega)]; omega
theorem wl2 (x y : Int) (r : List Int) (h : r.length ≤ 1000) : IntKind.wrap .i64 (((x :: y :: r).reverse.length : Int) - 2) = (r.length : Int) ∧ IntKind.wrap .i64 (((x :: y :: r).reverse.length : Int) - 1) = ((r.length + 1 : Nat) : Int) := by
 rw [eq, List.length_cons, List.length_cons, wr (by omega) (by omega), wr (by omega) (by omega)]; omega
theorem wl3 (x y z : Int) (r : List Int) (h : r.length ≤ 1000) : IntKind.wrap .i64 (((x :: y :: z :: r).reverse.length : Int) - 3) = (r.length : Int) ∧ IntKind.wrap .i64 (((x :: y :: z :: r).reverse.length : Int) - 2) = ((r.length + 1 : Nat) : Int) ∧
  IntKind.wrap .i64 (((x :: y :: z :: r).reverse.length : Int) - 1) = ((r.length + 2 : Nat) : Int) := by
 rw [eq, List.length_cons, List.length_cons, List.length_cons, wr (by omega) (by omega), wr (by omega) (by omega), wr (by omega) (by omega)]; omega
theorem hO (l : List Int) (x : Int) : l.reverse ++ (lit ([x] : List Int)) = (x :: l).reverse := by simp [lit]
theorem sy (n : Int) : i9 n = some (decide (n ≥ -1000000 ∧ n ≤ 1000000)) := by
 unfold i9
 by_cases a : n ≥ -1000000
 ·rw [iP a]; simp [a]
 ·rw [iN a]; simp [a]
theorem uf {s : af} {e : List aB} {n : Int} {rs : List Int} {i : Nat} (hv : fh s) (hu : nZ s (e.getD i default)) (hn : 1 ≤ n ∧ n ≤ 300) (hl : rs.length ≤ 900) (hi : i < e.length) (hi' : i < 100000) :
  dx s e n rs.reverse (i : Int) = some (vL (0 : Int) i (dy s n (e.getD i default) rs)) := by
 unfold dx
 rw [iP (ltI hi), iP (inI hi)]
 simp only [tN]
 rw [wrs i (by omega)]
 obtain ⟨p, hp⟩ : ∃ p, e.getD i default = p := ⟨_, rfl⟩
 simp only [hp]
 rw [hp] at hu
 have hroom : dD (rs.reverse.length + 1) 1 := o7 _ (by simp; omega)
 have hvar : p.op = 2 ∨ p.op = 3 ∨ p.op = 8 → (0 ≤ p.v ∧ p.v < (s.vars.length : Int)) ∧ (0 ≤ (s.vars.getD p.v.toNat default).n ∧ (s.vars.getD p.v.toNat default).n ≤ 300) := fun ho => by
  have h := hu ho
  have hm : s.vars.getD p.v.toNat default ∈ s.vars := bJ (by unfold inV at h; omega)
  exact ⟨h, hv.n _ hm⟩
 by_cases h1 : p.op = 1
 ·unfold dy; rw [iP h1, iP h1]
  by_cases k0 : p.k = 0
  ·rw [iP k0, iP k0, iP hroom, hO]; rfl
  ·rw [iN k0, iN k0]
   by_cases k1 : p.k = 1
   ·rw [iP k1]
    by_cases n0 : p.n = 0
    ·rw [iP n0, iP hroom, hO, iP ⟨k1, .inl n0⟩]; rfl
    ·rw [iN n0]
     by_cases n1 : p.n = 1
     ·rw [iP n1, iP hroom, hO, iP ⟨k1, .inr n1⟩]; rfl
     ·rw [iN n1, iN (by omega)]; rfl
   ·rw [iN k1, iN (fun h => k1 h.1)]; rfl
 rw [iN h1]
 by_cases h2 : p.op = 2
 ·obtain ⟨q1, q2⟩ := hvar (.inl h2)
  unfold dy; rw [iP h2, iN h1, iP h2, iP q1]
  by_cases n0 : (s.vars.getD p.v.toNat default).n = 0
  ·rw [iN (fun h => h n0), iP hroom, hO, iP n0]; rfl
  ·rw [iP n0, iN n0]; rfl
 rw [iN h2]
 by_cases h3 : p.op = 3
 ·obtain ⟨q1, q2⟩ := hvar (.inr (.inl h3))
  unfold dy; rw [iP h3, iN h1, iN h2, iP h3, iP q1]
  by_cases n0 : (s.vars.getD p.v.toNat default).n = 0
  ·rw [iP n0, iN (by omega)]; rfl
  ·rw [iN n0]
   by_cases a : p.n < 0
   ·rw [iP a, iN (by omega)]; rfl
   ·rw [iN a]
    by_cases b : (s.vars.getD p.v.toNat default).n < n
    ·rw [iP b, iN (by omega)]; rfl
    ·rw [iN b, wr (by omega) (by omega)]
     by_cases d : p.n > (s.vars.getD p.v.toNat default).n - n
     ·rw [iP d, iN (by omega)]; rfl
     ·rw [iN d, iP hroom, hO, iP (by omega)]; rfl
 rw [iN h3]
 by_cases h4 : p.op = 4
 ·unfold dy; rw [iP h4, iN h1, iN h2, iN h3, iP h4, sy]
  simp only [bSq]
  by_cases a : p.n ≥ -1000000 ∧ p.n ≤ 1000000
  ·rw [iP (dT a), iP hroom, hO, iP a]; rfl
  ·rw [iN (by simpa using a), iN a]; rfl
 rw [iN h4]
 by_cases h5 : p.op = 5
 ·unfold dy; rw [iP h5, iN h1, iN h2, iN h3, iN h4, iP h5, cE]
  simp only [bSq]
  match rs, hl with
  | [], _ =>
   split
   ·rfl
   ·rw [iP (by simp)]; rfl
  | x :: r, hl =>
   simp only [List.length_cons] at hl
   simp only
   by_cases a : (opT p.k).2.2 = 1
   ·rw [iN (fun h => h a), iN (by rw [eq]; simp; omega), wl1 _ _ (by omega), iP ⟨by omega, by rw [eq]; simp; omega⟩]
    simp only [tN]
    simp only [(rv1 x r).1]
    by_cases b : x = (opT p.k).1
    ·rw [iN (fun h => h b), uY, iP ⟨a, b⟩]; rfl
    ·rw [iP b, iN (fun h => b h.2)]; rfl
   ·rw [iP a, iN (fun h => a h.1)]; rfl
 rw [iN h5]
 by_cases h6 : p.op = 6
 ·unfold dy; rw [iP h6, iN h1, iN h2, iN h3, iN h4, iN h5, iP h6, cE]
  simp only [bSq]
  match rs, hl with
  | [], _ =>
   split
   ·rfl
   ·rw [iP (by simp)]; rfl
  | [x], _ =>
   split
   ·rfl
   ·rw [iP (by simp)]; rfl
  | x :: y :: r, hl =>
   simp only [List.length_cons] at hl
   simp only
   obtain ⟨w2, w1⟩ := wl2 x y r (by omega)
   obtain ⟨g1, g2, g3⟩ := rv2 x y r
   by_cases a : (opT p.k).2.2 = 2
   ·rw [iN (fun h => h a), iN (by rw [eq]; simp; omega), w1, iP ⟨by omega, by rw [eq]; simp; omega⟩]
    simp only [tN]
    simp only [g2]
    by_cases b : x = (opT p.k).1
    ·rw [iN (fun h => h b), w2, iP ⟨by omega, by rw [eq]; simp; omega⟩]
     simp only [tN]
     simp only [g1]
     by_cases d : y = (opT p.k).1
     ·rw [iN (fun h => h d), iP ⟨⟨by omega, by rw [eq]; simp; omega⟩, o7 _ (by omega)⟩, g3, hO, iP ⟨a, b, d⟩]; rfl
     ·rw [iP d, iN (fun h => d h.2.2)]; rfl
    ·rw [iP b, iN (fun h => b h.2.1)]; rfl
   ·rw [iP a, iN (fun h => a h.1)]; rfl
 rw [iN h6]
 by_cases h7 : p.op = 7
 ·unfold dy; rw [iP h7, iN h1, iN h2, iN h3, iN h4, iN h5, iN h6, iP h7]
  match rs, hl with
  | [], _ => rw [iP (by simp)]; rfl
  | [x], _ => rw [iP (by simp)]; rfl
  | [x, y], _ => rw [iP (by simp)]; rfl
  | x :: y :: z :: r, hl =>
   simp only [List.length_cons] at hl
   simp only
   obtain ⟨w3, w2, w1⟩ := wl3 x y z r (by omega)
   obtain ⟨g1, g2, g3, g4⟩ := rv3 x y z r
   rw [iN (by rw [eq]; simp; omega), w3, iP ⟨by omega, by rw [eq]; simp; omega⟩]
   simp only [tN]
   simp only [g1]
   by_cases b : z = 98
   ·rw [iN (fun h => h b), w2, w1, iP ⟨⟨by omega, by rw [eq]; simp; omega⟩, by omega, by rw [eq]; simp; omega⟩]
    simp only [tN]
    simp only [g2, g3]
    by_cases d : y = x
    ·rw [iN (fun h => h d), iP ⟨⟨by omega, by rw [eq]; simp; omega⟩, o7 _ (by omega)⟩, g4, hO, iP ⟨b, d⟩]; rfl
    ·rw [iP d, iN (fun h => d h.2)]; rfl
   ·rw [iP b, iN (fun h => b h.1)]; rfl
 rw [iN h7]
 by_cases h8 : p.op = 8
 ·obtain ⟨q1, q2⟩ := hvar (.inr (.inr h8))
  unfold dy; rw [iP h8, iN h1, iN h2, iN h3, iN h4, iN h5, iN h6, iN h7, iP h8, iP q1]
  match rs, hl with
  | [], _ =>
   split
   ·rfl
   ·rw [iP (by simp)]; rfl
  | [x], _ =>
   split
   ·rfl
   ·rw [iP (by simp)]; rfl
  | x :: y :: r, hl =>
   simp only [List.length_cons] at hl
   simp only
   obtain ⟨w2, w1⟩ := wl2 x y r (by omega)
   obtain ⟨g1, g2, g3⟩ := rv2 x y r
   by_cases a : (s.vars.getD p.v.toNat default).n = 0
   ·rw [iP a, iN (by omega)]; rfl
   ·rw [iN a, iN (by rw [eq]; simp; omega), w2, iP ⟨by omega, by rw [eq]; simp; omega⟩]
    simp only [tN]
    simp only [g1]
    by_cases b : y = 105
    ·rw [iN (fun h => h b), w1, iP ⟨by omega, by rw [eq]; simp; omega⟩]
     simp only [tN]
     simp only [g2]
     by_cases d : x = (s.vars.getD p.v.toNat default).elem
     ·rw [iN (fun h => h d), iP ⟨⟨by omega, by rw [eq]; simp; omega⟩, o7 _ (by omega)⟩, g3, hO, iP ⟨by omega, b, d⟩]; rfl
     ·rw [iP d, iN (fun h => d h.2.2)]; rfl
    ·rw [iP b, iN (fun h => b h.2.1)]; rfl
 ·rw [iN h8]
  unfold dy; rw [iN h1, iN h2, iN h3, iN h4, iN h5, iN h6, iN h7, iN h8]; rfl
def qn (s : af) (n : Int) : List aB → List Int → Option (List Int)
 | [], rs => some rs
 | p :: e, rs => match dy s n p rs with | some rs' => qn s n e rs' | none => none
def o8 (s : af) (n : Int) (e : List aB) : Int := match qn s n e [] with | some [x] => x | _ => 0
theorem n3 {Z : Type} (s : af) (n : Int) (z : Z) : ∀ (e : List aB) (i : Nat) (rs : List Int), jc (fun _ a p => match dy s n p a with | some a' => .inl a' | none => .inr z) i e rs = match qn s n e rs with | some a => .inl a | none => .inr z
 | [], i, rs => rfl
 | p :: e, i, rs => by
  rw [jc, qn]
  cases dy s n p rs with
  | none => rfl
  | some a => exact n3 s n z e (i + 1) a
theorem sA {s : af} {c : Int} {e : List aB} {n : Int} (hv : fh s) (hu : ∀ p ∈ e, nZ s p) (hn : 1 ≤ n ∧ n ≤ 300) (he : e.length ≤ 800) :
  (∃ q : Int × Bool, fI e n (av.mk s c) = some q ∧ (q.2 = true → q.1 = o8 s n e ∧ okE q.1) ∧ (q.2 = false → o8 s n e = 0)) ∧ iB s e n = some (o8 s n e) := by
 have I : ∀ (i : Nat) (a : List Int), i < e.length → (okS a ∧ a.length ≤ i) → ∀ a', dy s n (e.getD i default) a = some a' → okS a' ∧ a'.length ≤ i + 1 := by
  intro i a hi ha a' h
  obtain ⟨k1, k2⟩ := tq hv (hu _ (bJ hi)) ha.1 h
  exact ⟨k1, by omega⟩
 obtain ⟨h1, h2⟩ := j6 (A := List Int) (T := aB) (O := List Int) (Z := Int × Bool) (S := List Int × Int) (fun a i => (a.reverse, i)) (body := fun x => aW e n (av.mk s c) x.1 x.2) e
  (fun _ a p => match dy s n p a with | some a' => .inl a' | none => .inr (0, false)) (fun i a => okS a ∧ a.length ≤ i) (fun a => a.reverse) [] ⟨fun x hx => by simp at hx, by simp⟩
  (by
   intro i a hi ha
   refine ⟨?_, ?_⟩
   ·show aW e n (av.mk s c) a.reverse (i : Int) = _
    rw [ue hv (hu _ (bJ hi)) ha.1 hn (by omega) hi (by omega)]
    cases dy s n (e.getD i default) a <;> rfl
   ·intro a' h
    cases hx : dy s n (e.getD i default) a with
    | none => rw [hx] at h; cases h
    | some b =>
     rw [hx] at h
     simp only [Sum.inl.injEq] at h
     subst h
     exact I i a hi ha b hx)
  (by
   intro a _
   show aW e n (av.mk s c) a.reverse (e.length : Int) = _
   unfold aW
   rw [iN (bj _)])
 obtain ⟨h3, h4⟩ := j6 (A := List Int) (T := aB) (O := List Int) (Z := Int) (S := List Int × Int) (fun a i => (a.reverse, i)) (body := fun x => dx s e n x.1 x.2) e
  (fun _ a p => match dy s n p a with | some a' => .inl a' | none => .inr 0) (fun i a => okS a ∧ a.length ≤ i) (fun a => a.reverse) [] ⟨fun x hx => by simp at hx, by simp⟩
  (by
   intro i a hi ha
   refine ⟨?_, ?_⟩
   ·show dx s e n a.reverse (i : Int) = _
    rw [uf hv (hu _ (bJ hi)) hn (by omega) hi (by omega)]
    cases dy s n (e.getD i default) a <;> rfl
   ·intro a' h
    cases hx : dy s n (e.getD i default) a with
    | none => rw [hx] at h; cases h
    | some b =>
     rw [hx] at h
     simp only [Sum.inl.injEq] at h
     subst h
     exact I i a hi ha b hx)
  (by
   intro a _
   show dx s e n a.reverse (e.length : Int) = _
   unfold dx
   rw [iN (bj _)])
 rw [n3] at h1 h2 h3
 have e1 : fI e n (av.mk s c) = (a8 (fun x : List Int × Int => aW e n (av.mk s c) x.1 x.2) (([] : List Int).reverse, 0)).bind (Sum.elim (fun z => bO z) (fun z => some z)) := rfl
 have e2 : iB s e n = (a8 (fun x : List Int × Int => dx s e n x.1 x.2) (([] : List Int).reverse, 0)).bind (Sum.elim (fun z => d5 z) (fun z => some z)) := rfl
 rw [e1, e2, h1, h3]
 simp only [bSq]
 unfold o8
 cases ht : qn s n e [] with
 | none => exact ⟨⟨(0, false), rfl, fun h => (by cases h), fun _ => rfl⟩, rfl⟩
 | some a =>
  have ha := (h2 a (by rw [ht])).1
  simp only [Sum.elim_inl]
  match a, ha with
  | [], _ =>
   refine ⟨⟨(0, false), ?_, fun h => (by cases h), fun _ => rfl⟩, ?_⟩
   ·unfold bO; rw [iP (by simp)]
   ·unfold d5; rw [iP (by simp)]
  | [x], ha =>
   refine ⟨⟨(x, true), ?_, fun _ => ⟨rfl, ha x (by simp)⟩, fun h => by cases h⟩, ?_⟩
   ·unfold bO; rw [iN (by simp), iP (by simp)]; rfl
   ·unfold d5; rw [iN (by simp), iP (by simp)]; rfl
  | x :: y :: r, _ =>
   refine ⟨⟨(0, false), ?_, fun h => (by cases h), fun _ => rfl⟩, ?_⟩
   ·unfold bO; rw [iP (by simp; omega)]
   ·unfold d5; rw [iP (by simp; omega)]
def vOf (s : af) (x : Int) : ao := s.vars.getD x.toNat default
theorem fp (s : af) (x : Int) : s.vars.getD x.toNat default = vOf s x := by rw [vOf]
def kK (a b : ao) : Bool := a.elem == b.elem && a.n == b.n
def ln (s : af) (l : List Int) (i : Nat) : Option Bool := if kK (vOf s (l.getD i default)) (vOf s (l.getD 0 default)) then none else some false
theorem o9 (s : af) (l : List Int) : (match dB l.length (ln s l) () with | .inr z => z | .inl _ => true) = l.all (fun x => kK (vOf s x) (vOf s (l.getD 0 default))) := by
 rcases cZ l.length (ln s l) () with ⟨e, h⟩ | ⟨j, z, hj, hf, e⟩
 ·rw [e]
  symm
  show _ = true
  rw [List.all_eq_true]
  intro x hx
  obtain ⟨i, hi, rfl⟩ := List.mem_iff_getElem.1 hx
  have := h i hi
  unfold ln at this
  have e2 : l.getD i default = l[i] := by simp [List.getD, hi]
  rw [e2] at this
  split at this
  ·assumption
  ·cases this
 ·rw [e]
  unfold ln at hf
  split at hf
  ·cases hf
  ·rename_i hb
   simp only [sJ] at hf
   subst hf
   symm
   show _ = false
   rw [List.all_eq_false]
   exact ⟨_, bJ hj, hb⟩
theorem kR (a b : ao) : kK a b = true ↔ a.elem = b.elem ∧ a.n = b.n := by unfold kK; simp
theorem ug {s : af} {c : Int} {l : List Int} (hl : 0 < l.length) (hb : l.length ≤ 1000) (hin : ∀ x ∈ l, inV s x) :
  fF l (av.mk s c) = some (l.all (fun x => kK (vOf s x) (vOf s (l.getD 0 default)))) := by
 unfold fF
 rw [bw l.length (ln s l) () (fun i hi => by
  unfold dZ ln
  have g0 := hin _ (bJ (l := l) (i := 0) hl)
  have gi := hin _ (bJ hi)
  unfold inV at g0 gi
  rw [iP (ltI hi), iP (inI hi)]
  simp only [tN]
  rw [iP ⟨gi, by omega, g0⟩, wrs i (by omega)]
  simp only [fp]
  by_cases h : kK (vOf s (l.getD i default)) (vOf s (l.getD 0 default)) = true
  ·rw [iP ((kR _ _).1 h), iP h]
  ·rw [iN (fun h' => h ((kR _ _).2 h')), iN h]) (by unfold dZ; rw [iN (bj _)])]
 rw [← o9]
 cases dB l.length (ln s l) () <;> rfl
theorem qo {s : af} {c : Int} {l : List Int} (hl : 0 < l.length) (hb : l.length ≤ 1000) (hin : ∀ x ∈ l, inV s x) :
  dz (av.mk s c) l = some (l.all (fun x => kK (vOf s x) (vOf s (l.getD 0 default)))) := by
 unfold dz
 rw [bw l.length (ln s l) () (fun i hi => by
  unfold dr ln
  have g0 := hin _ (bJ (l := l) (i := 0) hl)
  have gi := hin _ (bJ hi)
  unfold inV at g0 gi
  rw [iP (ltI hi), iP (inI hi)]
  simp only [tN]
  rw [iP ⟨gi, by omega, g0⟩, wrs i (by omega)]
  simp only [fp]
  by_cases h : kK (vOf s (l.getD i default)) (vOf s (l.getD 0 default)) = true
  ·rw [iP ((kR _ _).1 h), iP h]
  ·rw [iN (fun h' => h ((kR _ _).2 h')), iN h]) (by unfold dr; rw [iN (bj _)])]
 rw [← o9]
 cases dB l.length (ln s l) () <;> rfl
def pK (k : Int) : Bool := (opT k).2.2 == 2 && (opT k).1 == (opT k).2.1
theorem cP (k : Int) : fG k = some (pK k) := by
 unfold fG pK
 rw [e7]
 simp only [bSq]
 split
 ·rename_i h; rw [h]; rfl
 ·rename_i h; rw [nB h]; rfl
theorem cQ (k : Int) : gJ k = some (pK k) := by
 unfold gJ pK
 rw [cE]
 simp only [bSq]
 split
 ·rename_i h; rw [h]; rfl
 ·rename_i h; rw [nB h]; rfl
def j7 (n : Int) : Int := if n < 1 then 1 else n
theorem jn (n : Int) : iW n = some (j7 n) := by
 unfold iW j7; split <;> rfl
theorem uZ (n : Int) : (if 1 > n then 1 else n) = j7 n := rfl
def hP (s : af) (a : List Int) : List ao := [if 0 < a.length then vOf s (a.getD 0 default) else ⟨0, 0⟩, if 1 < a.length then vOf s (a.getD 1 default) else ⟨0, 0⟩, if 2 < a.length then vOf s (a.getD 2 default) else ⟨0, 0⟩]
theorem uh {s : af} {r : ah} {i : Nat} {l : List ao} (hi : i < r.a.length) (h3 : r.a.length ≤ 3) (hl : l.length = 3) (hin : ∀ x ∈ r.a, inV s x) :
  bq s r l (i : Int) = some (.inl (l.set i (vOf s (r.a.getD i default)), ((i + 1 : Nat) : Int))) := by
 unfold bq
 have gi := hin _ (bJ hi)
 unfold inV at gi
 rw [iP (ltI hi)]
 simp only [tN]
 rw [iP ⟨inI hi, gi, by omega, by omega⟩, wrs i (by omega)]
 rfl
theorem tu {s : af} {r : ah} (h3 : r.a.length ≤ 3) (hin : ∀ x ∈ r.a, inV s x) :
  a8 (fun x : List ao × Int => bq s r x.1 x.2) (List.replicate 3 (ao.mk 0 0), 0) = some (hP s r.a) := by
 have fin : ∀ l, a8 (fun x : List ao × Int => bq s r x.1 x.2) (l, (r.a.length : Int)) = some l := fun l => cO (by
  show bq s r l (r.a.length : Int) = _
  unfold bq
  rw [iN (bj _)])
 have nx : ∀ (i : Nat) (l : List ao), i < r.a.length → l.length = 3 → a8 (fun x : List ao × Int => bq s r x.1 x.2) (l, (i : Int)) = a8 (fun x : List ao × Int => bq s r x.1 x.2) (l.set i (vOf s (r.a.getD i default)), ((i + 1 : Nat) : Int)) :=
  fun i l hi hl => cN (uh hi h3 hl hin)
 have e : r.a.length = 0 ∨ r.a.length = 1 ∨ r.a.length = 2 ∨ r.a.length = 3 := by omega
 unfold hP
 rcases e with e | e | e | e
 ·have := fin (List.replicate 3 (ao.mk 0 0))
  rw [e] at this ⊢
  exact this
 ·have h0 := nx 0 (List.replicate 3 (ao.mk 0 0)) (by omega) rfl
  have := fin ((List.replicate 3 (ao.mk 0 0)).set 0 (vOf s (r.a.getD 0 default)))
  rw [e] at this ⊢
  exact h0.trans this
 ·have h0 := nx 0 (List.replicate 3 (ao.mk 0 0)) (by omega) rfl
  have h1 := nx 1 ((List.replicate 3 (ao.mk 0 0)).set 0 (vOf s (r.a.getD 0 default))) (by omega) rfl
  have := fin (((List.replicate 3 (ao.mk 0 0)).set 0 (vOf s (r.a.getD 0 default))).set 1 (vOf s (r.a.getD 1 default)))
  rw [e] at this ⊢
  exact h0.trans (h1.trans this)
 ·have h0 := nx 0 (List.replicate 3 (ao.mk 0 0)) (by omega) rfl
  have h1 := nx 1 ((List.replicate 3 (ao.mk 0 0)).set 0 (vOf s (r.a.getD 0 default))) (by omega) rfl
  have h2 := nx 2 (((List.replicate 3 (ao.mk 0 0)).set 0 (vOf s (r.a.getD 0 default))).set 1 (vOf s (r.a.getD 1 default))) (by omega) rfl
  have := fin ((((List.replicate 3 (ao.mk 0 0)).set 0 (vOf s (r.a.getD 0 default))).set 1 (vOf s (r.a.getD 1 default))).set 2 (vOf s (r.a.getD 2 default)))
  rw [e] at this ⊢
  exact h0.trans (h1.trans (h2.trans this))
theorem cj {s : af} {r : ah} (ho : inV s r.out_) (h3 : r.a.length ≤ 3) (hin : ∀ x ∈ r.a, inV s x) : ay s r = aK s r (hP s r.a) := by
 unfold ay
 unfold inV at ho
 rw [iP ho]
 show (a8 (fun x : List ao × Int => bq s r x.1 x.2) (List.replicate 3 (ao.mk 0 0), 0)).bind (fun z21 => aK s r z21) = _
 rw [tu h3 hin]
 rfl
def nmd (p : aB) : Bool := p.op == 2 || p.op == 3 || p.op == 8
def gB (a : List Int) (e : List aB) : List Int := (e.foldl (fun l p => if nmd p then l ++ [p.v] else l) a).foldl ins []
theorem wrN (i : Nat) (h : i < 1000000000) : IntKind.wrap .i64 ((i : Int) + 1) = ((i + 1 : Nat) : Int) := wrs i (by omega)
theorem pd (n : Nat) (h : n ≤ 1000000) : dD n 8 := by
 unfold dD
 have : maxLen = 9223372036854775807 := rfl
 omega
theorem tv (l : List Int) (h : l.length ≤ 1000000) : bh l = some l := by
 unfold bh
 by_cases e : l = []
 ·rw [iP e, e]
 ·rw [iN e, iP (pd _ h)]
theorem ui (l : List Int) (h : l.length ≤ 2000000) : (dp l).bind (fun y6 => (cG l.length y6).bind fun y7 => some y7) = some (l.foldl ins []) := by
 unfold dp cG
 rw [iP (by omega)]
 show (if l.length = (kf l).length ∧ (kf l).length ≤ 140737488355328 then some (Go.Lib.compact (kf l)) else none).bind (fun y7 => some y7) = _
 rw [iP ⟨(iM l).symm, by rw [iM]; omega⟩, nb]
 rfl
theorem lK (r : ah) (ha : r.a.length ≤ 500000) (he : r.e.length ≤ 500000) : i6 r = some (gB r.a r.e) := by
 unfold i6
 rw [tv _ (by omega)]
 show (a8 (fun (x : List Int × Int) => dS r x.1 x.2) (r.a, 0)).bind (fun z26 => gF z26) = _
 obtain ⟨h1, h2⟩ := jP (A := List Int) (T := aB) (O := List Int) (S := List Int × Int) (fun a i => (a, i)) (body := fun x => dS r x.1 x.2) r.e (fun l p => if nmd p then l ++ [p.v] else l)
  (fun i a => a.length ≤ r.a.length + i) (fun a => a) r.a (by omega)
  (by
   intro i a hi hI
   have step : ∀ b : Bool, b = nmd (r.e.getD i default) → eP r a (i : Int) b = some (.inl ((if nmd (r.e.getD i default) then a ++ [(r.e.getD i default).v] else a), ((i + 1 : Nat) : Int))) := by
    intro b hb
    subst hb
    unfold eP
    rw [wrN i (by omega)]
    cases nmd (r.e.getD i default)
    ·rfl
    ·rw [iP rfl, iP (pd _ (by omega))]; rfl
   refine ⟨?_, ?_⟩
   ·show dS r a (i : Int) = _
    unfold dS
    rw [iP (ltI hi), iP (inI hi)]
    simp only [tN]
    split
    ·rename_i h; exact step _ (by unfold nmd; rw [h]; rfl)
    ·rename_i h
     split
     ·rename_i h'; exact step _ (by unfold nmd; rw [h']; rfl)
     ·rename_i h'; exact step _ (by unfold nmd; rw [nB h, nB h']; rfl)
   ·split
    ·simp; omega
    ·omega)
  (by
   intro a hI
   show dS r a (r.e.length : Int) = _
   unfold dS
   rw [iN (bj _)])
 rw [h1]
 exact ui _ (by omega)
def jQ (n : Int) (s : List Int × Bool) (x : Int) : List Int × Bool :=
 if s.2 then (s.1 ++ [x], true) else if x ≥ n then (if x > n then (s.1 ++ [n] ++ [x], true) else (s.1 ++ [x], true)) else (s.1 ++ [x], false)
theorem pe (n : Int) (l : List Int) : ∀ (a : List Int), l.foldl (jQ n) (a, true) = (a ++ l, true) := by
 induction l with
 | nil => intro a; simp
 | cons x l ih => intro a; rw [List.foldl_cons]; show l.foldl (jQ n) (a ++ [x], true) = _; rw [ih]; simp
theorem ra (n : Int) (l : List Int) : ∀ (a : List Int), (let s := l.foldl (jQ n) (a, false); if s.2 then s.1 else s.1 ++ [n]) = a ++ ins l n := by
 induction l with
 | nil => intro a; simp [ins]
 | cons x l ih =>
  intro a
  rw [List.foldl_cons]
  by_cases h : x ≥ n
  ·by_cases h' : x > n
   ·have e : jQ n (a, false) x = (a ++ [n] ++ [x], true) := by simp [jQ, h, h']
    rw [e, pe]
    simp [ins, h, h']
   ·have e : jQ n (a, false) x = (a ++ [x], true) := by simp [jQ, h, h']
    rw [e, pe]
    simp [ins, h, h']
  ·have e : jQ n (a, false) x = (a ++ [x], false) := by simp [jQ, h]
   rw [e, ih]
   simp [ins, h]
theorem nh (l : List Int) (n : Int) : (ins l n).length ≤ l.length + 1 := by
 induction l with
 | nil => simp [ins]
 | cons x l ih =>
  unfold ins
  split
  ·split <;> simp
  ·simp; omega
theorem mj (l : List Int) (n : Int) (h : l.length ≤ 900000) : ip l n = some (ins l n) := by
 unfold ip
 obtain ⟨h1, h2⟩ := jP (A := List Int × Bool) (T := Int) (O := List Int × Bool) (S := List Int × Bool × Int) (fun a i => (a.1, a.2, i)) (body := fun x => dc l n x.1 x.2.1 x.2.2) l (jQ n)
  (fun i a => a.1.length ≤ i + (if a.2 then 1 else 0)) (fun a => a) ([], false) (by simp)
  (by
   intro i a hi hI
   obtain ⟨a, b⟩ := a
   simp only at hI
   have hlen : a.length ≤ i + 1 := by revert hI; cases b <;> simp <;> omega
   have j2 : ∀ (q : List Int) (c : Bool), q.length ≤ 999999 → db l (i : Int) q c = some (.inl (q ++ [l.getD i default], c, ((i + 1 : Nat) : Int))) := by
    intro q c hq
    unfold db
    rw [iP ⟨inI hi, pd _ (by omega)⟩, wrN i (by omega)]
    rfl
   refine ⟨?_, ?_⟩
   ·show dc l n a b (i : Int) = _
    unfold dc
    rw [iP (ltI hi)]
    cases b with
    | true =>
     rw [iP rfl, j2 _ _ (by omega)]
     rfl
    | false =>
     rw [iN (by decide), iP (inI hi)]
     simp only [tN]
     by_cases hge : l.getD i default ≥ n
     ·rw [iP hge]
      by_cases hgt : l.getD i default > n
      ·rw [iP hgt, iP (pd _ (by omega)), j2 _ _ (by simp [lit]; omega)]
       have e : jQ n (a, false) (l.getD i default) = (a ++ [n] ++ [l.getD i default], true) := by unfold jQ; rw [iN (by simp), iP hge, iP hgt]
       rw [e]; rfl
      ·rw [iN hgt, j2 _ _ (by omega)]
       have e : jQ n (a, false) (l.getD i default) = (a ++ [l.getD i default], true) := by unfold jQ; rw [iN (by simp), iP hge, iN hgt]
       rw [e]
     ·rw [iN hge, j2 _ _ (by omega)]
      have e : jQ n (a, false) (l.getD i default) = (a ++ [l.getD i default], false) := by unfold jQ; rw [iN (by simp), iN hge]
      rw [e]
   ·have gen : ∀ x : Int, (jQ n (a, b) x).1.length ≤ i + 1 + (if (jQ n (a, b) x).2 = true then 1 else 0) := by
     intro x
     unfold jQ
     cases b with
     | true => simp at hI ⊢; omega
     | false =>
      simp at hI
      by_cases hge : x ≥ n
      ·by_cases hgt : x > n
       ·simp only [Bool.false_eq_true, if_false, iP hge, iP hgt]; simp; omega
       ·simp only [Bool.false_eq_true, if_false, iP hge, iN hgt]; simp; omega
      ·simp only [Bool.false_eq_true, if_false, iN hge]; simp; omega
    exact gen _)
  (by
   intro a hI
   show dc l n a.1 a.2 (l.length : Int) = _
   unfold dc
   rw [iN (bj _)])
 show (a8 (fun (x : List Int × Bool × Int) => dc l n x.1 x.2.1 x.2.2) ([], false, 0)).bind (fun z => eo n z.1 z.2) = _
 rw [h1]
 have h3 := ra n l []
 simp only [List.nil_append] at h3
 have hl := nh l n
 rw [← h3] at hl ⊢
 simp only [bSq]
 unfold eo
 cases hs : (l.foldl (jQ n) ([], false)).2 with
 | true => simp
 | false =>
  rw [hs] at h2
  simp only [Bool.false_eq_true, if_false, Nat.add_zero] at h2 ⊢
  rw [iP (pd _ (by omega))]
  rfl
theorem oG (l a : List Int) : (l.foldl ins a).length ≤ a.length + l.length := by
 induction l generalizing a with
 | nil => simp
 | cons x l ih => rw [List.foldl_cons]; have := ih (ins a x); have := nh a x; simp; omega
theorem n5 (r : ah) (ha : r.a.length ≤ 400000) (he : r.e.length ≤ 400000) : kD r = some (gB r.a r.e) := by
 unfold kD
 obtain ⟨h1, h2⟩ := jP (A := List Int) (T := Int) (O := List Int) (S := List Int × Int) (fun a i => (a, i)) (body := fun x => d4 r x.1 x.2) r.a ins
  (fun i a => a.length ≤ i) (fun a => a) [] (by simp)
  (by
   intro i a hi hI
   refine ⟨?_, by have := nh a (r.a.getD i default); omega⟩
   show d4 r a (i : Int) = _
   unfold d4
   rw [iP (ltI hi), iP (inI hi)]
   simp only [tN]
   rw [mj _ _ (by omega), wrN i (by omega)]
   rfl)
  (by
   intro a hI
   show d4 r a (r.a.length : Int) = _
   unfold d4
   rw [iN (bj _)])
 show (a8 (fun (x : List Int × Int) => d4 r x.1 x.2) ([], 0)).bind (fun z => fL r z) = _
 rw [h1]
 simp only [bSq]
 unfold fL
 obtain ⟨h3, h4⟩ := jP (A := List Int) (T := aB) (O := List Int) (S := List Int × Int) (fun a i => (a, i)) (body := fun x => d3 r x.1 x.2) r.e (fun l p => if nmd p then ins l p.v else l)
  (fun i a => a.length ≤ r.a.length + i) (fun a => a) (r.a.foldl ins []) (by simpa using h2)
  (by
   intro i a hi hI
   have hn : jM (r.e.getD i default) = some (nmd (r.e.getD i default)) := by
    unfold jM nmd
    split
    ·rename_i h; rw [h]; rfl
    ·rename_i h
     split
     ·rename_i h'; rw [h']; rfl
     ·rename_i h'; rw [nB h, nB h']; rfl
   refine ⟨?_, ?_⟩
   ·show d3 r a (i : Int) = _
    unfold d3
    rw [iP (ltI hi), iP (inI hi)]
    simp only [tN]
    rw [hn, wrN i (by omega)]
    simp only [bSq]
    cases nmd (r.e.getD i default)
    ·rfl
    ·simp only [if_true]
     rw [mj _ _ (by omega)]
     rfl
   ·split
    ·have := nh a (r.e.getD i default).v; omega
    ·omega)
  (by
   intro a hI
   show d3 r a (r.e.length : Int) = _
   unfold d3
   rw [iN (bj _)])
 show (a8 (fun (x : List Int × Int) => d3 r x.1 x.2) (r.a.foldl ins [], 0)).bind (fun z => gI z) = _
 rw [h3]
 have key : ∀ (e : List aB) (a b : List Int), e.foldl (fun l p => if nmd p then ins l p.v else l) (a.foldl ins b) = (e.foldl (fun l p => if nmd p then l ++ [p.v] else l) a).foldl ins b := by
  intro e
  induction e with
  | nil => intro a b; rfl
  | cons p e ih =>
   intro a b
   rw [List.foldl_cons, List.foldl_cons]
   cases nmd p
   ·simp only [Bool.false_eq_true, if_false]; exact ih a b
   ·simp only [if_true]
    rw [← ih, List.foldl_append]
    rfl
 rw [key]
 rfl
structure hQ (s : af) (r : ah) : Prop where
 o : inV s r.out_
 a : ∀ x ∈ r.a, inV s x
 u : 14 ≤ r.op → ∀ p ∈ r.e, nZ s p
 e : r.e.length ≤ 24
theorem aX {s : af} (hv : fh s) {x : Int} (h : inV s x) : okE (vOf s x).elem ∧ 0 ≤ (vOf s x).n ∧ (vOf s x).n ≤ 300 := by
 have : s.vars.getD x.toNat default ∈ s.vars := bJ (by unfold inV at h; omega)
 exact ⟨hv.e _ this, hv.n _ this⟩
theorem cF (e : Int) : eV e = some (ao.mk e 0) := by unfold eV; rfl
theorem rI {s : af} {c x : Int} (h : inV s x) : fH x (av.mk s c) = some (ao.mk (vOf s x).elem 0, decide ((vOf s x).n > 0)) := by
 unfold fH
 unfold inV at h
 rw [iP h, cF]
 rfl
theorem wrd {a b : Int} (ha : 0 ≤ a ∧ a ≤ 300) (hb : 0 ≤ b ∧ b ≤ 300) : IntKind.wrap .i64 (a - b) = a - b ∧ IntKind.wrap .i64 (a + b) = a + b := ⟨wr (by omega) (by omega), wr (by omega) (by omega)⟩
theorem n6 {s : af} {c : Int} {r : ah} {o : ao} {n : Int} (hv : fh s) (hu : ∀ p ∈ r.e, nZ s p) (he : r.e.length ≤ 24) (ho : okE o.elem) (hn : 1 ≤ n ∧ n ≤ 300) :
  cJ r o (av.mk s c) n = some (o8 s n r.e == o.elem) ∧ iB s r.e n = some (o8 s n r.e) := by
 obtain ⟨⟨q, h1, h2, h3⟩, h4⟩ := sA (c := c) hv hu hn (by omega)
 refine ⟨?_, h4⟩
 unfold cJ
 rw [h1]
 simp only [bSq]
 by_cases hq : q.2 = true
 ·rw [iP hq, (h2 hq).1]
 ·rw [iN hq, h3 (by simpa using hq)]
  congr 1
  symm
  rw [beq_eq_false_iff_ne]
  unfold okE at ho
  omega
theorem wi {s : af} {c : Int} {k o n : Int} {e : List aB} (hv : fh s) (h : hQ s (ah.mk 1 k o n [] e)) :
  aC (ah.mk 1 k o n [] e) (av.mk s c) = ay s (ah.mk 1 k o n [] e) ∧ ay s (ah.mk 1 k o n [] e) ≠ none := by
 have ho : inV s o := h.o
 rw [cj h.o (by simp) h.a]
 have go := aX hv ho
 unfold inV at ho
 simp only [aC, aP, aO, aN, aK, ho, and_self, bSq, e7, cE, cP, cQ, cF, fp, List.length_cons, List.length_nil, List.getD_cons_zero, List.getD_cons_succ, hP, Nat.reduceAdd, Nat.reduceLT, if_true, if_false, reduceCtorEq]
 unfold okE at *
 refine ⟨?_, ?_⟩ <;> grind
theorem wj {s : af} {c : Int} {k o n x : Int} {e : List aB} (hv : fh s) (h : hQ s (ah.mk 2 k o n [x] e)) :
  aC (ah.mk 2 k o n [x] e) (av.mk s c) = ay s (ah.mk 2 k o n [x] e) ∧ ay s (ah.mk 2 k o n [x] e) ≠ none := by
 have ho : inV s o := h.o
 have hx : inV s x := h.a x (by simp)
 rw [cj h.o (by simp) h.a]
 have go := aX hv ho
 have gx := aX hv hx
 unfold inV at ho hx
 simp only [aC, aP, aO, aN, aK, ho, hx, and_self, bSq, e7, cE, cP, cQ, cF, fp, List.length_cons, List.length_nil, List.getD_cons_zero, List.getD_cons_succ, hP, Nat.reduceAdd, Nat.reduceLT, if_true, if_false, reduceCtorEq]
 unfold okE at *
 refine ⟨?_, ?_⟩ <;> grind
theorem wk {s : af} {c : Int} {k o n x : Int} {e : List aB} (hv : fh s) (h : hQ s (ah.mk 3 k o n [x] e)) :
  aC (ah.mk 3 k o n [x] e) (av.mk s c) = ay s (ah.mk 3 k o n [x] e) ∧ ay s (ah.mk 3 k o n [x] e) ≠ none := by
 have ho : inV s o := h.o
 have hx : inV s x := h.a x (by simp)
 rw [cj h.o (by simp) h.a]
 have go := aX hv ho
 have gx := aX hv hx
 unfold inV at ho hx
 simp only [aC, aP, aO, aN, aK, ho, hx, and_self, bSq, e7, cE, cP, cQ, cF, fp, List.length_cons, List.length_nil, List.getD_cons_zero, List.getD_cons_succ, hP, Nat.reduceAdd, Nat.reduceLT, if_true, if_false, reduceCtorEq]
 unfold okE at *
 refine ⟨?_, ?_⟩ <;> grind
theorem wl {s : af} {c : Int} {k o n x y : Int} {e : List aB} (hv : fh s) (h : hQ s (ah.mk 4 k o n [x, y] e)) :
  aC (ah.mk 4 k o n [x, y] e) (av.mk s c) = ay s (ah.mk 4 k o n [x, y] e) ∧ ay s (ah.mk 4 k o n [x, y] e) ≠ none := by
 have ho : inV s o := h.o
 have hx : inV s x := h.a x (by simp)
 have hy : inV s y := h.a y (by simp)
 rw [cj h.o (by simp) h.a]
 have go := aX hv ho
 have gx := aX hv hx
 have gy := aX hv hy
 have hs := ug (s := s) (c := c) (l := [x, y]) (by simp) (by simp) h.a
 simp only [List.getD_cons_zero, List.all_cons, List.all_nil, Bool.and_true] at hs
 unfold inV at ho hx hy
 simp only [aC, aP, aO, aN, aK, ho, hx, hy, and_self, bSq, e7, cE, cP, cQ, cF, fp, List.length_cons, List.length_nil, List.getD_cons_zero, List.getD_cons_succ, hP, Nat.reduceAdd, Nat.reduceLT, if_true, if_false, reduceCtorEq, hs]
 unfold kK
 unfold okE at *
 refine ⟨?_, ?_⟩ <;> grind
theorem wm {s : af} {c : Int} {k o n x y z : Int} {e : List aB} (hv : fh s) (h : hQ s (ah.mk 5 k o n [x, y, z] e)) :
  aC (ah.mk 5 k o n [x, y, z] e) (av.mk s c) = ay s (ah.mk 5 k o n [x, y, z] e) ∧ ay s (ah.mk 5 k o n [x, y, z] e) ≠ none := by
 have ho : inV s o := h.o
 have hx : inV s x := h.a x (by simp)
 have hy : inV s y := h.a y (by simp)
 have hz : inV s z := h.a z (by simp)
 rw [cj h.o (by simp) h.a]
 have go := aX hv ho
 have gx := aX hv hx
 have gy := aX hv hy
 have gz := aX hv hz
 have hs := qo (s := s) (c := c) (l := [y, z, o]) (by simp) (by simp) (by intro w hw; simp at hw; rcases hw with rfl | rfl | rfl <;> assumption)
 simp only [List.getD_cons_zero, List.all_cons, List.all_nil, Bool.and_true] at hs
 unfold inV at ho hx hy hz
 simp only [aC, aP, aO, aN, aK, ho, hx, hy, hz, and_self, bSq, e7, cE, cP, cQ, cF, fp, List.length_cons, List.length_nil, List.getD_cons_zero, List.getD_cons_succ, hP, Nat.reduceAdd, Nat.reduceLT, if_true, if_false, reduceCtorEq, hs, lit]
 unfold kK
 unfold okE at *
 refine ⟨?_, ?_⟩ <;> grind
theorem wn {s : af} {c : Int} {k o n x y : Int} {e : List aB} (hv : fh s) (h : hQ s (ah.mk 6 k o n [x, y] e)) :
  aC (ah.mk 6 k o n [x, y] e) (av.mk s c) = ay s (ah.mk 6 k o n [x, y] e) ∧ ay s (ah.mk 6 k o n [x, y] e) ≠ none := by
 have ho : inV s o := h.o
 have hx : inV s x := h.a x (by simp)
 have hy : inV s y := h.a y (by simp)
 rw [cj h.o (by simp) h.a]
 have go := aX hv ho
 have gx := aX hv hx
 have gy := aX hv hy
 unfold inV at ho hx hy
 simp only [aC, aP, aO, aN, aK, ho, hx, hy, and_self, bSq, e7, cE, cP, cQ, cF, fp, List.length_cons, List.length_nil, List.getD_cons_zero, List.getD_cons_succ, hP, Nat.reduceAdd, Nat.reduceLT, if_true, if_false, reduceCtorEq]
 unfold okE at *
 refine ⟨?_, ?_⟩ <;> grind
theorem wo {s : af} {c : Int} {k o n x y : Int} {e : List aB} (hv : fh s) (h : hQ s (ah.mk 7 k o n [x, y] e)) :
  aC (ah.mk 7 k o n [x, y] e) (av.mk s c) = ay s (ah.mk 7 k o n [x, y] e) ∧ ay s (ah.mk 7 k o n [x, y] e) ≠ none := by
 have ho : inV s o := h.o
 have hx : inV s x := h.a x (by simp)
 have hy : inV s y := h.a y (by simp)
 rw [cj h.o (by simp) h.a]
 have go := aX hv ho
 have gx := aX hv hx
 have gy := aX hv hy
 unfold inV at ho hx hy
 simp only [aC, aP, aO, aN, aK, ho, hx, hy, and_self, bSq, e7, cE, cP, cQ, cF, fp, List.length_cons, List.length_nil, List.getD_cons_zero, List.getD_cons_succ, hP, Nat.reduceAdd, Nat.reduceLT, if_true, if_false, reduceCtorEq]
 unfold okE at *
 refine ⟨?_, ?_⟩ <;> grind
theorem wq {s : af} {c : Int} {k o n x : Int} {e : List aB} (hv : fh s) (h : hQ s (ah.mk 8 k o n [x] e)) :
  aC (ah.mk 8 k o n [x] e) (av.mk s c) = ay s (ah.mk 8 k o n [x] e) ∧ ay s (ah.mk 8 k o n [x] e) ≠ none := by
 have ho : inV s o := h.o
 have hx : inV s x := h.a x (by simp)
 rw [cj h.o (by simp) h.a]
 have go := aX hv ho
 have gx := aX hv hx
 unfold inV at ho hx
 simp only [aC, aP, aO, aN, aK, ho, hx, and_self, bSq, e7, cE, cP, cQ, cF, fp, List.length_cons, List.length_nil, List.getD_cons_zero, List.getD_cons_succ, hP, Nat.reduceAdd, Nat.reduceLT, if_true, if_false, reduceCtorEq]
 unfold okE at *
 refine ⟨?_, ?_⟩ <;> grind
theorem ws {s : af} {c : Int} {k o n x y z : Int} {e : List aB} (hv : fh s) (h : hQ s (ah.mk 9 k o n [x, y, z] e)) :
  aC (ah.mk 9 k o n [x, y, z] e) (av.mk s c) = ay s (ah.mk 9 k o n [x, y, z] e) ∧ ay s (ah.mk 9 k o n [x, y, z] e) ≠ none := by
 have ho : inV s o := h.o
 have hx : inV s x := h.a x (by simp)
 have hy : inV s y := h.a y (by simp)
 have hz : inV s z := h.a z (by simp)
 rw [cj h.o (by simp) h.a]
 have go := aX hv ho
 have gx := aX hv hx
 have gy := aX hv hy
 have gz := aX hv hz
 have he := rI (c := c) hx
 unfold inV at ho hx hy hz
 simp only [aC, aP, aO, aN, aK, ho, hx, hy, hz, and_self, bSq, e7, cE, cP, cQ, cF, fp, List.length_cons, List.length_nil, List.getD_cons_zero, List.getD_cons_succ, hP, Nat.reduceAdd, Nat.reduceLT, if_true, if_false, reduceCtorEq, he]
 unfold okE at *
 refine ⟨?_, ?_⟩ <;> grind
theorem vM {s : af} {c : Int} {k o n x y z : Int} {e : List aB} (hv : fh s) (h : hQ s (ah.mk 10 k o n [x, y, z] e)) :
  aC (ah.mk 10 k o n [x, y, z] e) (av.mk s c) = ay s (ah.mk 10 k o n [x, y, z] e) ∧ ay s (ah.mk 10 k o n [x, y, z] e) ≠ none := by
 have ho : inV s o := h.o
 have hx : inV s x := h.a x (by simp)
 have hy : inV s y := h.a y (by simp)
 have hz : inV s z := h.a z (by simp)
 rw [cj h.o (by simp) h.a]
 have go := aX hv ho
 have gx := aX hv hx
 have gy := aX hv hy
 have gz := aX hv hz
 have he := rI (c := c) hx
 unfold inV at ho hx hy hz
 simp only [aC, aP, aO, aN, aK, ho, hx, hy, hz, and_self, bSq, e7, cE, cP, cQ, cF, fp, List.length_cons, List.length_nil, List.getD_cons_zero, List.getD_cons_succ, hP, Nat.reduceAdd, Nat.reduceLT, if_true, if_false, reduceCtorEq, he]
 unfold okE at *
 refine ⟨?_, ?_⟩ <;> grind
theorem vN {s : af} {c : Int} {k o n x : Int} {e : List aB} (hv : fh s) (h : hQ s (ah.mk 11 k o n [x] e)) :
  aC (ah.mk 11 k o n [x] e) (av.mk s c) = ay s (ah.mk 11 k o n [x] e) ∧ ay s (ah.mk 11 k o n [x] e) ≠ none := by
 have ho : inV s o := h.o
 have hx : inV s x := h.a x (by simp)
 rw [cj h.o (by simp) h.a]
 have go := aX hv ho
 have gx := aX hv hx
 have hw := (wrd gx.2 go.2).1
 unfold inV at ho hx
 simp only [aC, aP, aO, aN, aK, ho, hx, and_self, bSq, e7, cE, cP, cQ, cF, fp, List.length_cons, List.length_nil, List.getD_cons_zero, List.getD_cons_succ, hP, Nat.reduceAdd, Nat.reduceLT, if_true, if_false, reduceCtorEq, hw]
 unfold okE at *
 by_cases hle : (vOf s o).n ≤ (vOf s x).n
 ·refine ⟨?_, ?_⟩ <;> grind
 ·by_cases hn0 : n ≥ 0
  ·have hd : decide (n ≤ (vOf s x).n - (vOf s o).n) = false := by simp; omega
   simp only [hd]
   refine ⟨?_, ?_⟩ <;> grind
  ·refine ⟨?_, ?_⟩ <;> grind
theorem vO {s : af} {c : Int} {k o n x y : Int} {e : List aB} (hv : fh s) (h : hQ s (ah.mk 12 k o n [x, y] e)) :
  aC (ah.mk 12 k o n [x, y] e) (av.mk s c) = ay s (ah.mk 12 k o n [x, y] e) ∧ ay s (ah.mk 12 k o n [x, y] e) ≠ none := by
 have ho : inV s o := h.o
 have hx : inV s x := h.a x (by simp)
 have hy : inV s y := h.a y (by simp)
 rw [cj h.o (by simp) h.a]
 have go := aX hv ho
 have gx := aX hv hx
 have gy := aX hv hy
 have hw := (wrd gx.2 gy.2).2
 unfold inV at ho hx hy
 simp only [aC, aP, aO, aN, aK, ho, hx, hy, and_self, bSq, e7, cE, cP, cQ, cF, fp, List.length_cons, List.length_nil, List.getD_cons_zero, List.getD_cons_succ, hP, Nat.reduceAdd, Nat.reduceLT, if_true, if_false, reduceCtorEq, hw]
 unfold okE at *
 refine ⟨?_, ?_⟩ <;> grind
theorem vP {s : af} {c : Int} {k o n x y : Int} {e : List aB} (hv : fh s) (h : hQ s (ah.mk 13 k o n [x, y] e)) :
  aC (ah.mk 13 k o n [x, y] e) (av.mk s c) = ay s (ah.mk 13 k o n [x, y] e) ∧ ay s (ah.mk 13 k o n [x, y] e) ≠ none := by
 have ho : inV s o := h.o
 have hx : inV s x := h.a x (by simp)
 have hy : inV s y := h.a y (by simp)
 rw [cj h.o (by simp) h.a]
 have go := aX hv ho
 have gx := aX hv hx
 have gy := aX hv hy
 have hs := qo (s := s) (c := c) (l := [x, y, o]) (by simp) (by simp) (by intro w hw; simp at hw; rcases hw with rfl | rfl | rfl <;> assumption)
 simp only [List.getD_cons_zero, List.all_cons, List.all_nil, Bool.and_true] at hs
 unfold inV at ho hx hy
 simp only [aC, aP, aO, aN, aK, ho, hx, hy, and_self, bSq, e7, cE, cP, cQ, cF, fp, List.length_cons, List.length_nil, List.getD_cons_zero, List.getD_cons_succ, hP, Nat.reduceAdd, Nat.reduceLT, if_true, if_false, reduceCtorEq, hs, lit]
 unfold kK
 unfold okE at *
 refine ⟨?_, ?_⟩ <;> grind
theorem vQ {s : af} {c : Int} {k o n : Int} {e : List aB} (hv : fh s) (h : hQ s (ah.mk 14 k o n [] e)) :
  aC (ah.mk 14 k o n [] e) (av.mk s c) = ay s (ah.mk 14 k o n [] e) ∧ ay s (ah.mk 14 k o n [] e) ≠ none := by
 have ho : inV s o := h.o
 rw [cj h.o (by simp) h.a]
 have go := aX hv ho
 have hc := n6 (c := c) (r := ah.mk 14 k o n [] e) (o := vOf s o) (n := j7 (vOf s o).n) hv (h.u (by simp)) h.e go.1 (by unfold j7; split <;> omega)
 unfold inV at ho
 simp only [aC, aP, aO, aN, aK, ho, and_self, bSq, e7, cE, cP, cQ, cF, fp, List.length_cons, List.length_nil, List.getD_cons_zero, List.getD_cons_succ, hP, Nat.reduceAdd, Nat.reduceLT, if_true, if_false, reduceCtorEq, eG, bP, jn, uZ]
 simp only [hc.1, hc.2]
 refine ⟨?_, ?_⟩ <;> grind
theorem vR {s : af} {c : Int} {k o n x : Int} {e : List aB} (hv : fh s) (h : hQ s (ah.mk 15 k o n [x] e)) :
  aC (ah.mk 15 k o n [x] e) (av.mk s c) = ay s (ah.mk 15 k o n [x] e) ∧ ay s (ah.mk 15 k o n [x] e) ≠ none := by
 have ho : inV s o := h.o
 have hx : inV s x := h.a x (by simp)
 rw [cj h.o (by simp) h.a]
 have go := aX hv ho
 have gx := aX hv hx
 have hc := fun (hn : 1 ≤ n ∧ n ≤ 300) => n6 (c := c) (r := ah.mk 15 k o n [x] e) (o := vOf s o) (n := n) hv (h.u (by simp)) h.e go.1 hn
 unfold inV at ho hx
 simp only [aC, aP, aO, aN, aK, ho, hx, and_self, bSq, e7, cE, cP, cQ, cF, fp, List.length_cons, List.length_nil, List.getD_cons_zero, List.getD_cons_succ, hP, Nat.reduceAdd, Nat.reduceLT, if_true, if_false, reduceCtorEq, eG, bP, jn, uZ]
 by_cases hn : 1 ≤ n ∧ n ≤ 300
 ·simp only [(hc hn).1, (hc hn).2, bSq]
  unfold okE at *
  refine ⟨?_, ?_⟩ <;> grind
 ·unfold okE at *
  refine ⟨?_, ?_⟩ <;> grind
theorem vS {s : af} {c : Int} {k o n x : Int} {e : List aB} (hv : fh s) (h : hQ s (ah.mk 16 k o n [x] e)) :
  aC (ah.mk 16 k o n [x] e) (av.mk s c) = ay s (ah.mk 16 k o n [x] e) ∧ ay s (ah.mk 16 k o n [x] e) ≠ none := by
 have ho : inV s o := h.o
 have hx : inV s x := h.a x (by simp)
 rw [cj h.o (by simp) h.a]
 have go := aX hv ho
 have gx := aX hv hx
 have hc := fun (hn : 1 ≤ (vOf s o).n) => n6 (c := c) (r := ah.mk 16 k o n [x] e) (o := vOf s o) (n := (vOf s o).n) hv (h.u (by simp)) h.e go.1 ⟨hn, go.2.2⟩
 unfold inV at ho hx
 simp only [aC, aP, aO, aN, aK, ho, hx, and_self, bSq, e7, cE, cP, cQ, cF, fp, List.length_cons, List.length_nil, List.getD_cons_zero, List.getD_cons_succ, hP, Nat.reduceAdd, Nat.reduceLT, if_true, if_false, reduceCtorEq, eG, bP, jn, uZ]
 by_cases hn : 1 ≤ (vOf s o).n
 ·have hcv : j7 (vOf s o).n = (vOf s o).n := by unfold j7; rw [iN (by omega)]
  simp only [hcv, (hc hn).1, (hc hn).2, bSq]
  unfold okE at *
  refine ⟨?_, ?_⟩ <;> grind
 ·unfold okE at *
  refine ⟨?_, ?_⟩ <;> grind
theorem oH (l : List Int) : ∀ (a : List Int) (x : Int), x ∈ l.foldl ins a ↔ x ∈ a ∨ x ∈ l := by
 induction l with
 | nil => intro a x; simp
 | cons y l ih => intro a x; rw [List.foldl_cons, ih, pL]; simp; grind
theorem sC (e : List aB) : ∀ (a : List Int) (x : Int), x ∈ e.foldl (fun l p => if nmd p then l ++ [p.v] else l) a ↔ x ∈ a ∨ ∃ p ∈ e, nmd p = true ∧ p.v = x := by
 induction e with
 | nil => intro a x; simp
 | cons p e ih =>
  intro a x
  rw [List.foldl_cons, ih]
  by_cases h : nmd p = true
  ·rw [iP h]; simp; grind
  ·rw [iN h]; simp; grind
theorem j8 (a : List Int) (e : List aB) (x : Int) : x ∈ gB a e ↔ x ∈ a ∨ ∃ p ∈ e, nmd p = true ∧ p.v = x := by
 unfold gB
 rw [oH, sC]
 simp
theorem uk (p : aB) : nmd p = true ↔ (p.op = 2 ∨ p.op = 3 ∨ p.op = 8) := by unfold nmd; simp; grind
def bo (r : ah) : List Int := if r.op < 14 then gB r.a [] else gB r.a r.e
theorem qq {r : ah} {x : Int} (h : x ∈ r.a) : x ∈ bo r := by
 unfold bo
 split <;> (rw [j8]; exact .inl h)
theorem ul {s : af} {r : ah} (h : ∀ x ∈ bo r, inV s x) (ho : 14 ≤ r.op) : ∀ p ∈ r.e, nZ s p := by
 intro p hp hn
 refine h _ ?_
 unfold bo
 rw [iN (by omega), j8]
 exact .inr ⟨p, hp, (uk p).2 hn, rfl⟩
def bx (op : Int) : Int := if 1 ≤ op ∧ op ≤ 16 then ([0,0,1,1,2,3,2,2,1,3,3,1,2,2,0,1,1] : List Int).getD op.toNat 0 else -1
noncomputable def ig (s : af) (mk : List Int) (r : ah) : Int :=
 if ¬ inV s r.out_ then 16
 else if mk.contains r.out_ then 8
 else if bx r.op < 0 ∨ ¬ (r.a.length : Int) = bx r.op then 4
 else if (r.e.length : Int) > 24 then 7
 else if ∃ x ∈ bo r, ¬ inV s x then 16
 else if ay s r = some true then 0 else 10
def cl (s : af) (i : Nat) : List Int := s.in_ ++ (s.rules.take i).map (fun r => r.out_)
theorem rb (s : af) {i : Nat} (h : i < s.rules.length) : cl s (i + 1) = cl s i ++ [(s.rules.getD i default).out_] := by
 unfold cl
 rw [hU _ h, List.map_append, List.append_assoc]
 rfl
def ed (s : af) (l : List Int) : List Bool := (List.range s.vars.length).map (fun (v : Nat) => decide ((v : Int) ∈ l))
theorem gK (s : af) (l : List Int) : (ed s l).length = s.vars.length := by unfold ed; simp
theorem pf {s : af} {l : List Int} {v : Int} (h : inV s v) : (ed s l).getD v.toNat default = l.contains v := by
 unfold inV at h
 unfold ed
 have : v.toNat < s.vars.length := by omega
 have e : ((v.toNat : Nat) : Int) = v := by omega
 simp [List.getD, this, e]
theorem pg {s : af} {l : List Int} {v : Int} (h : inV s v) : (ed s l).set v.toNat true = ed s (l ++ [v]) := by
 unfold inV at h
 have e : ((v.toNat : Nat) : Int) = v := by omega
 apply List.ext_getElem
 ·simp [gK]
 ·intro i h1 h2
  have hi : i < s.vars.length := by simpa [gK] using h2
  rw [List.getElem_set]
  unfold ed
  simp only [List.getElem_map, List.getElem_range, List.mem_append, List.mem_singleton]
  split
  ·rename_i h3
   subst h3
   rw [e]; simp
  ·rename_i h3
   have : ¬ (i : Int) = v := by omega
   simp [this]
noncomputable def gL (s : af) (i : Nat) : Option ar :=
 let c := ig s (cl s i) (s.rules.getD i default)
 if c = 0 then none else some (ar.mk c (i : Int))
noncomputable def iJ (s : af) (i : Nat) : Option ar :=
 if ∃ x ∈ bo (s.rules.getD i default), ¬ x ∈ cl s s.rules.length then some (ar.mk 9 (i : Int)) else none
def mJ (s : af) (i : Nat) : Option ar :=
 if s.out_.getD i default ∈ cl s s.rules.length then none else some (ar.mk 9 (-1))
noncomputable def fq (s : af) : ar :=
 if ¬ (ki s).code = 0 then ki s
 else match dB s.rules.length (gL s) () with
  | .inr z => z
  | .inl _ => match dB s.rules.length (iJ s) () with
   | .inr z => z
   | .inl _ => match dB s.out_.length (mJ s) () with
    | .inr z => z
    | .inl _ => ar.mk 0 0
theorem qr {s : af} {c : Int} {r : ah} (hv : fh s) (h : hQ s r) (hp : ¬ bx r.op < 0) (hl : (r.a.length : Int) = bx r.op) :
  aC r (av.mk s c) = ay s r ∧ ay s r ≠ none := by
 obtain ⟨op, k, o, n, a, e⟩ := r
 simp only at hp hl
 have hop : 1 ≤ op ∧ op ≤ 16 := by
  by_cases hc : 1 ≤ op ∧ op ≤ 16
  ·exact hc
  ·unfold bx at hp; rw [iN hc] at hp; omega
 have hcs : op = 1 ∨ op = 2 ∨ op = 3 ∨ op = 4 ∨ op = 5 ∨ op = 6 ∨ op = 7 ∨ op = 8 ∨ op = 9 ∨ op = 10 ∨ op = 11 ∨ op = 12 ∨ op = 13 ∨ op = 14 ∨ op = 15 ∨ op = 16 := by omega
 rcases hcs with rfl | rfl | rfl | rfl | rfl | rfl | rfl | rfl | rfl | rfl | rfl | rfl | rfl | rfl | rfl | rfl
 ·have hl' : a.length = 0 := by simpa [bx] using hl
  match a, hl' with | [], _ => exact wi hv h
 ·have hl' : a.length = 1 := by simp [bx] at hl; omega
  match a, hl' with | [x], _ => exact wj hv h
 ·have hl' : a.length = 1 := by simp [bx] at hl; omega
  match a, hl' with | [x], _ => exact wk hv h
 ·have hl' : a.length = 2 := by simp [bx] at hl; omega
  match a, hl' with | [x, y], _ => exact wl hv h
 ·have hl' : a.length = 3 := by simp [bx] at hl; omega
  match a, hl' with | [x, y, z], _ => exact wm hv h
 ·have hl' : a.length = 2 := by simp [bx] at hl; omega
  match a, hl' with | [x, y], _ => exact wn hv h
 ·have hl' : a.length = 2 := by simp [bx] at hl; omega
  match a, hl' with | [x, y], _ => exact wo hv h
 ·have hl' : a.length = 1 := by simp [bx] at hl; omega
  match a, hl' with | [x], _ => exact wq hv h
 ·have hl' : a.length = 3 := by simp [bx] at hl; omega
  match a, hl' with | [x, y, z], _ => exact ws hv h
 ·have hl' : a.length = 3 := by simp [bx] at hl; omega
  match a, hl' with | [x, y, z], _ => exact vM hv h
 ·have hl' : a.length = 1 := by simp [bx] at hl; omega
  match a, hl' with | [x], _ => exact vN hv h
 ·have hl' : a.length = 2 := by simp [bx] at hl; omega
  match a, hl' with | [x, y], _ => exact vO hv h
 ·have hl' : a.length = 2 := by simp [bx] at hl; omega
  match a, hl' with | [x, y], _ => exact vP hv h
 ·have hl' : a.length = 0 := by simpa [bx] using hl
  match a, hl' with | [], _ => exact vQ hv h
 ·have hl' : a.length = 1 := by simp [bx] at hl; omega
  match a, hl' with | [x], _ => exact vR hv h
 ·have hl' : a.length = 1 := by simp [bx] at hl; omega
  match a, hl' with | [x], _ => exact vS hv h
theorem mK (op : Int) : bx op ≤ 3 := by
 unfold bx
 split
 ·rename_i h
  have hcs : op = 1 ∨ op = 2 ∨ op = 3 ∨ op = 4 ∨ op = 5 ∨ op = 6 ∨ op = 7 ∨ op = 8 ∨ op = 9 ∨ op = 10 ∨ op = 11 ∨ op = 12 ∨ op = 13 ∨ op = 14 ∨ op = 15 ∨ op = 16 := by omega
  rcases hcs with rfl | rfl | rfl | rfl | rfl | rfl | rfl | rfl | rfl | rfl | rfl | rfl | rfl | rfl | rfl | rfl <;> decide
 ·decide
theorem qs (op : Int) : iV op = some (bx op) := by
 unfold iV bx
 by_cases h : 1 ≤ op ∧ op ≤ 16
 ·rw [iN (by omega), iN (by omega), iP (by omega), iP h]; rfl
 ·rw [iN h]
  by_cases h1 : op < 1
  ·rw [iP h1]
  ·rw [iN h1, iP (by omega)]
theorem qt (op : Int) : gH op = some (bx op) := by
 unfold gH bx
 by_cases h : 1 ≤ op ∧ op ≤ 16
 ·rw [iN (by omega), iN (by omega), iP (by omega), iP h]
  have hcs : op = 1 ∨ op = 2 ∨ op = 3 ∨ op = 4 ∨ op = 5 ∨ op = 6 ∨ op = 7 ∨ op = 8 ∨ op = 9 ∨ op = 10 ∨ op = 11 ∨ op = 12 ∨ op = 13 ∨ op = 14 ∨ op = 15 ∨ op = 16 := by omega
  rcases hcs with rfl | rfl | rfl | rfl | rfl | rfl | rfl | rfl | rfl | rfl | rfl | rfl | rfl | rfl | rfl | rfl <;> rfl
 ·rw [iN h]
  by_cases h1 : op < 0
  ·rw [iP h1]
  ·rw [iN h1]
   by_cases h2 : op ≥ 17
   ·rw [iP h2]
   ·rw [iN h2]
    have : op = 0 := by omega
    subst this
    rfl
theorem um (b : Bool) (c k : Int) (s : af) : bk b c (av.mk s k) = some (if b = true ∧ k = 0 then c else k) := by
 unfold bk
 cases b
 ·simp
 ·by_cases h : k = 0 <;> simp [h]
theorem n8 (b : Bool) (c : Int) (s : af) : bk b c (av.mk s 0) = some (if b = true then c else 0) := by
 unfold bk
 cases b <;> rfl
theorem n9 {b : Bool} {c k : Int} {s : af} (h : k ≠ 0) : bk b c (av.mk s k) = some k := by
 unfold bk
 cases b
 ·rfl
 ·simp [h]
theorem rc {s : af} {r : ah} {c x : Int} (h : x ≠ 0) : ce r (av.mk s c) x = some (x, x) := by
 unfold ce
 rw [n9 h]
 simp only [bSq]
 rw [iP h]
theorem tw {s : af} {r : ah} {c x : Int} (h : x ≠ 0) : cg r (av.mk s c) x = some (x, x) := by
 unfold cg
 rw [qs]
 simp only [bSq, n9 h]
 rw [rc h]
 split <;> rfl
theorem re (s : af) (l : List Int) : ∀ a : Int, l.foldl (fun a x => if ¬ inV s x ∧ a = 0 then 16 else a) a = if (∃ x ∈ l, ¬ inV s x) ∧ a = 0 then 16 else a := by
 induction l with
 | nil => intro a; simp
 | cons y l ih =>
  intro a
  rw [List.foldl_cons, ih]
  by_cases ha : a = 0
  ·subst ha
   by_cases hy : inV s y
   ·simp [hy]
   ·simp [hy]
  ·simp [ha]
theorem rf {s : af} {c : Int} {l : List Int} (hl : l.length ≤ 1000) :
  a8 (fun (x : Int × Int) => bB (av.mk s c) l x.1 x.2) (0, 0) = some (if ∃ x ∈ l, ¬ inV s x then 16 else 0) := by
 obtain ⟨h1, _⟩ := jP (A := Int) (T := Int) (O := Int) (S := Int × Int) (fun a i => (a, i)) (body := fun x => bB (av.mk s c) l x.1 x.2) l (fun a x => if ¬ inV s x ∧ a = 0 then 16 else a)
  (fun _ _ => True) (fun a => a) 0 trivial
  (by
   intro i a hi _
   refine ⟨?_, trivial⟩
   show bB (av.mk s c) l a (i : Int) = _
   unfold bB
   rw [iP (ltI hi), iP (inI hi)]
   simp only [tN]
   rw [pJ]
   simp only [bSq, um]
   rw [wrs i (by omega)]
   have : ((!decide (0 ≤ l.getD i default ∧ l.getD i default < (s.vars.length : Int))) = true ∧ a = 0) ↔ (¬ inV s (l.getD i default) ∧ a = 0) := by unfold inV; simp; omega
   simp only [this])
  (by
   intro a _
   show bB (av.mk s c) l a (l.length : Int) = _
   unfold bB
   rw [iN (bj _)])
 rw [re] at h1
 rw [h1]
 simp
theorem j9 (a : List Int) (e : List aB) : (gB a e).length ≤ a.length + e.length := by
 have k : ∀ (e : List aB) (a : List Int), (e.foldl (fun l p => if nmd p then l ++ [p.v] else l) a).length ≤ a.length + e.length := by
  intro e
  induction e with
  | nil => intro a; simp
  | cons p e ih =>
   intro a
   rw [List.foldl_cons]
   have := ih (if nmd p then a ++ [p.v] else a)
   have h2 : (if nmd p then a ++ [p.v] else a).length ≤ a.length + 1 := by split <;> simp
   simp only [List.length_cons]
   omega
 unfold gB
 have := oG (e.foldl (fun l p => if nmd p then l ++ [p.v] else l) a) []
 have := k e a
 simp at *
 omega
theorem oa {s : af} {r : ah} (h1 : inV s r.out_) (h2 : ¬ (r.e.length : Int) > 24) (h3 : ¬ ∃ x ∈ bo r, ¬ inV s x) : hQ s r := by
 have h4 : ∀ x ∈ bo r, inV s x := fun x hx => Classical.byContradiction (fun hc => h3 ⟨x, hx, hc⟩)
 exact ⟨h1, fun x hx => h4 x (qq hx), fun ho => ul h4 ho, by omega⟩
theorem un {s : af} {c : Int} {r : ah} {l : List Int} (hv : fh s) : fJ r (av.mk s c) (ed s l) = some (ig s l r, ig s l r) := by
 unfold fJ ig
 rw [pJ]
 simp only [bSq, n8]
 by_cases h1 : inV s r.out_
 ·have h1' : 0 ≤ r.out_ ∧ r.out_ < (s.vars.length : Int) := h1
  simp only [h1', and_self, decide_true, Bool.not_true, Bool.false_eq_true, if_false, if_true, gK, pf h1, not_true_eq_false, h1]
  rw [n8]
  simp only [bSq]
  by_cases h2 : l.contains r.out_ = true
  ·rw [iP h2, iP h2, tw (by decide)]
  ·rw [iN h2, iN h2]
   unfold cg
   rw [qs]
   simp only [bSq, n8]
   by_cases h3 : bx r.op < 0
   ·rw [iP h3, iP trivial, iP (.inl h3), rc (by decide)]
   ·rw [iN h3]
    by_cases h4 : (r.a.length : Int) = bx r.op
    ·rw [iN (by simpa using h4), iN (fun hc => hc.elim h3 (fun h => h h4))]
     unfold ce
     rw [n8]
     simp only [bSq]
     by_cases h5 : (r.e.length : Int) > 24
     ·have e5 : decide ((r.e.length : Int) > 24) = true := by simpa using h5
      simp only [e5, if_true]
      rw [iP (by decide), iP h5]
     ·have e5 : decide ((r.e.length : Int) > 24) = false := by simpa using h5
      simp only [e5, Bool.false_eq_true, if_false, not_true_eq_false]
      rw [iN h5]
      have hle := mK r.op
      have hj : ∀ l' : List Int, (∀ x, x ∈ l' ↔ x ∈ bo r) → l'.length ≤ 1000 → cK r (av.mk s c) 0 l' =
        some (if ∃ x ∈ bo r, ¬ inV s x then 16 else if ay s r = some true then 0 else 10, if ∃ x ∈ bo r, ¬ inV s x then 16 else if ay s r = some true then 0 else 10) := by
       intro l' hm hl
       unfold cK
       show (a8 (fun (x : Int × Int) => bB (av.mk s c) l' x.1 x.2) (0, 0)).bind _ = _
       rw [rf hl]
       simp only [bSq, hm]
       unfold di
       by_cases h6 : ∃ x ∈ bo r, ¬ inV s x
       ·simp only [iP h6]
        rw [iN (by decide)]
       ·simp only [iN h6]
        rw [iP trivial]
        obtain ⟨f1, f2⟩ := qr (c := 0) hv (oa h1 h5 h6) h3 h4
        simp only [n8]
        rw [f1]
        cases hf : ay s r with
        | none => exact absurd hf f2
        | some b => cases b <;> simp
      by_cases h7 : r.op ≥ 14
      ·rw [iP h7, lK _ (by omega) (by omega)]
       simp only [bSq]
       have hu : bo r = gB r.a r.e := by unfold bo; rw [iN (by omega)]
       have := j9 r.a r.e
       exact hj _ (fun x => by rw [hu]) (by omega)
      ·rw [iN h7]
       have hu : bo r = gB r.a [] := by unfold bo; rw [iP (by omega)]
       exact hj _ (fun x => by rw [hu, j8]; simp) (by omega)
    ·rw [iP (by simpa using h4), iP (.inr h4), rc (by decide)]
 ·have h1' : ¬ (0 ≤ r.out_ ∧ r.out_ < (s.vars.length : Int)) := h1
  simp only [h1', decide_false, Bool.not_false, if_true, h1, not_false_eq_true]
  rw [iN (by decide), n9 (by decide)]
  simp only [bSq]
  rw [tw (by decide)]
theorem oc {T Z : Type} (l : List Int) (p : Int → Prop) [DecidablePred p] (z : Z) (t : T) :
  dB l.length (fun k => if p (l.getD k default) then none else some z) t = if ∃ x ∈ l, ¬ p x then .inr z else .inl t := by
 rcases cZ l.length (fun k => if p (l.getD k default) then none else some z) t with ⟨e, h⟩ | ⟨j, z', hj, hf, e⟩
 ·rw [e, iN]
  rintro ⟨x, hx, hp⟩
  obtain ⟨i, hi, rfl⟩ := List.mem_iff_getElem.1 hx
  have := h i hi
  have e2 : l.getD i default = l[i] := by simp [List.getD, hi]
  simp only [e2, iN hp] at this
  cases this
 ·rw [e, iP]
  ·split at hf
   ·cases hf
   ·simp only [sJ] at hf; rw [hf]
  ·split at hf
   ·cases hf
   ·rename_i hp; exact ⟨_, bJ hj, hp⟩
theorem tx (a b : Int) : d1 a b = some (ar.mk a b) := by unfold d1; rfl
structure ml (s : af) : Prop where
 v : fh s
 nv : s.vars.length ≤ 400
 nr : s.rules.length ≤ 400
 ni : s.in_.length ≤ 400
 no : s.out_.length ≤ 400
 i : ∀ x ∈ s.in_, inV s x
 o : ∀ x ∈ s.out_, inV s x
theorem mL {s : af} (h : (ki s).code = 0) : ml s := by
 unfold ki at h
 split at h
 ·cases h
 ·rename_i hl
  rcases cZ s.vars.length (mI s) () with ⟨e1, h1⟩ | ⟨j, z, hj, hf, e⟩
  ·rw [e1] at h
   rcases cZ s.in_.length (inF s) () with ⟨e2, h2⟩ | ⟨j, z, hj, hf, e⟩
   ·simp only [e2] at h
    rcases cZ s.out_.length (lb s) () with ⟨e3, h3⟩ | ⟨j, z, hj, hf, e⟩
    ·refine ⟨⟨fun v hv => ?_, fun v hv => ?_⟩, by omega, by omega, by omega, by omega, fun x hx => ?_, fun x hx => ?_⟩
     ·obtain ⟨i, hi, rfl⟩ := List.mem_iff_getElem.1 hv
      have := h1 i hi
      have e2 : s.vars.getD i default = s.vars[i] := by simp [List.getD, hi]
      unfold mI sx at this
      rw [e2] at this
      split at this
      ·cases this
      ·unfold okE; omega
     ·obtain ⟨i, hi, rfl⟩ := List.mem_iff_getElem.1 hv
      have := h1 i hi
      have e2 : s.vars.getD i default = s.vars[i] := by simp [List.getD, hi]
      unfold mI sx at this
      rw [e2] at this
      split at this
      ·cases this
      ·split at this
       ·cases this
       ·omega
     ·obtain ⟨i, hi, rfl⟩ := List.mem_iff_getElem.1 hx
      have := h2 i hi
      have e2 : s.in_.getD i default = s.in_[i] := by simp [List.getD, hi]
      unfold inF at this
      rw [e2] at this
      by_cases hh : inV s s.in_[i]
      ·exact hh
      ·rw [iP hh] at this; cases this
     ·obtain ⟨i, hi, rfl⟩ := List.mem_iff_getElem.1 hx
      have := h3 i hi
      have e2 : s.out_.getD i default = s.out_[i] := by simp [List.getD, hi]
      unfold lb at this
      rw [e2] at this
      by_cases hh : inV s s.out_[i]
      ·exact hh
      ·rw [iP hh] at this; cases this
    ·simp only [e] at h
     unfold lb at hf
     split at hf
     ·simp only [sJ] at hf; subst hf; cases h
     ·cases hf
   ·simp only [e] at h
    unfold inF at hf
    split at hf
    ·simp only [sJ] at hf; subst hf; cases h
    ·split at hf
     ·simp only [sJ] at hf; subst hf; cases h
     ·cases hf
  ·simp only [e] at h
   unfold mI sx at hf
   split at hf
   ·simp only [sJ] at hf; subst hf; cases h
   ·split at hf
    ·simp only [sJ] at hf; subst hf; cases h
    ·cases hf
theorem iq {s : af} {l : List Int} {r : ah} (h : ig s l r = 0) : hQ s r ∧ (∀ x ∈ bo r, inV s x) ∧ r.a.length ≤ 3 ∧ ¬ l.contains r.out_ = true ∧ ¬ bx r.op < 0 ∧ (r.a.length : Int) = bx r.op ∧ ay s r = some true := by
 unfold ig at h
 by_cases h1 : inV s r.out_
 ·rw [iN (by simpa using h1)] at h
  by_cases h2 : l.contains r.out_ = true
  ·rw [iP h2] at h; cases h
  ·rw [iN h2] at h
   by_cases h3 : bx r.op < 0 ∨ ¬ (r.a.length : Int) = bx r.op
   ·rw [iP h3] at h; cases h
   ·rw [iN h3] at h
    by_cases h5 : (r.e.length : Int) > 24
    ·rw [iP h5] at h; cases h
    ·rw [iN h5] at h
     by_cases h6 : ∃ x ∈ bo r, ¬ inV s x
     ·rw [iP h6] at h; cases h
     ·rw [iN h6] at h
      have hle := mK r.op
      refine ⟨oa h1 h5 h6, fun x hx => Classical.byContradiction (fun hc => h6 ⟨x, hx, hc⟩), by omega, h2, fun hc => h3 (.inl hc), Classical.byContradiction (fun hc => h3 (.inr hc)), ?_⟩
      by_cases h7 : ay s r = some true
      ·exact h7
      ·rw [iN h7] at h; cases h
 ·rw [iP h1] at h; cases h
theorem kS {s : af} {l : List Int} {v : Int} (h : inV s v) : (ed s l).getD v.toNat default = true ↔ v ∈ l := by rw [pf h]; simp
theorem sD (s : af) : List.replicate s.vars.length false = ed s [] := by
 apply List.ext_getElem
 ·simp [gK]
 ·intro i h1 h2; simp [ed]
theorem uo {s : af} (g : ml s) : a8 (fun (x : List Bool × Int) => da s x.1 x.2) (ed s [], 0) = some (ed s s.in_) := by
 have := n7 (S := List Bool × Int) (T := List Bool) (fun i => (ed s (s.in_.take i), (i : Int))) (body := fun x => da s x.1 x.2) s.in_.length (ed s s.in_)
  (by
   intro i hi
   show da s (ed s (s.in_.take i)) (i : Int) = _
   have gi := g.i _ (bJ hi)
   have gi' := gi
   unfold inV at gi'
   unfold da
   rw [iP (ltI hi), iP (inI hi)]
   simp only [tN]
   rw [gK, iP gi', pg gi, wrs i (by have := g.ni; omega), hU _ hi])
  (by
   show da s (ed s (s.in_.take s.in_.length)) (s.in_.length : Int) = _
   unfold da
   rw [iN (bj _), List.take_length])
 exact this
theorem rg {s : af} (g : ml s) : a8 (fun (x : Int × List Bool × Int) => c9 s x.1 x.2.1 x.2.2) (0, ed s s.in_, 0) = some (dB s.rules.length (gL s) (0, ed s (cl s s.rules.length))) := by
 have e0 : cl s 0 = s.in_ := by simp [cl]
 have := uj (S := Int × List Bool × Int) (T := Int × List Bool) (Z := ar) (fun i => (0, ed s (cl s i), (i : Int))) (body := fun x => c9 s x.1 x.2.1 x.2.2) s.rules.length (gL s) (0, ed s (cl s s.rules.length))
  (by
   intro i hi
   show c9 s 0 (ed s (cl s i)) (i : Int) = _
   unfold c9
   rw [iP (ltI hi), iP (inI hi)]
   simp only [tN]
   rw [un g.v]
   simp only [bSq]
   unfold gL
   by_cases h : ig s (cl s i) (s.rules.getD i default) = 0
   ·obtain ⟨gr, _⟩ := iq h
    have go := gr.o
    have go' := go
    unfold inV at go'
    simp only [h, not_true_eq_false, if_false, if_true]
    rw [gK, iP go', pg go, wrs i (by have := g.nr; omega), rb s hi]
   ·simp only [h, not_false_eq_true, if_true, if_false])
  (by
   show c9 s 0 (ed s (cl s s.rules.length)) (s.rules.length : Int) = _
   unfold c9
   rw [iN (bj _)])
 rw [e0] at this
 exact this
theorem sE {s : af} (g : ml s) (hr : ∀ i, i < s.rules.length → gL s i = none) :
  a8 (fun x => fU s (ed s (cl s s.rules.length)) x) 0 = some (dB s.rules.length (iJ s) ()) := by
 refine bw s.rules.length (iJ s) () (fun i hi => ?_) ?_
 ·have h0 := hr i hi
  unfold gL at h0
  have h0' : ig s (cl s i) (s.rules.getD i default) = 0 := by
   by_cases h : ig s (cl s i) (s.rules.getD i default) = 0
   ·exact h
   ·simp only [iN h] at h0; cases h0
  obtain ⟨gr, hu, ha, _⟩ := iq h0'
  have he := gr.e
  unfold fU
  rw [iP (ltI hi), iP (inI hi)]
  simp only [tN]
  generalize hR : s.rules.getD i default = r at *
  have hj : ∀ l : List Int, (∀ x, x ∈ l ↔ x ∈ bo r) → l.length ≤ 1000 → eW (ed s (cl s s.rules.length)) (i : Int) l = some (match iJ s i with | some z => .inr (.inr z) | none => .inl ((i + 1 : Nat) : Int)) := by
   intro l hm hl
   unfold eW
   rw [bw l.length (fun k => if l.getD k default ∈ cl s s.rules.length then none else some (ar.mk 9 (i : Int))) () (fun k hk => by
    have gk := hu _ ((hm _).1 (bJ hk))
    have gk' := gk
    unfold inV at gk'
    unfold gW
    rw [iP (ltI hk), iP (inI hk)]
    simp only [tN]
    rw [gK, iP gk', wrs k (by omega)]
    by_cases hc : l.getD k default ∈ cl s s.rules.length
    ·rw [iP ((kS gk).2 hc), iP hc]
    ·rw [iN (fun h => hc ((kS gk).1 h)), iN hc]) (by unfold gW; rw [iN (bj _)])]
   rw [oc l (fun x => x ∈ cl s s.rules.length)]
   unfold iJ
   rw [hR]
   simp only [hm]
   by_cases h9 : ∃ x ∈ bo r, ¬ x ∈ cl s s.rules.length
   ·simp only [iP h9]; rfl
   ·simp only [iN h9, bSq, Sum.elim_inl]
    unfold fT
    rw [wrs i (by have := g.nr; omega)]
  by_cases h7 : r.op ≥ 14
  ·rw [iP h7, lK _ (by omega) (by omega)]
   simp only [bSq]
   have hu' : bo r = gB r.a r.e := by unfold bo; rw [iN (by omega)]
   have := j9 r.a r.e
   rw [hj (gB r.a r.e) (fun x => by rw [hu']) (by omega)]
   cases iJ s i <;> rfl
  ·rw [iN h7]
   have hu' : bo r = gB r.a [] := by unfold bo; rw [iP (by omega)]
   rw [hj r.a (fun x => by rw [hu', j8]; simp) (by omega)]
   cases iJ s i <;> rfl
 ·unfold fU; rw [iN (bj _)]
theorem tz {s : af} (g : ml s) : a8 (fun x => fR s (ed s (cl s s.rules.length)) x) 0 = some (dB s.out_.length (mJ s) ()) := by
 refine bw s.out_.length (mJ s) () (fun i hi => ?_) ?_
 ·have gk := g.o _ (bJ hi)
  have gk' := gk
  unfold inV at gk'
  unfold fR mJ
  rw [iP (ltI hi), iP (inI hi)]
  simp only [tN]
  rw [gK, iP gk', wrs i (by have := g.no; omega)]
  by_cases hc : s.out_.getD i default ∈ cl s s.rules.length
  ·rw [iP ((kS gk).2 hc), iP hc]
  ·rw [iN (fun h => hc ((kS gk).1 h)), iN hc]
 ·unfold fR; rw [iN (bj _)]
theorem qu (s : af) : jH s = some (fq s) := by
 unfold jH fq
 rw [qW]
 simp only [bSq]
 by_cases h : (ki s).code = 0
 ·have g := mL h
  simp only [h, not_true_eq_false, if_false]
  rw [iP ⟨by omega, o7 _ (by have := g.nv; omega)⟩]
  rw [sD]
  show (a8 (fun (x : List Bool × Int) => da s x.1 x.2) (ed s [], 0)).bind (fun z46 => eY s z46) = _
  rw [uo g]
  simp only [bSq]
  unfold eY
  show (a8 (fun (x : Int × List Bool × Int) => c9 s x.1 x.2.1 x.2.2) (0, ed s s.in_, 0)).bind (Sum.elim (fun z => eX s z.1 z.2) (fun z36 => some z36)) = _
  rw [rg g]
  simp only [bSq]
  rcases cZ s.rules.length (gL s) ((0 : Int), ed s (cl s s.rules.length)) with ⟨e, h1⟩ | ⟨j, z, hj, hf, e⟩
  ·rw [e, fY h1]
   simp only [Sum.elim_inl]
   unfold eX
   rw [sE g h1]
   simp only [bSq]
   cases dB s.rules.length (iJ s) () with
   | inr z => rfl
   | inl u =>
    simp only [Sum.elim_inl]
    unfold fS
    rw [tz g]
    simp only [bSq]
    cases dB s.out_.length (mJ s) () <;> rfl
  ·rw [e]
   rcases cZ s.rules.length (gL s) () with ⟨e', h1⟩ | ⟨j', z', hj', hf', e'⟩
   ·rw [h1 j hj] at hf; cases hf
   ·have : z = z' := by
     unfold dB at e e'
     cases hq : (List.range s.rules.length).findSome? (gL s) with
     | none => rw [hq] at e; cases e
     | some q => rw [hq] at e e'; simp at e e'; rw [← e, ← e']
    rw [e', this]; rfl
 ·simp only [h, not_false_eq_true, if_true]
def iE (s : af) (i : Nat) : List Int := (s.rules.take i).map (fun r => r.out_)
theorem kT (s : af) {i : Nat} (h : i ≤ s.rules.length) : (iE s i).length = i := by unfold iE; simp [h]
theorem jd (s : af) (i : Nat) : cl s i = s.in_ ++ iE s i := rfl
theorem od {s : af} {n : Nat} (hn : n ≤ s.rules.length) (hb : s.rules.length ≤ 100000) : jL s (n : Int) = some (iE s n) := by
 unfold jL
 have := n7 (S := List Int × Int) (T := List Int) (fun i => (iE s i, (i : Int))) (body := fun x => d2 s (n : Int) x.1 x.2) n (iE s n)
  (by
   intro i hi
   show d2 s (n : Int) (iE s i) (i : Int) = _
   unfold d2
   rw [iP (ltI hi), iP ⟨inI (by omega), pd _ (by rw [kT s (by omega)]; omega)⟩, wrs i (by omega)]
   simp only [tN]
   have : iE s (i + 1) = iE s i ++ [(s.rules.getD i default).out_] := by unfold iE; rw [hU _ (by omega), List.map_append]; rfl
   rw [this]
   rfl)
  (by
   show d2 s (n : Int) (iE s n) (n : Int) = _
   unfold d2
   rw [iN (bj _)])
 have e0 : iE s 0 = [] := rfl
 rw [e0] at this
 show (a8 (fun x => d2 s (n : Int) x.1 x.2) ([], 0)).bind _ = _
 rw [show ((0 : Nat) : Int) = 0 from rfl] at this
 rw [this]
 rfl
theorem lL (r : ah) (ha : r.a.length ≤ 100000) (he : r.e.length ≤ 100000) : i8 r = some (bo r) := by
 unfold i8 bo
 by_cases h : r.op < 14
 ·rw [iP h, iP h]
  unfold fM
  rw [n5 _ (by simp only; omega) (by simp)]
  rfl
 ·rw [iN h, iN h]
  unfold fM
  rw [n5 _ (by simp only; omega) (by simp only; omega)]
  rfl
theorem mM (r : ah) : (bo r).length ≤ r.a.length + r.e.length := by
 unfold bo
 split
 ·have := j9 r.a []; simp at this; omega
 ·exact j9 _ _
theorem m2 (s : af) (x : Int) : ¬ inV s x ↔ x < 0 ∨ x ≥ (s.vars.length : Int) := by unfold inV; omega
theorem tA {s : af} (g : ml s) {i : Nat} (hi : i < s.rules.length) : dN s (i : Int) = some (match gL s i with | some z => .inr (.inr z) | none => .inl ((i + 1 : Nat) : Int)) := by
 unfold dN gL ig
 rw [iP (ltI hi), iP (inI hi)]
 simp only [tN, tx, bSq]
 have hnr := g.nr
 generalize hR : s.rules.getD i default = r
 by_cases h1 : inV s r.out_
 ·have h1' := h1
  unfold inV at h1'
  rw [iN (by omega), iN (by omega)]
  rw [hN _ _ (by have := g.ni; omega)]
  simp only [bSq, h1, not_true_eq_false, if_false]
  by_cases h2 : s.in_.contains r.out_ = true
  ·rw [iP h2]
   have : (cl s i).contains r.out_ = true := by rw [jd]; simp at h2 ⊢; exact .inl h2
   simp only [this, if_true]
   rfl
  ·rw [iN h2, od (by omega) (by omega)]
   simp only [bSq]
   rw [hN _ _ (by rw [kT s (by omega)]; omega)]
   simp only [bSq]
   by_cases h3 : (iE s i).contains r.out_ = true
   ·rw [iP h3]
    have : (cl s i).contains r.out_ = true := by rw [jd]; simp at h3 ⊢; exact .inr h3
    simp only [this, if_true]
    rfl
   ·rw [iN h3]
    have : (cl s i).contains r.out_ = false := by rw [jd]; simp at h2 h3 ⊢; exact ⟨h2, h3⟩
    simp only [this, Bool.false_eq_true, if_false, qt, bSq]
    by_cases h4 : bx r.op < 0
    ·rw [iP h4]
     simp only [h4, true_or, if_true]
     rfl
    ·rw [iN h4]
     by_cases h5 : (r.a.length : Int) = bx r.op
     ·rw [iN (fun hc => hc h5.symm)]
      have h45 : ¬ (bx r.op < 0 ∨ ¬ (r.a.length : Int) = bx r.op) := fun hc => hc.elim h4 (fun h => h h5)
      simp only [iN h45]
      have hle := mK r.op
      by_cases h6 : (r.e.length : Int) > 24
      ·rw [iP h6]
       simp only [iP h6]
       rfl
      ·rw [iN h6]
       simp only [iN h6]
       rw [lL r (by omega) (by omega)]
       simp only [bSq]
       have hul := mM r
       rw [bw (bo r).length (fun k => if inV s ((bo r).getD k default) then none else some (ar.mk 16 (i : Int))) () (fun k hk => by
        unfold fb
        rw [iP (ltI hk), iP (inI hk)]
        simp only [tN, tx, bSq]
        rw [wrs k (by omega)]
        by_cases hc : inV s ((bo r).getD k default)
        ·have hc' := hc
         unfold inV at hc'
         rw [iN (by omega), iN (by omega), iP hc]
        ·rw [iN hc]
         rcases (m2 s _).1 hc with h | h
         ·rw [iP h]
         ·by_cases h' : (bo r).getD k default < 0
          ·rw [iP h']
          ·rw [iN h', iP h]) (by unfold fb; rw [iN (bj _)])]
       rw [oc (bo r) (fun x => inV s x)]
       by_cases h7 : ∃ x ∈ bo r, ¬ inV s x
       ·simp only [iP h7]; rfl
       ·simp only [iN h7, bSq, Sum.elim_inl]
        unfold dM
        simp only [tN, hR]
        obtain ⟨_, f2⟩ := qr (c := 0) g.v (oa h1 h6 h7) h4 h5
        cases hf : ay s r with
        | none => exact absurd hf f2
        | some b =>
         cases b
         ·simp only [bSq, tx]; rfl
         ·simp only [bSq, if_true]
          unfold fa
          rw [wrs i (by omega)]
     ·rw [iP (fun hc => h5 hc.symm)]
      have h45 : bx r.op < 0 ∨ ¬ (r.a.length : Int) = bx r.op := .inr h5
      simp only [iP h45]
      rfl
 ·simp only [h1, not_false_eq_true, if_true]
  rcases (m2 s _).1 h1 with h | h
  ·rw [iP h]; rfl
  ·by_cases h' : r.out_ < 0
   ·rw [iP h']; rfl
   ·rw [iN h', iP h]; rfl
theorem tB {s : af} (g : ml s) (hr : ∀ i, i < s.rules.length → gL s i = none) :
  a8 (fun x => dK s (iE s s.rules.length) x) 0 = some (dB s.rules.length (iJ s) ()) := by
 have hnr := g.nr
 refine bw s.rules.length (iJ s) () (fun i hi => ?_) ?_
 ·have h0 := hr i hi
  unfold gL at h0
  have h0' : ig s (cl s i) (s.rules.getD i default) = 0 := by
   by_cases h : ig s (cl s i) (s.rules.getD i default) = 0
   ·exact h
   ·simp only [iN h] at h0; cases h0
  obtain ⟨gr, hu, ha, _⟩ := iq h0'
  have he := gr.e
  unfold dK iJ
  rw [iP (ltI hi), iP (inI hi)]
  simp only [tN]
  generalize hR : s.rules.getD i default = r at *
  rw [lL r (by omega) (by omega)]
  simp only [bSq]
  have hul := mM r
  rw [bw (bo r).length (fun k => if (bo r).getD k default ∈ cl s s.rules.length then none else some (ar.mk 9 (i : Int))) () (fun k hk => by
   unfold e9
   rw [iP (ltI hk), iP (inI hk)]
   simp only [tN, tx, bSq]
   rw [wrs k (by omega), hN _ _ (by have := g.ni; omega)]
   simp only [bSq]
   rw [hN _ _ (by rw [kT s (by omega)]; omega)]
   simp only [bSq]
   rw [jd]
   by_cases hc : (bo r).getD k default ∈ s.in_
   ·rw [iP (by simpa using hc), iP (List.mem_append.2 (.inl hc))]
   ·rw [iN (by simpa using hc)]
    by_cases hd : (bo r).getD k default ∈ iE s s.rules.length
    ·rw [iP (by simpa using hd), iP (List.mem_append.2 (.inr hd))]
    ·rw [iN (by simpa using hd), iN (fun h => (List.mem_append.1 h).elim hc hd)]) (by unfold e9; rw [iN (bj _)])]
  rw [oc (bo r) (fun x => x ∈ cl s s.rules.length)]
  by_cases h9 : ∃ x ∈ bo r, ¬ x ∈ cl s s.rules.length
  ·simp only [iP h9]; rfl
  ·simp only [iN h9, bSq, Sum.elim_inl]
   unfold dJ
   rw [wrs i (by omega)]
 ·unfold dK; rw [iN (bj _)]
theorem up {s : af} (g : ml s) : a8 (fun x => dH s (iE s s.rules.length) x) 0 = some (dB s.out_.length (mJ s) ()) := by
 have hno := g.no
 have hnr := g.nr
 refine bw s.out_.length (mJ s) () (fun i hi => ?_) ?_
 ·unfold dH mJ
  rw [iP (ltI hi), iP (inI hi)]
  simp only [tN, tx, bSq]
  rw [wrs i (by omega), hN _ _ (by have := g.ni; omega)]
  simp only [bSq]
  rw [hN _ _ (by rw [kT s (by omega)]; omega)]
  simp only [bSq]
  rw [jd]
  by_cases hc : s.out_.getD i default ∈ s.in_
  ·rw [iP (by simpa using hc), iP (List.mem_append.2 (.inl hc))]
  ·rw [iN (by simpa using hc)]
   by_cases hd : s.out_.getD i default ∈ iE s s.rules.length
   ·rw [iP (by simpa using hd), iP (List.mem_append.2 (.inr hd))]
   ·rw [iN (by simpa using hd), iN (fun h => (List.mem_append.1 h).elim hc hd)]
 ·unfold dH; rw [iN (bj _)]
theorem qv (s : af) : gY s = some (fq s) := by
 unfold gY fq
 rw [qX]
 simp only [bSq]
 by_cases h : (ki s).code = 0
 ·have g := mL h
  simp only [h, not_true_eq_false, if_false]
  rw [bw s.rules.length (gL s) () (fun i hi => by rw [tA g hi]; cases gL s i <;> rfl) (by unfold dN; rw [iN (bj _)])]
  simp only [bSq]
  rcases cZ s.rules.length (gL s) () with ⟨e, h1⟩ | ⟨j, z, hj, hf, e⟩
  ·rw [e]
   simp only [Sum.elim_inl]
   unfold dL
   rw [od (Nat.le_refl _) (by have := g.nr; omega)]
   simp only [bSq]
   rw [tB g h1]
   simp only [bSq]
   cases dB s.rules.length (iJ s) () with
   | inr z => rfl
   | inl u =>
    simp only [Sum.elim_inl]
    unfold dI
    rw [up g]
    simp only [bSq]
    cases dB s.out_.length (mJ s) () <;> rfl
  ·rw [e]; rfl
 ·simp only [h, not_false_eq_true, if_true]
theorem ph {A T Z : Type} (P : T → Prop) (f : Nat → A → T → A ⊕ Z) (h : ∀ i a x a', f i a x = .inl a' → P x) : ∀ (l : List T) (i : Nat) (a b : A), jc f i l a = .inl b → ∀ x ∈ l, P x
 | [], i, a, b, _, x, hx => by cases hx
 | y :: l, i, a, b, he, x, hx => by
  rw [jc] at he
  cases hf : f i a y with
  | inr z => rw [hf] at he; cases he
  | inl a' =>
   rw [hf] at he
   rcases List.mem_cons.1 hx with rfl | hx
   ·exact h _ _ _ _ hf
   ·exact ph P f h l _ _ _ he x hx
theorem mN {A T Z : Type} (P : Z → Prop) (f : Nat → A → T → A ⊕ Z) (h : ∀ i a x z, f i a x = .inr z → P z) : ∀ (l : List T) (i : Nat) (a : A) (z : Z), jc f i l a = .inr z → P z
 | [], i, a, z, he => by cases he
 | y :: l, i, a, z, he => by
  rw [jc] at he
  cases hf : f i a y with
  | inr z' => rw [hf] at he; simp only [Sum.inr.injEq] at he; subst he; exact h _ _ _ _ hf
  | inl a' => rw [hf] at he; exact mN P f h l _ _ _ he
structure gu (s : af) (m : Nat) : Prop where
 nv : s.vars.length ≤ m
 nr : s.rules.length ≤ m
 ni : s.in_.length ≤ m
 no : s.out_.length ≤ m
 r : ∀ r ∈ s.rules, r.a.length ≤ 100 ∧ r.e.length ≤ 1000
theorem tC (s : af) (m : Nat) (hm : m ≤ 100000) : ∃ b, dG s (m : Int) = some b ∧ (b = false → gu s m) := by
 unfold dG
 by_cases h1 : (s.vars.length : Int) > m
 ·rw [iP h1]; exact ⟨true, rfl, fun h => by cases h⟩
 rw [iN h1]
 by_cases h2 : (s.rules.length : Int) > m
 ·rw [iP h2]; exact ⟨true, rfl, fun h => by cases h⟩
 rw [iN h2]
 by_cases h3 : (s.in_.length : Int) > m
 ·rw [iP h3]; exact ⟨true, rfl, fun h => by cases h⟩
 rw [iN h3]
 by_cases h4 : (s.out_.length : Int) > m
 ·rw [iP h4]; exact ⟨true, rfl, fun h => by cases h⟩
 rw [iN h4]
 obtain ⟨e1, _⟩ := j6 (A := Int) (T := ao) (O := Int) (Z := Bool) (S := Int × Int) (fun a i => (a, i)) (body := fun x => bH s x.1 x.2) s.vars
  (fun _ a v => if v.n > 1000 then .inr true else .inl (IntKind.wrap .i64 (a + j7 v.n))) (fun _ _ => True) (fun a => a) 0 trivial
  (by
   intro i a hi _
   refine ⟨?_, fun _ _ => trivial⟩
   show bH s a (i : Int) = _
   unfold bH
   rw [iP (ltI hi), iP (inI hi)]
   simp only [tN, jn, bSq]
   rw [wrs i (by omega)]
   by_cases h : (s.vars.getD i default).n > 1000
   ·rw [iP h, iP h]
   ·rw [iN h, iN h])
  (by
   intro a _
   show bH s a (s.vars.length : Int) = _
   unfold bH
   rw [iN (bj _)])
 show ∃ b, (a8 (fun (x : Int × Int) => bH s x.1 x.2) (0, 0)).bind (Sum.elim (fun z18 => cw s m z18) (fun z19 => some z19)) = some b ∧ _
 rw [e1]
 simp only [bSq]
 cases hE : jc (fun _ a v => if v.n > 1000 then .inr true else .inl (IntKind.wrap .i64 (a + j7 v.n))) 0 s.vars (0 : Int) with
 | inr z =>
  refine ⟨z, rfl, fun hz => ?_⟩
  have := mN (fun z => z = true) _ (fun i a x z h => by
   split at h
   ·simp only [Sum.inr.injEq] at h; exact h.symm
   ·cases h) _ _ _ _ hE
  rw [hz] at this; cases this
 | inl a0 =>
  simp only [Sum.elim_inl]
  unfold cw
  obtain ⟨e2, _⟩ := j6 (A := Int) (T := ah) (O := Int) (Z := Bool) (S := Int × Int) (fun a i => (a, i)) (body := fun x => bG s x.1 x.2) s.rules
   (fun _ a r => if (r.a.length : Int) > 100 ∨ (r.e.length : Int) > 1000 ∨ (r.op = 15 ∧ r.n > 1000) then .inr true else .inl (IntKind.wrap .i64 (a + IntKind.wrap .i64 ((r.a.length : Int) + (r.e.length : Int))))) (fun _ _ => True) (fun a => a) a0 trivial
   (by
    intro i a hi _
    refine ⟨?_, fun _ _ => trivial⟩
    show bG s a (i : Int) = _
    unfold bG cY
    rw [iP (ltI hi), iP (inI hi)]
    simp only [tN]
    rw [wrs i (by omega)]
    by_cases h1 : ((s.rules.getD i default).a.length : Int) > 100
    ·rw [iP h1, iP (.inl h1)]
    ·rw [iN h1]
     by_cases h2 : ((s.rules.getD i default).e.length : Int) > 1000
     ·rw [iP h2, iP (.inr (.inl h2))]
     ·rw [iN h2]
      by_cases h3 : (s.rules.getD i default).op = 15
      ·rw [iP h3]
       by_cases h4 : (s.rules.getD i default).n > 1000
       ·rw [iP h4, iP (.inr (.inr ⟨h3, h4⟩))]
       ·rw [iN h4, iN (fun h => h.elim h1 (fun h => h.elim h2 (fun h => h4 h.2)))]
      ·rw [iN h3, iN (fun h => h.elim h1 (fun h => h.elim h2 (fun h => h3 h.1)))])
   (by
    intro a _
    show bG s a (s.rules.length : Int) = _
    unfold bG
    rw [iN (bj _)])
  show ∃ b, (a8 (fun (x : Int × Int) => bG s x.1 x.2) (a0, 0)).bind (Sum.elim (fun z9 => cX m z9) (fun z10 => some z10)) = some b ∧ _
  rw [e2]
  simp only [bSq]
  cases hF : jc (fun _ a r => if (r.a.length : Int) > 100 ∨ (r.e.length : Int) > 1000 ∨ (r.op = 15 ∧ r.n > 1000) then .inr true else .inl (IntKind.wrap .i64 (a + IntKind.wrap .i64 ((r.a.length : Int) + (r.e.length : Int))))) 0 s.rules a0 with
  | inr z =>
   refine ⟨z, rfl, fun hz => ?_⟩
   have := mN (fun z => z = true) _ (fun i a x z h => by
    split at h
    ·simp only [Sum.inr.injEq] at h; exact h.symm
    ·cases h) _ _ _ _ hF
   rw [hz] at this; cases this
  | inl a1 =>
   have hR := ph (fun r : ah => r.a.length ≤ 100 ∧ r.e.length ≤ 1000) _ (fun i a x a' h => by
    split at h
    ·cases h
    ·rename_i hc
     have h1 : ¬ (x.a.length : Int) > 100 := fun h => hc (.inl h)
     have h2 : ¬ (x.e.length : Int) > 1000 := fun h => hc (.inr (.inl h))
     omega) _ _ _ _ hF
   exact ⟨_, rfl, fun _ => ⟨by omega, by omega, by omega, by omega, hR⟩⟩
theorem m3 (r : ah) (h : r.a.length ≤ 100 ∧ r.e.length ≤ 1000) : fV r = some r := by
 unfold fV
 have hm : maxLen = 9223372036854775807 := rfl
 rw [iP (by unfold dD; omega), iP (by unfold dD; omega)]
theorem rJ {s : af} {m : Nat} (h : gu s m) (hm : m ≤ 100000) : eI s = some s := by
 unfold eI
 have hx : maxLen = 9223372036854775807 := rfl
 have h1 := h.nv
 have h2 := h.nr
 have h3 := h.ni
 have h4 := h.no
 rw [iP ⟨by unfold dD; omega, by unfold dD; omega, by unfold dD; omega⟩]
 have := n7 (S := List ah × Int) (T := List ah) (fun i => (s.rules.take i, (i : Int))) (body := fun x => bQ s x.1 x.2) s.rules.length s.rules
  (by
   intro i hi
   show bQ s (s.rules.take i) (i : Int) = _
   unfold bQ
   rw [iP (ltI hi), iP (inI hi)]
   simp only [tN]
   rw [m3 _ (h.r _ (bJ hi))]
   simp only [bSq]
   rw [iP (by unfold dD; simp; omega), wrs i (by omega), hU _ hi]
   rfl)
  (by
   show bQ s (s.rules.take s.rules.length) (s.rules.length : Int) = _
   unfold bQ
   rw [iN (bj _), List.take_length])
 show (a8 (fun x => bQ s x.1 x.2) ([], 0)).bind (fun z21 => dj s z21) = _
 have e0 : s.rules.take 0 = [] := rfl
 rw [e0] at this
 rw [show ((0 : Nat) : Int) = 0 from rfl] at this
 rw [this]
 rfl
theorem jr (l : List Int) (hl : l.length ≤ 9000000) : eZ l l = some true := by
 unfold eZ
 rw [iN (by simp)]
 rw [bw l.length (fun _ => none) () (fun i hi => by
  simp only [fd, tN]
  rw [iP (ltI hi), iP ⟨inI hi, inI hi⟩, iN (by simp), wrs i (by omega)]) (by simp [fd]), fY (fun _ _ => rfl)]
 rfl
theorem oI (l : List aB) (hl : l.length ≤ 9000000) : gZ l l = some true := by
 unfold gZ
 rw [iN (by simp), bw l.length (fun _ => none) ()]
 ·rw [fY (fun _ _ => rfl)]; rfl
 ·intro i hi
  unfold ff
  rw [iP (ltI hi), iP ⟨inI hi, inI hi⟩, iP (by simp), wrs i (by omega)]
 ·unfold ff; rw [iN (bj _)]
theorem oJ (r : ah) (h : r.a.length ≤ 100 ∧ r.e.length ≤ 1000) : hK r r = some true := by
 unfold hK
 rw [iP rfl, iP rfl, iP rfl, iP rfl, jr _ (by omega)]
 simp only [bSq, if_true]
 rw [oI _ (by omega)]
 rfl
theorem iR {s : af} {m : Nat} (h : gu s m) (hm : m ≤ 100000) : dA s s = some true := by
 have h1 := h.nv
 have h2 := h.nr
 have h3 := h.ni
 have h4 := h.no
 unfold dA
 rw [iN (by simp), iN (by simp), jr _ (by omega)]
 simp only [bSq, if_true]
 rw [jr _ (by omega)]
 simp only [bSq, if_true]
 rw [bw s.vars.length (fun _ => none) () (fun i hi => by
  unfold d8
  rw [iP (ltI hi), iP ⟨inI hi, inI hi⟩, iP ⟨rfl, rfl⟩, wrs i (by omega)]) (by unfold d8; rw [iN (bj _)]), fY (fun _ _ => rfl)]
 simp only [bSq, Sum.elim_inl]
 unfold dk
 rw [bw s.rules.length (fun _ => none) () (fun i hi => by
  unfold d7
  rw [iP (ltI hi), iP ⟨inI hi, inI hi⟩]
  simp only [tN]
  rw [oJ _ (h.r _ (bJ hi)), wrs i (by omega)]
  rfl) (by unfold d7; rw [iN (bj _)]), fY (fun _ _ => rfl)]
 rfl
structure kj (s : af) : Prop where
 h : ml s
 r : ∀ i, i < s.rules.length → ig s (cl s i) (s.rules.getD i default) = 0
 u : ∀ i, i < s.rules.length → ∀ x ∈ bo (s.rules.getD i default), x ∈ cl s s.rules.length
 o : ∀ x ∈ s.out_, x ∈ cl s s.rules.length
theorem oe {s : af} (h : (fq s).code = 0) : kj s ∧ fq s = ar.mk 0 0 := by
 unfold fq at h ⊢
 by_cases h0 : (ki s).code = 0
 ·simp only [h0, not_true_eq_false, if_false] at h ⊢
  have g := mL h0
  rcases cZ s.rules.length (gL s) () with ⟨e1, h1⟩ | ⟨j, z, hj, hf, e⟩
  ·simp only [e1] at h ⊢
   rcases cZ s.rules.length (iJ s) () with ⟨e2, h2⟩ | ⟨j, z, hj, hf, e⟩
   ·simp only [e2] at h ⊢
    rcases cZ s.out_.length (mJ s) () with ⟨e3, h3⟩ | ⟨j, z, hj, hf, e⟩
    ·simp only [e3]
     refine ⟨⟨g, fun i hi => ?_, fun i hi x hx => ?_, fun x hx => ?_⟩, trivial⟩
     ·have := h1 i hi
      unfold gL at this
      by_cases hc : ig s (cl s i) (s.rules.getD i default) = 0
      ·exact hc
      ·simp only [iN hc] at this; cases this
     ·have := h2 i hi
      unfold iJ at this
      refine Classical.byContradiction fun hc => ?_
      rw [iP ⟨x, hx, hc⟩] at this
      cases this
     ·obtain ⟨i, hi, rfl⟩ := List.mem_iff_getElem.1 hx
      have := h3 i hi
      unfold mJ at this
      have e2 : s.out_.getD i default = s.out_[i] := by simp [List.getD, hi]
      rw [e2] at this
      refine Classical.byContradiction fun hc => ?_
      rw [iN hc] at this
      cases this
    ·simp only [e] at h
     unfold mJ at hf
     split at hf
     ·cases hf
     ·simp only [sJ] at hf; subst hf; cases h
   ·simp only [e] at h
    unfold iJ at hf
    split at hf
    ·simp only [sJ] at hf; subst hf; cases h
    ·cases hf
  ·simp only [e] at h
   unfold gL at hf
   by_cases hc : ig s (cl s j) (s.rules.getD j default) = 0
   ·simp only [iP hc] at hf; cases hf
   ·simp only [iN hc, sJ] at hf; subst hf; exact absurd h hc
 ·simp only [h0, not_false_eq_true, if_true] at h
theorem tD {s : af} (h0 : (ki s).code = 0) (hr : ∀ i, i < s.rules.length → ig s (cl s i) (s.rules.getD i default) = 0)
  (hu : ∀ i, i < s.rules.length → ∀ x ∈ bo (s.rules.getD i default), x ∈ cl s s.rules.length) (ho : ∀ x ∈ s.out_, x ∈ cl s s.rules.length) : fq s = ar.mk 0 0 := by
 unfold fq
 simp only [h0, not_true_eq_false, if_false]
 rw [fY (fun i hi => by unfold gL; simp only [iP (hr i hi)])]
 simp only
 rw [fY (fun i hi => by unfold iJ; rw [iN (fun ⟨x, h1, h2⟩ => h2 (hu i hi x h1))])]
 simp only
 rw [fY (fun i hi => by unfold mJ; rw [iP (ho _ (bJ hi))])]
theorem qw {s : af} {mk : List Int} {r : ah} (h1 : inV s r.out_) (h2 : ¬ mk.contains r.out_ = true) (h3 : ¬ (bx r.op < 0 ∨ ¬ (r.a.length : Int) = bx r.op)) (h4 : ¬ (r.e.length : Int) > 24)
  (h5 : ¬ ∃ x ∈ bo r, ¬ inV s x) (h6 : ay s r = some true) : ig s mk r = 0 := by
 unfold ig
 rw [iN (not_not_intro h1), iN h2, iN h3, iN h4, iN h5, iP h6]
theorem oh {n b : Nat} (h : n ≤ 200000) (hb : b ≤ 1000) : dD n b := by
 have hx : maxLen = 9223372036854775807 := rfl
 have : n * b ≤ 200000 * 1000 := Nat.mul_le_mul h hb
 unfold dD
 omega
theorem kU (l : List Int) (h : l.length ≤ 100000) : bh l = some l := by
 unfold bh
 by_cases h0 : l = []
 ·rw [iP h0, h0]
 ·rw [iN h0, iP (oh (by omega) (by omega))]
theorem pi {T : Type} (l : List T) (b : Nat) (h : l.length ≤ 100000) (hb : b ≤ 1000) [Decidable (l = [])] : (if l = [] then some [] else (if dD l.length b then some l else none)) = some l := by
 by_cases h0 : l = []
 ·rw [iP h0, h0]
 ·rw [iN h0, iP (oh (by omega) hb)]
theorem u3 (r : ah) (ha : r.a.length ≤ 1000) (he : r.e.length ≤ 1000) : jI r = some r := by
 unfold jI bY
 rw [kU _ (by omega)]
 simp only [bSq]
 rw [pi r.e 32 (by omega) (by omega)]
 rfl
def rl (s : af) (i : Nat) : ah := s.rules.getD i default
inductive Nd (s : af) : Nat → Prop
 | base (i : Nat) (hi : i < s.rules.length) (h : (rl s i).out_ ∈ s.out_) : Nd s i
 | step (i k : Nat) (hi : i < s.rules.length) (hk : Nd s k) (h : (rl s i).out_ ∈ bo (rl s k)) : Nd s i
theorem Nd.lt {s : af} {i : Nat} (h : Nd s i) : i < s.rules.length := by cases h <;> assumption
def Fl (s : af) (l : List Bool) : Prop := l.length = s.rules.length ∧ ∀ i, i < s.rules.length → (l.getD i default = true ↔ Nd s i)
abbrev fl (l : List Bool) (i : Nat) : Prop := l.getD i default = true
theorem Fl.uniq {s : af} {l l' : List Bool} (h : Fl s l) (h' : Fl s l') : l = l' := by
 apply List.ext_getElem (h.1.trans h'.1.symm)
 intro i h1 h2
 have e1 := h.2 i (by rw [← h.1]; exact h1)
 have e2 := h'.2 i (by rw [← h.1]; exact h1)
 rw [show l.getD i default = l[i] by simp [List.getD, h1]] at e1
 rw [show l'.getD i default = l'[i] by simp [List.getD, h2]] at e2
 rw [Bool.eq_iff_iff, e1, e2]
def clo (s : af) (l : List Bool) : Prop := ∀ i, i < s.rules.length → ((rl s i).out_ ∈ s.out_ ∨ ∃ k, k < s.rules.length ∧ fl l k ∧ (rl s i).out_ ∈ bo (rl s k)) → fl l i
theorem Fl.of {s : af} {l : List Bool} (hl : l.length = s.rules.length) (h : ∀ i, i < s.rules.length → fl l i → Nd s i) (hc : clo s l) : Fl s l := by
 refine ⟨hl, fun i hi => ⟨h i hi, fun hn => ?_⟩⟩
 clear hi
 induction hn with
 | base i hi h => exact hc i hi (.inl h)
 | step i k hi hk h ih => exact hc i hi (.inr ⟨k, hk.lt, ih, h⟩)
theorem lM {l : List Bool} {i : Nat} (hi : i < l.length) (j : Nat) : fl (l.set i true) j ↔ (j = i ∨ fl l j) := by
 unfold fl
 rw [List.getD_eq_getElem?_getD, List.getD_eq_getElem?_getD, List.getElem?_set]
 by_cases e : i = j
 ·subst e; simp [hi]
 ·rw [iN e]
  constructor
  ·intro h; exact .inr h
  ·rintro (h | h)
   ·exact absurd h.symm e
   ·exact h
theorem pN : ∀ {l : List Bool} {i : Nat}, i < l.length → ¬ fl l i → (l.set i true).count false + 1 = l.count false
 | [], i, h, _ => by simp at h
 | b :: l, 0, _, h => by
  have : b = false := by unfold fl at h; simpa using h
  subst this
  simp
 | b :: l, i + 1, h, hf => by
  have ih := pN (l := l) (i := i) (by simpa using h) (by unfold fl at hf ⊢; simpa using hf)
  rw [List.set_cons_succ, List.count_cons, List.count_cons]
  omega
theorem oi {s : af} (g : kj s) {i j : Nat} (hj : j < s.rules.length) (hij : i < j) : (rl s i).out_ ≠ (rl s j).out_ := by
 have := (iq (g.r j hj)).2.2.2.1
 intro e
 apply this
 rw [List.contains_iff_mem]
 unfold cl
 rw [List.mem_append]
 right
 rw [List.mem_map]
 refine ⟨s.rules.getD i default, ?_, e⟩
 rw [List.mem_iff_getElem?]
 refine ⟨i, ?_⟩
 rw [List.getElem?_take_of_lt hij]
 simp [List.getD, show i < s.rules.length by omega]
theorem u4 {s : af} (g : kj s) {i : Nat} (hi : i < s.rules.length) : 0 ≤ (rl s i).out_ ∧ (rl s i).out_ < 400 := by
 have := (iq (g.r i hi)).1.o
 have hn := g.h.nv
 unfold inV at this
 unfold rl
 omega
def byM (s : af) : Nat → List (Int × Int)
 | 0 => []
 | i + 1 => ((rl s i).out_, (i : Int)) :: byM s i
theorem rK (s : af) : ∀ i, (byM s i).length = i
 | 0 => rfl
 | i + 1 => by unfold byM; rw [List.length_cons, rK s i]
theorem qx {s : af} {v : Int} : ∀ {i : Nat}, cR (byM s i) v = none → ∀ k, k < i → (rl s k).out_ ≠ v
 | 0, _, k, hk => by omega
 | i + 1, h, k, hk => by
  unfold byM cR at h
  by_cases e : (rl s i).out_ = v
  ·rw [iP e] at h; cases h
  ·rw [iN e] at h
   by_cases e2 : k = i
   ·rw [e2]; exact e
   ·exact qx h k (by omega)
theorem qy {s : af} {v x : Int} : ∀ {i : Nat}, cR (byM s i) v = some x → ∃ k : Nat, k < i ∧ x = (k : Int) ∧ (rl s k).out_ = v
 | 0, h => by cases h
 | i + 1, h => by
  unfold byM cR at h
  by_cases e : (rl s i).out_ = v
  ·rw [iP e] at h
   simp only [sJ] at h
   exact ⟨i, by omega, h.symm, e⟩
  ·rw [iN e] at h
   obtain ⟨k, h1, h2⟩ := qy h
   exact ⟨k, by omega, h2⟩
theorem rL {s : af} (g : kj s) : ∀ (k i : Nat), i + k = s.rules.length → a8 (fun (x : List (Int × Int) × Int) => cM s x.1 x.2) (byM s i, (i : Int)) = some (byM s s.rules.length)
 | 0, i, hi => by
  obtain rfl : i = s.rules.length := by omega
  refine cO ?_
  show cM s _ _ = _
  unfold cM
  rw [iN (bj _)]
 | k + 1, i, hi => by
  have hil : i < s.rules.length := by omega
  have ho := u4 g hil
  have hn := g.h.nr
  have hb := rK s i
  unfold rl at ho
  have h : cM s (byM s i) (i : Int) = some (.inl (byM s (i + 1), ((i + 1 : Nat) : Int))) := by
   unfold cM
   rw [iP (ltI hil), iP (inI hil)]
   simp only [tN]
   rw [iP ⟨by omega, by omega⟩, wrs i (by omega)]
   rfl
  rw [cN (s := (byM s i, (i : Int))) h]
  exact rL g k (i + 1) (by omega)
structure WI (s : af) (l : List Bool) (row : List Int) : Prop where
 len : l.length = s.rules.length
 snd : ∀ i, i < s.rules.length → fl l i → Nd s i
 rowp : ∀ v ∈ row, v ∈ s.out_ ∨ ∃ k, k < s.rules.length ∧ fl l k ∧ v ∈ bo (rl s k)
 cou : ∀ i, i < s.rules.length → (rl s i).out_ ∈ s.out_ → fl l i ∨ (rl s i).out_ ∈ row
 cus : ∀ k, k < s.rules.length → fl l k → ∀ i, i < s.rules.length → (rl s i).out_ ∈ bo (rl s k) → fl l i ∨ (rl s i).out_ ∈ row
theorem ka {s : af} (g : kj s) {k : Nat} (hk : k < s.rules.length) : (bo (rl s k)).length ≤ 27 ∧ (rl s k).a.length ≤ 3 ∧ (rl s k).e.length ≤ 24 ∧ ∀ x ∈ bo (rl s k), 0 ≤ x ∧ x < 400 := by
 have h := iq (g.r k hk)
 have h1 := mM (s.rules.getD k default)
 have h2 := h.1.e
 have h3 := h.2.2.1
 have hn := g.h.nv
 refine ⟨by unfold rl; omega, h3, h2, fun x hx => ?_⟩
 have := h.2.1 x hx
 unfold inV at this
 omega
theorem sF {s : af} (g : kj s) {k : Nat} (hk : k < s.rules.length) (l22 : List Bool) (l23 : List Int) (M : List (Int × Int)) (hm : ((cR M (l23.getD 0 default)).getD 0).toNat = k) (hr : l23.length ≤ 100000) (hl : 0 < l23.length) :
  (if (s.rules.getD k default).op < 14 then cL s M l22 l23 [] else cL s M l22 l23 ((s.rules.getD k default).e)) = some (.inl (l22.set k true, (l23 ++ bo (rl s k)).drop 1)) := by
 have hu := ka g hk
 have key : ∀ e : List aB, e.length ≤ 24 → gB (rl s k).a e = bo (rl s k) → cL s M l22 l23 e = some (.inl (l22.set k true, (l23 ++ bo (rl s k)).drop 1)) := by
  intro e he hue
  unfold cL
  rw [hm]
  have h1 := lK (ah.mk (s.rules.getD k default).op (s.rules.getD k default).k (s.rules.getD k default).out_ (s.rules.getD k default).n (s.rules.getD k default).a e) (by have := hu.2.1; unfold rl at this; show (s.rules.getD k default).a.length ≤ 500000; omega) (by show e.length ≤ 500000; omega)
  rw [h1]
  simp only [bSq]
  have h2 : gB (s.rules.getD k default).a e = bo (rl s k) := hue
  rw [h2, iP (oh (by omega) (by omega)), iP (by omega)]
 unfold rl at hu key ⊢
 by_cases c : (s.rules.getD k default).op < 14
 ·rw [iP c]
  exact key [] (by simp) (by unfold bo; rw [iP c])
 ·rw [iN c]
  exact key _ hu.2.2.1 (by unfold bo; rw [iN c])
theorem mO {s : af} (g : kj s) : ∀ (m : Nat) (l : List Bool) (row : List Int), row.length + 28 * l.count false ≤ m → m ≤ 90000 → WI s l row →
  ∃ l', a8 (fun (x : List Bool × List Int) => bu s (byM s s.rules.length) x.1 x.2) (l, row) = some l' ∧ Fl s l'
 | m, l, [], hm, hM, h => by
  refine ⟨l, cO ?_, Fl.of h.len h.snd fun i hi hh => ?_⟩
  ·show bu s _ l [] = _
   unfold bu
   rw [iN (by simp)]
  ·rcases hh with hh | ⟨k, hk, hf, hu⟩
   ·rcases h.cou i hi hh with h1 | h1
    ·exact h1
    ·simp at h1
   ·rcases h.cus k hk hf i hi hu with h1 | h1
    ·exact h1
    ·simp at h1
 | m, l, v :: row, hm, hM, h => by
  have hv : 0 ≤ v ∧ v < 400 := by
   rcases h.rowp v (by simp) with h1 | ⟨k, hk, _, h1⟩
   ·have := g.h.o v h1
    have hn := g.h.nv
    unfold inV at this
    omega
   ·exact (ka g hk).2.2.2 v h1
  have hlen := h.len
  have hnr := g.h.nr
  simp only [List.length_cons] at hm
  have drop : (∀ i, i < s.rules.length → (rl s i).out_ = v → fl l i) → bu s (byM s s.rules.length) l (v :: row) = some (.inl (l, row)) →
    ∃ l', a8 (fun (x : List Bool × List Int) => bu s (byM s s.rules.length) x.1 x.2) (l, v :: row) = some l' ∧ Fl s l' := by
   intro hfl hst
   rw [cN (s := (l, v :: row)) hst]
   match m with
   | 0 => omega
   | m + 1 =>
    refine mO g m l row (by omega) (by omega) ⟨h.len, h.snd, fun x hx => h.rowp x (by simp [hx]), fun i hi ho => ?_, fun k hk hf i hi ho => ?_⟩
    ·rcases h.cou i hi ho with h1 | h1
     ·exact .inl h1
     ·rw [List.mem_cons] at h1
      rcases h1 with h1 | h1
      ·exact .inl (hfl i hi h1)
      ·exact .inr h1
    ·rcases h.cus k hk hf i hi ho with h1 | h1
     ·exact .inl h1
     ·rw [List.mem_cons] at h1
      rcases h1 with h1 | h1
      ·exact .inl (hfl i hi h1)
      ·exact .inr h1
  have hd : ((v :: row).getD 0 default) = v := rfl
  cases hmg : cR (byM s s.rules.length) v with
  | none =>
   refine drop (fun i hi e => absurd e (qx hmg i hi)) ?_
   unfold bu
   rw [hd, iP (by simp), iP ⟨by simp, by omega⟩, hmg, iN (by simp), iP (by simp only [List.length_cons]; omega)]
   rfl
  | some x =>
   obtain ⟨k, hk, rfl, hout⟩ := qy hmg
   have huniq : ∀ i, i < s.rules.length → (rl s i).out_ = v → i = k := by
    intro i hi e
    rcases Nat.lt_trichotomy i k with c | c | c
    ·exact absurd (e.trans hout.symm) (oi g hk c)
    ·exact c
    ·exact absurd (hout.trans e.symm) (oi g hi c)
   by_cases hf : fl l k
   ·refine drop (fun i hi e => by rw [huniq i hi e]; exact hf) ?_
    unfold bu
    rw [hd, iP (by simp), iP ⟨by simp, by omega⟩, hmg, iP (show (some (k : Int)).isSome = true from rfl)]
    simp only [Option.getD_some, tN]
    rw [iP (by omega), iP (show l.getD k default = true from hf), iP (by simp only [List.length_cons]; omega)]
    rfl
   ·have hcnt := pN (l := l) (i := k) (by omega) hf
    have hst : bu s (byM s s.rules.length) l (v :: row) = some (.inl (l.set k true, row ++ bo (rl s k))) := by
     have hu := sF g hk l (v :: row) (byM s s.rules.length) (by rw [hd, hmg]; simp) (by simp; omega) (by simp)
     unfold bu
     rw [hd, iP (by simp), iP ⟨by simp, by omega⟩, hmg, iP (show (some (k : Int)).isSome = true from rfl)]
     simp only [Option.getD_some, tN]
     rw [iP (by omega), iN (show ¬ l.getD k default = true from hf), iP (by omega), hu]
     rfl
    rw [cN (s := (l, v :: row)) hst]
    have hu := ka g hk
    have hkl : k < l.length := by omega
    match m with
    | 0 => omega
    | m + 1 =>
     refine mO g m _ _ (by rw [List.length_append]; omega) (by omega) ⟨by rw [List.length_set]; exact h.len, fun i hi hfi => ?_, fun x hx => ?_, fun i hi ho => ?_, fun q hq hfq i hi ho => ?_⟩
     ·rw [lM hkl] at hfi
      rcases hfi with e | hfi
      ·rw [e]
       rcases h.rowp v (by simp) with h1 | ⟨q, hq, hfq, h1⟩
       ·exact .base k hk (by rw [hout]; exact h1)
       ·exact .step k q hk (h.snd q hq hfq) (by rw [hout]; exact h1)
      ·exact h.snd i hi hfi
     ·rw [List.mem_append] at hx
      rcases hx with hx | hx
      ·rcases h.rowp x (by simp [hx]) with h1 | ⟨q, hq, hfq, h1⟩
       ·exact .inl h1
       ·exact .inr ⟨q, hq, (lM hkl q).2 (.inr hfq), h1⟩
      ·exact .inr ⟨k, hk, (lM hkl k).2 (.inl rfl), hx⟩
     ·rw [lM hkl, List.mem_append]
      rcases h.cou i hi ho with h1 | h1
      ·exact .inl (.inr h1)
      ·rw [List.mem_cons] at h1
       rcases h1 with h1 | h1
       ·exact .inl (.inl (huniq i hi h1))
       ·exact .inr (.inl h1)
     ·rw [lM hkl, List.mem_append]
      rw [lM hkl] at hfq
      rcases hfq with e | hfq
      ·subst e; exact .inr (.inr ho)
      ·rcases h.cus q hq hfq i hi ho with h1 | h1
       ·exact .inl (.inr h1)
       ·rw [List.mem_cons] at h1
        rcases h1 with h1 | h1
        ·exact .inl (.inl (huniq i hi h1))
        ·exact .inr (.inl h1)
theorem rh (n i : Nat) : ¬ fl (List.replicate n false) i := by
 unfold fl
 rw [List.getD_eq_getElem?_getD, List.getElem?_replicate]
 split <;> simp
theorem pj (s : af) : ∃ r, gG s = some r ∧ ((¬ (fq s).code = 0 ∧ r = ([], fq s)) ∨ ((fq s).code = 0 ∧ ∃ l, r = (l, ar.mk 0 0) ∧ Fl s l)) := by
 unfold gG
 rw [qu]
 simp only [bSq]
 by_cases c : (fq s).code = 0
 ·rw [iN (not_not_intro c)]
  obtain ⟨g, _⟩ := oe c
  have hnr := g.h.nr
  have hno := g.h.no
  show ∃ r, (a8 (fun (x : List (Int × Int) × Int) => cM s x.1 x.2) (byM s 0, ((0 : Nat) : Int))).bind _ = _ ∧ _
  rw [rL g s.rules.length 0 (by omega)]
  simp only [bSq]
  unfold eH
  rw [iP ⟨by omega, oh (by omega) (by omega)⟩, kU _ (by omega)]
  simp only [bSq]
  obtain ⟨l, e, hl⟩ := mO g (s.out_.length + 28 * (List.replicate s.rules.length false).count false) (List.replicate s.rules.length false) s.out_ (Nat.le_refl _) (by rw [List.count_replicate_self]; omega)
   ⟨by simp, fun i hi hf => absurd hf (rh _ _), fun v hv => .inl hv, fun i hi ho => .inr ho, fun k hk hf => absurd hf (rh _ _)⟩
  show ∃ r, (a8 (fun (x : List Bool × List Int) => bu s (byM s s.rules.length) x.1 x.2) (List.replicate s.rules.length false, s.out_)).bind _ = _ ∧ _
  rw [e]
  exact ⟨_, rfl, .inr ⟨c, l, rfl, hl⟩⟩
 ·rw [iP c]
  exact ⟨_, rfl, .inl ⟨c, rfl⟩⟩
def isN (s : af) (l : List Bool) (i : Nat) : Prop := (rl s i).out_ ∈ s.out_ ∨ ∃ k, k < s.rules.length ∧ fl l k ∧ (rl s i).out_ ∈ bo (rl s k)
theorem qz {s : af} (g : kj s) {l : List Bool} (hl : l.length = s.rules.length) {i : Nat} (hi : i < s.rules.length) : ∀ (k x : Nat) (b : Bool), x + k = s.rules.length →
  (b = true ↔ (rl s i).out_ ∈ s.out_ ∨ ∃ q, q < x ∧ fl l q ∧ (rl s i).out_ ∈ bo (rl s q)) →
  ∃ b', a8 (fun (y : Bool × Int) => cp s l (i : Int) y.1 y.2) (b, (x : Int)) = some b' ∧ (b' = true ↔ isN s l i)
 | 0, x, b, hx, hb => by
  obtain rfl : x = s.rules.length := by omega
  refine ⟨b, cO ?_, hb⟩
  show cp s l (i : Int) b _ = _
  unfold cp
  rw [iN (bj _)]
 | k + 1, x, b, hx, hb => by
  have hxl : x < s.rules.length := by omega
  have hnr := g.h.nr
  have step : ∃ b', cp s l (i : Int) b (x : Int) = some (.inl (b', ((x + 1 : Nat) : Int))) ∧ (b' = true ↔ (rl s i).out_ ∈ s.out_ ∨ ∃ q, q < x + 1 ∧ fl l q ∧ (rl s i).out_ ∈ bo (rl s q)) := by
   unfold cp
   rw [iP (ltI hxl), wrs x (by omega)]
   simp only [tN]
   by_cases c : b = true
   ·rw [iP c]
    refine ⟨true, rfl, ⟨fun _ => ?_, fun _ => rfl⟩⟩
    rcases hb.1 c with h | ⟨q, h1, h2⟩
    ·exact .inl h
    ·exact .inr ⟨q, by omega, h2⟩
   ·rw [iN c, iP (by omega)]
    have hno : ¬ ((rl s i).out_ ∈ s.out_ ∨ ∃ q, q < x ∧ fl l q ∧ (rl s i).out_ ∈ bo (rl s q)) := fun h => c (hb.2 h)
    by_cases cf : l.getD x default = true
    ·have hu := ka g hxl
     rw [iP cf, iP (inI hxl), lL _ (by have := hu.2.1; unfold rl at this; omega) (by have := hu.2.2.1; unfold rl at this; omega)]
     simp only [bSq]
     rw [hN _ _ (by have := hu.1; unfold rl at this; omega)]
     refine ⟨_, rfl, ?_⟩
     rw [List.contains_iff_mem]
     constructor
     ·intro h
      exact .inr ⟨x, by omega, cf, h⟩
     ·rintro (h | ⟨q, h1, h2, h3⟩)
      ·exact absurd (.inl h) hno
      ·by_cases e : q = x
       ·rw [e] at h3; exact h3
       ·exact absurd (.inr ⟨q, by omega, h2, h3⟩) hno
    ·rw [iN cf]
     refine ⟨false, rfl, ⟨fun h => (by cases h), ?_⟩⟩
     rintro (h | ⟨q, h1, h2, h3⟩)
     ·exact absurd (.inl h) hno
     ·by_cases e : q = x
      ·rw [e] at h2; exact absurd h2 cf
      ·exact absurd (.inr ⟨q, by omega, h2, h3⟩) hno
  obtain ⟨b', e, hb'⟩ := step
  rw [cN (s := (b, (x : Int))) e]
  exact qz g hl hi k (x + 1) b' (by omega) hb'
structure PI (s : af) (l0 l : List Bool) (b : Bool) (x : Nat) : Prop where
 len : l.length = s.rules.length
 snd : ∀ i, i < s.rules.length → fl l i → Nd s i
 no : b = false → l = l0 ∧ ∀ i, i < x → isN s l0 i → fl l0 i
 yes : b = true → l.count false < l0.count false
theorem kV {s : af} (g : kj s) (l0 : List Bool) : ∀ (k x : Nat) (l : List Bool) (b : Bool), x + k = s.rules.length → PI s l0 l b x →
  ∃ l' b', a8 (fun (y : List Bool × Bool × Int) => br s y.1 y.2.1 y.2.2) (l, b, (x : Int)) = some (l', b') ∧ PI s l0 l' b' s.rules.length
 | 0, x, l, b, hx, h => by
  obtain rfl : x = s.rules.length := by omega
  refine ⟨l, b, cO ?_, h⟩
  show br s l b _ = _
  unfold br
  rw [iN (bj _)]
 | k + 1, x, l, b, hx, h => by
  have hxl : x < s.rules.length := by omega
  have hnr := g.h.nr
  have hno := g.h.no
  have hlen := h.len
  obtain ⟨c, e1, hc⟩ := qz g h.len hxl s.rules.length 0 (s.out_.contains (s.rules.getD x default).out_) (by omega) (by
   rw [List.contains_iff_mem]
   constructor
   ·intro h; exact .inl h
   ·rintro (h | ⟨q, h, _⟩)
    ·exact h
    ·omega)
  have hst : br s l b (x : Int) = co l b (x : Int) c := by
   unfold br
   rw [iP (ltI hxl), iP (inI hxl), tN, hN _ _ (by omega)]
   simp only [bSq]
   show (a8 (fun (y : Bool × Int) => cp s l (x : Int) y.1 y.2) (s.out_.contains (s.rules.getD x default).out_, ((0 : Nat) : Int))).bind _ = _
   rw [e1]
   rfl
  have hj2 : ∀ (l : List Bool) (b : Bool), cS (x : Int) l b = some (.inl (l, b, ((x + 1 : Nat) : Int))) := fun l b => by
   unfold cS
   rw [wrs x (by omega)]
  have stay : (isN s l x → fl l x) → PI s l0 l b (x + 1) := by
   intro hn
   refine ⟨h.len, h.snd, fun hb => ?_, h.yes⟩
   obtain ⟨e, hh⟩ := h.no hb
   refine ⟨e, fun i hi hni => ?_⟩
   by_cases ei : i = x
   ·rw [ei] at hni ⊢
    rw [← e] at hni ⊢
    exact hn hni
   ·exact hh i (by omega) hni
  by_cases cc : c = true
  ·by_cases cf : fl l x
   ·have hs : br s l b (x : Int) = some (.inl (l, b, ((x + 1 : Nat) : Int))) := by
     rw [hst]
     unfold co
     rw [iP cc, iP (by omega), tN, iP cf, hj2]
    rw [cN (s := (l, b, (x : Int))) hs]
    exact kV g l0 k (x + 1) l b (by omega) (stay fun _ => cf)
   ·have hs : br s l b (x : Int) = some (.inl (l.set x true, true, ((x + 1 : Nat) : Int))) := by
     rw [hst]
     unfold co
     rw [iP cc, iP (by omega), tN, iN cf, hj2]
    rw [cN (s := (l, b, (x : Int))) hs]
    have hcnt := pN (l := l) (i := x) (by omega) cf
    refine kV g l0 k (x + 1) _ _ (by omega) ⟨by rw [List.length_set]; exact h.len, fun i hi hf => ?_, (fun hb => by cases hb), (fun _ => ?_)⟩
    ·rw [lM (by omega)] at hf
     rcases hf with e | hf
     ·rw [e]
      rcases hc.1 cc with h1 | ⟨q, h1, h2, h3⟩
      ·exact .base x hxl h1
      ·exact .step x q hxl (h.snd q h1 h2) h3
     ·exact h.snd i hi hf
    ·cases b with
     | true => have := h.yes rfl; omega
     | false =>
      have := (h.no rfl).1
      rw [this] at hcnt ⊢
      omega
  ·have hs : br s l b (x : Int) = some (.inl (l, b, ((x + 1 : Nat) : Int))) := by
    rw [hst]
    unfold co
    rw [iN cc, hj2]
   rw [cN (s := (l, b, (x : Int))) hs]
   exact kV g l0 k (x + 1) l b (by omega) (stay fun hn => absurd (hc.2 hn) cc)
theorem pm {s : af} (g : kj s) : ∀ (m : Nat) (l : List Bool) (b : Bool), 2 * l.count false + b.toNat ≤ m → l.length = s.rules.length → (∀ i, i < s.rules.length → fl l i → Nd s i) → (b = false → clo s l) →
  ∃ l', a8 (fun (y : List Bool × Bool) => cq s y.1 y.2) (l, b) = some l' ∧ Fl s l'
 | m, l, false, hm, hl, hs, hc => by
  refine ⟨l, cO ?_, Fl.of hl hs (hc rfl)⟩
  show cq s l false = _
  unfold cq
  rw [iN (by decide)]
 | m, l, true, hm, hl, hs, hc => by
  obtain ⟨l', b', e, h⟩ := kV g l s.rules.length 0 l false (by omega) ⟨hl, hs, fun _ => ⟨rfl, fun i hi => by omega⟩, fun h => by cases h⟩
  have hst : cq s l true = some (.inl (l', b')) := by
   unfold cq
   rw [iP rfl]
   show (a8 (fun (y : List Bool × Bool × Int) => br s y.1 y.2.1 y.2.2) (l, false, ((0 : Nat) : Int))).bind _ = _
   rw [e]
   rfl
  rw [cN (s := (l, true)) hst]
  match m with
  | 0 => simp at hm
  | m + 1 =>
   refine pm g m l' b' ?_ h.len h.snd fun hb => ?_
   ·cases b' with
    | true =>
     have := h.yes rfl
     simp only [Bool.toNat_true] at hm ⊢
     omega
    | false =>
     have := (h.no rfl).1
     rw [this]
     simp only [Bool.toNat_true, Bool.toNat_false] at hm ⊢
     omega
   ·obtain ⟨e1, h1⟩ := h.no hb
    intro i hi hh
    rw [e1] at hh ⊢
    exact h1 i hi hh
theorem mm {s : af} (g : kj s) : ∃ l, fW s = some l ∧ Fl s l := by
 have hnr := g.h.nr
 unfold fW
 rw [iP ⟨by omega, oh (by omega) (by omega)⟩]
 obtain ⟨l, e, h⟩ := pm g _ (List.replicate s.rules.length false) true (Nat.le_refl _) (by simp) (fun i _ hf => absurd hf (rh _ _)) (fun h => by cases h)
 show ∃ l, (a8 (fun (y : List Bool × Bool) => cq s y.1 y.2) (List.replicate s.rules.length false, true)).bind _ = _ ∧ _
 rw [e]
 exact ⟨l, rfl, h⟩
def pk (s : af) (l : List Bool) : Nat → List ah
 | 0 => []
 | i + 1 => if l.getD i default = true then pk s l i ++ [rl s i] else pk s l i
theorem nl (s : af) (l : List Bool) (i : Nat) : pk s l (i + 1) = if l.getD i default = true then pk s l i ++ [rl s i] else pk s l i := rfl
theorem pO (s : af) (l : List Bool) : ∀ i, (pk s l i).length ≤ i
 | 0 => Nat.le_refl _
 | i + 1 => by
  have := pO s l i
  unfold pk
  split
  ·simp; omega
  ·omega
theorem ri {s : af} {l : List Bool} : ∀ {i : Nat}, i ≤ s.rules.length → ∀ r ∈ pk s l i, r ∈ s.rules
 | 0, _, r, h => by simp [pk] at h
 | i + 1, hi, r, h => by
  unfold pk at h
  split at h
  ·rw [List.mem_append, List.mem_singleton] at h
   rcases h with h | rfl
   ·exact ri (by omega) r h
   ·exact bJ (by omega)
  ·exact ri (by omega) r h
theorem pn {s : af} (hg : gu s 150) {l : List Bool} {f : ar} (hl : l.length = s.rules.length) : ∀ (k i : Nat), i + k = s.rules.length →
  a8 (fun (x : List ah × Int) => dv s (l, f) x.1 x.2) (pk s l i, (i : Int)) = some (pk s l s.rules.length)
 | 0, i, hi => by
  obtain rfl : i = s.rules.length := by omega
  refine cO ?_
  show dv s (l, f) _ _ = _
  unfold dv
  rw [iN (bj _)]
 | k + 1, i, hi => by
  have hil : i < s.rules.length := by omega
  have hr := hg.r _ (bJ hil)
  have hpl := pO s l i
  have hnr := hg.nr
  have h : dv s (l, f) (pk s l i) (i : Int) = some (.inl (pk s l (i + 1), ((i + 1 : Nat) : Int))) := by
   unfold dv
   rw [iP (ltI hil), iP (inI hil), wrs i (by omega)]
   simp only [tN]
   rw [iP (by omega), u3 _ (by omega) (by omega)]
   simp only [bSq]
   rw [iP (oh (by omega) (by omega))]
   rw [nl]
   split <;> rfl
  rw [cN (s := (pk s l i, (i : Int))) h]
  exact pn hg hl k (i + 1) (by omega)
theorem oj {s : af} (hg : gu s 150) {l : List Bool} (hl : l.length = s.rules.length) : ∀ (k i : Nat), i + k = s.rules.length →
  a8 (fun (x : List ah × Int) => d9 s l x.1 x.2) (pk s l i, (i : Int)) = some (pk s l s.rules.length)
 | 0, i, hi => by
  obtain rfl : i = s.rules.length := by omega
  refine cO ?_
  show d9 s l _ _ = _
  unfold d9
  rw [iN (by omega)]
 | k + 1, i, hi => by
  have hil : i < s.rules.length := by omega
  have hr := hg.r _ (bJ hil)
  have hpl := pO s l i
  have hnr := hg.nr
  have h : d9 s l (pk s l i) (i : Int) = some (.inl (pk s l (i + 1), ((i + 1 : Nat) : Int))) := by
   unfold d9
   rw [iP (by omega), iP (by omega), wrs i (by omega)]
   simp only [tN]
   rw [iP (inI hil), m3 _ hr]
   simp only [bSq]
   rw [iP (oh (by omega) (by omega))]
   rw [nl]
   split <;> rfl
  rw [cN (s := (pk s l i, (i : Int))) h]
  exact oj hg hl k (i + 1) (by omega)
def rM (s : af) (l : List Bool) : af := af.mk s.vars s.in_ s.out_ (pk s l s.rules.length)
theorem qA {s : af} (hg : gu s 150) (l : List Bool) : gu (rM s l) 150 :=
 ⟨hg.nv, Nat.le_trans (pO s l _) hg.nr, hg.ni, hg.no, fun r hr => hg.r r (ri (Nat.le_refl _) r hr)⟩
theorem rN {s : af} (hg : gu s 150) : ∃ r, im s = some r ∧ ((¬ (fq s).code = 0 ∧ r = (af.mk [] [] [] [], fq s)) ∨ ((fq s).code = 0 ∧ ∃ l, r = (rM s l, ar.mk 0 0) ∧ Fl s l)) := by
 obtain ⟨r, e, h⟩ := pj s
 unfold im
 rw [e]
 simp only [bSq]
 rcases h with ⟨c, rfl⟩ | ⟨c, l, rfl, hl⟩
 ·rw [iP c]
  exact ⟨_, rfl, .inl ⟨c, rfl⟩⟩
 ·have h1 := hg.nv
  have h2 := hg.ni
  have h3 := hg.no
  rw [iN (by simp)]
  unfold cn
  rw [pi s.vars 16 (by omega) (by omega), kU _ (by omega), kU _ (by omega)]
  simp only [bSq]
  show ∃ r, (a8 (fun (x : List ah × Int) => dv s (l, ar.mk 0 0) x.1 x.2) (pk s l 0, ((0 : Nat) : Int))).bind _ = _ ∧ _
  rw [pn hg hl.1 s.rules.length 0 (by omega)]
  exact ⟨_, rfl, .inr ⟨c, l, rfl, hl⟩⟩
theorem tE {s : af} (hg : gu s 150) (g : kj s) : ∃ l, kE s = some (rM s l) ∧ Fl s l := by
 obtain ⟨l, e, hl⟩ := mm g
 unfold kE
 rw [e]
 simp only [bSq]
 rw [rJ hg (by omega)]
 simp only [bSq]
 refine ⟨l, ?_, hl⟩
 show (a8 (fun (x : List ah × Int) => d9 s l x.1 x.2) (pk s l 0, ((0 : Nat) : Int))).bind _ = _
 rw [oj hg hl.1 s.rules.length 0 (by omega)]
 rfl
theorem om (l : List Bool) (h : l.length ≤ 1000000) : gn l l = some true := by
 unfold gn
 rw [iN (by simp), bw (T := Unit) (Z := Bool) l.length (fun _ => none) () (fun i hi => by
  unfold eM
  rw [iP (ltI hi), iP ⟨inI hi, inI hi⟩, wrs i (by omega)]
  simp) (by
  unfold eM
  rw [iN (bj _)]), fY (fun _ _ => rfl)]
 rfl
def s0D : af := af.mk (lit ([(ao.mk 105 0), (ao.mk 105 0)] : List ao)) [] (lit ([0] : List Int)) (lit ([(ah.mk 1 0 0 1 [] []), (ah.mk 2 0 1 0 (lit ([0] : List Int)) [])] : List ah))
theorem tF : ay s0D (ah.mk 1 0 0 1 [] []) = some true := by
 rw [cj (by decide) (by decide) (by decide)]
 unfold aK
 rfl
theorem tG : ay s0D (ah.mk 2 0 1 0 (lit ([0] : List Int)) []) = some true := by
 rw [cj (by decide) (by decide) (by decide)]
 unfold aK
 rw [cE]
 simp only [bSq]
 rfl
theorem sG : fq s0D = ar.mk 0 0 := by
 refine tD (by rfl) (fun i hi => ?_) (fun i hi => ?_) (by decide)
 ·have : i = 0 ∨ i = 1 := by have : s0D.rules.length = 2 := rfl; omega
  rcases this with rfl | rfl
  ·exact qw (r := ah.mk 1 0 0 1 [] []) (by decide) (by decide) (by decide) (by decide) (by decide) tF
  ·exact qw (r := ah.mk 2 0 1 0 (lit ([0] : List Int)) []) (by decide) (by decide) (by decide) (by decide) (by decide) tG
 ·have : i = 0 ∨ i = 1 := by have : s0D.rules.length = 2 := rfl; omega
  rcases this with rfl | rfl <;> decide
theorem sH : gu s0D 150 := ⟨by decide, by decide, by decide, by decide, by
 intro r hr
 have : r ∈ [(ah.mk 1 0 0 1 [] []), (ah.mk 2 0 1 0 (lit ([0] : List Int)) [])] := hr
 simp only [List.mem_cons, List.not_mem_nil, or_false] at this
 rcases this with rfl | rfl <;> simp [lit]⟩
theorem vT : ¬ Nd s0D 1 := by
 have key : ∀ i, Nd s0D i → i ≠ 1 := by
  intro i h
  induction h with
  | base i hi h => rintro rfl; revert h; decide
  | step i k hi hk h ih =>
   rintro rfl
   have hkl := hk.lt
   have : k = 0 := by have : s0D.rules.length = 2 := rfl; omega
   subst this
   revert h
   decide
 exact fun h => key 1 h rfl
theorem oq : gh = some true := by
 obtain ⟨r, e, h⟩ := rN sH
 unfold gh
 show (im s0D).bind _ = _
 rw [e]
 simp only [bSq]
 rcases h with ⟨c, _⟩ | ⟨c, l, rfl, hl⟩
 ·rw [sG] at c; exact absurd rfl c
 ·have f0 : l.getD 0 default = true := (hl.2 0 (by decide)).2 (.base 0 (by decide) (by decide))
  have f1 : ¬ l.getD 1 default = true := fun h => vT ((hl.2 1 (by decide)).1 h)
  have ep : pk s0D l s0D.rules.length = [rl s0D 0] := by
   show pk s0D l 2 = _
   rw [nl, iN f1, nl, iP f0]
   rfl
  have er : (rM s0D l).rules = [rl s0D 0] := ep
  rw [iP rfl]
  simp only [er]
  rfl
theorem mn (s : af) (_ : s.ok) (_ : s.sz ≤ 1048576) : iO s = some true := by
 unfold iO
 rw [oq]
 simp only [bSq, if_true]
 obtain ⟨b, e1, h1⟩ := tC s 150 (by omega)
 have e1' : dG s 150 = some b := e1
 rw [e1']
 simp only [bSq]
 cases b with
 | true => rfl
 | false =>
  have hg := h1 rfl
  simp only [Bool.false_eq_true, if_false]
  rw [rJ hg (by omega)]
  simp only [bSq]
  obtain ⟨r, e2, h2⟩ := pj s
  obtain ⟨t, e3, h3⟩ := rN hg
  rw [e2, e3, qv]
  simp only [bSq]
  by_cases c : (fq s).code = 0
  ·obtain ⟨g, hc⟩ := oe c
   rcases h2 with ⟨c', _⟩ | ⟨_, l, rfl, hl⟩
   ·exact absurd c c'
   rcases h3 with ⟨c', _⟩ | ⟨_, l', rfl, hl'⟩
   ·exact absurd c c'
   rw [hc]
   simp only [and_self, if_true]
   rw [iR hg (by omega)]
   simp only [bSq, if_true, not_true_eq_false, if_false]
   obtain ⟨l2, e4, hl2⟩ := mm g
   obtain ⟨l3, e5, hl3⟩ := tE hg g
   have hnr := hg.nr
   rw [e4]
   simp only [bSq]
   rw [hl2.uniq hl, om _ (by rw [hl.1]; omega)]
   simp only [bSq, if_true]
   rw [e5, hl3.uniq hl']
   simp only [bSq]
   rw [iR (qA hg l') (by omega)]
   rfl
  ·rcases h2 with ⟨_, rfl⟩ | ⟨c', _⟩
   ·rcases h3 with ⟨_, rfl⟩ | ⟨c', _⟩
    ·simp only [and_self, if_true]
     rw [iR hg (by omega)]
     simp only [bSq, if_true]
     rw [iP c, iP (by simp), iR (s := af.mk [] [] [] []) (m := 150) ⟨by simp, by simp, by simp, by simp, by simp⟩ (by omega)]
     rfl
    ·exact absurd c' c
   ·exact absurd c' c
end Pam
