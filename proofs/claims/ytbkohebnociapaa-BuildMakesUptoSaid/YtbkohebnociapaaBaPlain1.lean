/- The fault of all of a system but its rules: the program and the document tell the same. -/
import Derived.Test.YtbkohebnociapaaBaFun1
import Derived.Test.YtbkohebnociapaaBWide1
import Derived.Test.YtbkohebnociapaaBBase3
set_option linter.all false
namespace Pam
open Go
theorem tk (v : Int) (j : aC) : fb v j = some (decide (0 ≤ v ∧ v < (j.system.vars.length : Int))) := by
 unfold fb
 by_cases h : v ≥ 0
 ·rw [iP h]; congr 1; rw [decide_eq_decide]; omega
 ·rw [iN h]; congr 1; symm; rw [decide_eq_false_iff_not]; omega
theorem rl (l : List Int) (v : Int) (hl : l.length ≤ 9000000) : ∃ k, dU l v = some k ∧ (decide (k ≥ 0)) = l.contains v := by
 unfold dU
 rw [bo l.length (fun i => if l.getD i default = v then some (i : Int) else none) () (fun i hi => by
  unfold de
  rw [iP (ltI hi), iP (inI hi)]
  simp only [tN]
  by_cases h : l.getD i default = v
  ·rw [iP h.symm, iP h]
  ·rw [iN (fun e => h e.symm), iN h, wrs i (by omega)]) (by unfold de; rw [iN (be _)])]
 rcases cm l.length (fun i => if l.getD i default = v then some (i : Int) else none) () with ⟨e, h⟩ | ⟨j, z, hj, hf, e⟩
 ·rw [e]
  refine ⟨-1, rfl, ?_⟩
  have : ¬ v ∈ l := by
   intro hm
   obtain ⟨i, hi, rfl⟩ := List.mem_iff_getElem.1 hm
   have := h i hi
   simp [List.getD, hi] at this
  simp [this]
 ·rw [e]
  refine ⟨z, rfl, ?_⟩
  by_cases hh : l.getD j default = v
  ·rw [iP hh] at hf
   simp only [sJ] at hf
   subst hf
   have : v ∈ l := by rw [← hh]; exact bb hj
   simp [this]
  ·rw [iN hh] at hf; cases hf
theorem ud (l : List Int) (v : Int) (hl : l.length ≤ 9000000) : df l v = some (l.contains v) := by
 unfold df
 obtain ⟨k, h1, h2⟩ := rl l v hl
 rw [h1]
 simp only [bSq, h2]
theorem kq (l : List Int) (v : Int) (hl : l.length ≤ 9000000) : kA l v = some (l.contains v) := by
 unfold kA
 rw [bo l.length (fun i => if l.getD i default = v then some true else none) () (fun i hi => by
  unfold mc
  rw [iP (ltI hi), iP (inI hi)]
  simp only [tN]
  by_cases h : l.getD i default = v
  ·rw [iP h, iP h]
  ·rw [iN h, iN h, wrs i (by omega)]) (by unfold mc; rw [iN (be _)])]
 rcases cm l.length (fun i => if l.getD i default = v then some true else none) () with ⟨e, h⟩ | ⟨j, z, hj, hf, e⟩
 ·rw [e]
  have : ¬ v ∈ l := by
   intro hm
   obtain ⟨i, hi, rfl⟩ := List.mem_iff_getElem.1 hm
   have := h i hi
   simp [List.getD, hi] at this
  show some false = _
  simp [this]
 ·rw [e]
  by_cases hh : l.getD j default = v
  ·rw [iP hh] at hf
   simp only [sJ] at hf
   subst hf
   have : v ∈ l := by rw [← hh]; exact bb hj
   show some true = _
   simp [this]
  ·rw [iN hh] at hf; cases hf
def inV (s : ae) (v : Int) : Prop := 0 ≤ v ∧ v < (s.vars.length : Int)
instance (s : ae) (v : Int) : Decidable (inV s v) := inferInstanceAs (Decidable (_ ∧ _))
def v8 (x : ap) (i : Nat) : Option ay :=
 if ¬ x.elem = 105 ∧ ¬ x.elem = 98 then some (ay.mk 10 (-2 - i)) else if x.n < 0 ∨ x.n > 300 then some (ay.mk 13 (-2 - i)) else none
def pI (s : ae) (i : Nat) : Option ay := v8 (s.vars.getD i default) i
def inF (s : ae) (i : Nat) : Option ay :=
 if ¬ inV s (s.in_.getD i default) then some (ay.mk 16 (-1)) else if (s.in_.take i).contains (s.in_.getD i default) then some (ay.mk 8 (-1)) else none
def nZ (s : ae) (i : Nat) : Option ay := if ¬ inV s (s.out_.getD i default) then some (ay.mk 16 (-1)) else none
def mX (s : ae) : ay :=
 if (s.vars.length : Int) > 400 ∨ (s.rules.length : Int) > 400 ∨ (s.in_.length : Int) > 400 ∨ (s.out_.length : Int) > 400 then ay.mk 7 (-1)
 else match dA s.vars.length (pI s) () with
  | .inr z => z
  | .inl _ => match dA s.in_.length (inF s) () with
   | .inr z => z
   | .inl _ => match dA s.out_.length (nZ s) () with
    | .inr z => z
    | .inl _ => ay.mk 0 0
theorem wr2 (i : Nat) (h : i < 1000000) : IntKind.wrap .i64 (-2 - (i : Int)) = -2 - i := wr (by omega) (by omega)
theorem uS (s : ae) (c : Int) : iu (aC.mk s c) = some (mX s) := by
 have out : s.out_.length ≤ 400 → dq (aC.mk s c) = some (match dA s.out_.length (nZ s) () with | .inr z => z | .inl _ => ay.mk 0 0) := by
  intro hl
  unfold dq
  rw [bo s.out_.length (nZ s) () (fun i hi => by
   unfold fd nZ inV
   rw [iP (ltI hi), iP (inI hi)]
   simp only [tN]
   rw [tk]
   simp only [bSq]
   by_cases h : 0 ≤ s.out_.getD i default ∧ s.out_.getD i default < (s.vars.length : Int)
   ·rw [iP (by simpa using h), iN (by simpa using h), wrs i (by omega)]
   ·rw [iN (by simpa using h), iP h]) (by unfold fd; rw [iN (be _)])]
  cases dA s.out_.length (nZ s) () <;> rfl
 have inn : s.in_.length ≤ 400 → s.out_.length ≤ 400 → cH (aC.mk s c) = some (match dA s.in_.length (inF s) () with
   | .inr z => z
   | .inl _ => match dA s.out_.length (nZ s) () with | .inr z => z | .inl _ => ay.mk 0 0) := by
  intro hl ho
  unfold cH
  rw [bo s.in_.length (inF s) () (fun i hi => by
   unfold fe inF inV
   rw [iP (ltI hi), iP (inI hi)]
   simp only [tN]
   rw [tk]
   simp only [bSq]
   by_cases h : 0 ≤ s.in_.getD i default ∧ s.in_.getD i default < (s.vars.length : Int)
   ·rw [iP (by simpa using h), iP ⟨by omega, by omega⟩, ud _ _ (by simp; omega), iN (by simpa using h)]
    simp only [bSq]
    split
    ·rfl
    ·rw [wrs i (by omega)]
   ·rw [iN (by simpa using h), iP h]) (by unfold fe; rw [iN (be _)])]
  cases dA s.in_.length (inF s) () with
  | inr z => rfl
  | inl _ => exact out ho
 have main : s.vars.length ≤ 400 → s.in_.length ≤ 400 → s.out_.length ≤ 400 → (bf (fun x14 => dZ (aC.mk s c) x14) 0).bind (Sum.elim (fun _ => cH (aC.mk s c)) (fun z15 => some z15)) = some (match dA s.vars.length (pI s) () with
   | .inr z => z
   | .inl _ => match dA s.in_.length (inF s) () with
    | .inr z => z
    | .inl _ => match dA s.out_.length (nZ s) () with | .inr z => z | .inl _ => ay.mk 0 0) := by
  intro hv hl ho
  rw [bo s.vars.length (pI s) () (fun i hi => by
   unfold dZ pI
   rw [iP (ltI hi), iP (inI hi)]
   simp only [tN]
   obtain ⟨x, hx⟩ : ∃ x, s.vars.getD i default = x := ⟨_, rfl⟩
   simp only [hx]
   unfold v8
   have tail : dr (aC.mk s c) (i : Int) = some (match (if x.n < 0 ∨ x.n > 300 then some (ay.mk 13 (-2 - (i : Int))) else none) with | some z => .inr (.inr z) | none => .inl ((i + 1 : Nat) : Int)) := by
    unfold dr
    simp only [tN, hx]
    by_cases h1 : x.n < 0
    ·rw [iP h1, iP (.inl h1), wr2 i (by omega)]
    ·rw [iN h1]
     by_cases h2 : x.n > 300
     ·rw [iP h2, iP (.inr h2), wr2 i (by omega)]
     ·rw [iN h2, iN (by omega), wrs i (by omega)]
   by_cases h1 : x.elem = 105
   ·rw [iN (by simpa using h1), iN (by simp [h1])]; rw [tail]; generalize (if x.n < 0 ∨ x.n > 300 then some (ay.mk 13 (-2 - (i : Int))) else none) = q; cases q <;> rfl
   ·rw [iP h1]
    by_cases h2 : x.elem = 98
    ·rw [iN (by simpa using h2), iN (by simp [h2])]; rw [tail]; generalize (if x.n < 0 ∨ x.n > 300 then some (ay.mk 13 (-2 - (i : Int))) else none) = q; cases q <;> rfl
    ·rw [iP h2, iP ⟨h1, h2⟩, wr2 i (by omega)]) (by unfold dZ; rw [iN (be _)])]
  cases dA s.vars.length (pI s) () with
  | inr z => rfl
  | inl _ => exact inn hl ho
 unfold iu mX
 by_cases h1 : (s.vars.length : Int) > 400
 ·rw [iP h1, iP (.inl h1)]
 rw [iN h1]
 by_cases h2 : (s.rules.length : Int) > 400
 ·rw [iP h2, iP (.inr (.inl h2))]
 rw [iN h2]
 by_cases h3 : (s.in_.length : Int) > 400
 ·rw [iP h3, iP (.inr (.inr (.inl h3)))]
 rw [iN h3]
 by_cases h4 : (s.out_.length : Int) > 400
 ·rw [iP h4, iP (.inr (.inr (.inr h4)))]
 rw [iN h4, iN (by omega)]
 exact main (by omega) (by omega) (by omega)
theorem uT (s : ae) : lh s = some (mX s) := by
 have hF : ∀ a b, ep a b = some (ay.mk a b) := fun _ _ => rfl
 have out : s.out_.length ≤ 400 → fJ s = some (match dA s.out_.length (nZ s) () with | .inr z => z | .inl _ => ay.mk 0 0) := by
  intro hl
  unfold fJ
  rw [bo s.out_.length (nZ s) () (fun i hi => by
   unfold i5 nZ inV
   rw [iP (ltI hi), iP (inI hi)]
   simp only [tN]
   by_cases h1 : s.out_.getD i default < 0
   ·rw [iP h1, iP (by omega), hF]; rfl
   ·rw [iN h1]
    by_cases h2 : s.out_.getD i default ≥ (s.vars.length : Int)
    ·rw [iP h2, iP (by omega), hF]; rfl
    ·rw [iN h2, iN (by omega), wrs i (by omega)]) (by unfold i5; rw [iN (be _)])]
  cases dA s.out_.length (nZ s) () <;> rfl
 have inn : s.in_.length ≤ 400 → s.out_.length ≤ 400 → eq s = some (match dA s.in_.length (inF s) () with
   | .inr z => z
   | .inl _ => match dA s.out_.length (nZ s) () with | .inr z => z | .inl _ => ay.mk 0 0) := by
  intro hl ho
  unfold eq
  rw [bo s.in_.length (inF s) () (fun i hi => by
   unfold i6 inF inV
   rw [iP (ltI hi), iP (inI hi)]
   simp only [tN]
   by_cases h1 : s.in_.getD i default < 0
   ·rw [iP h1, iP (by omega), hF]; rfl
   ·rw [iN h1]
    by_cases h2 : s.in_.getD i default ≥ (s.vars.length : Int)
    ·rw [iP h2, iP (by omega), hF]; rfl
    ·rw [iN h2, iP ⟨by omega, by omega⟩, iN (by omega), kq _ _ (by simp; omega)]
     simp only [bSq, hF]
     split
     ·rfl
     ·rw [wrs i (by omega)]) (by unfold i6; rw [iN (be _)])]
  cases dA s.in_.length (inF s) () with
  | inr z => rfl
  | inl _ => exact out ho
 have main : s.vars.length ≤ 400 → s.in_.length ≤ 400 → s.out_.length ≤ 400 → (bf (fun x21 => hQ s x21) 0).bind (Sum.elim (fun _ => eq s) (fun z25 => some z25)) = some (match dA s.vars.length (pI s) () with
   | .inr z => z
   | .inl _ => match dA s.in_.length (inF s) () with
    | .inr z => z
    | .inl _ => match dA s.out_.length (nZ s) () with | .inr z => z | .inl _ => ay.mk 0 0) := by
  intro hv hl ho
  rw [bo s.vars.length (pI s) () (fun i hi => by
   unfold hQ pI
   rw [iP (ltI hi), iP (inI hi)]
   simp only [tN]
   obtain ⟨x, hx⟩ : ∃ x, s.vars.getD i default = x := ⟨_, rfl⟩
   simp only [hx]
   unfold v8
   have tail : fK s (i : Int) = some (match (if x.n < 0 ∨ x.n > 300 then some (ay.mk 13 (-2 - (i : Int))) else none) with | some z => .inr (.inr z) | none => .inl ((i + 1 : Nat) : Int)) := by
    unfold fK
    rw [iP (inI hi)]
    simp only [tN, hx]
    by_cases h1 : x.n < 0
    ·rw [iP h1, iP (.inl h1), wr2 i (by omega), hF]; rfl
    ·rw [iN h1]
     by_cases h2 : x.n > 300
     ·rw [iP h2, iP (.inr h2), wr2 i (by omega), hF]; rfl
     ·rw [iN h2, iN (by omega), wrs i (by omega)]
   by_cases h1 : x.elem = 105
   ·rw [iN (by simpa using h1), iN (by simp [h1])]; rw [tail]; generalize (if x.n < 0 ∨ x.n > 300 then some (ay.mk 13 (-2 - (i : Int))) else none) = q; cases q <;> rfl
   ·rw [iP h1]
    by_cases h2 : x.elem = 98
    ·rw [iN (by simpa using h2), iN (by simp [h2])]; rw [tail]; generalize (if x.n < 0 ∨ x.n > 300 then some (ay.mk 13 (-2 - (i : Int))) else none) = q; cases q <;> rfl
    ·rw [iP h2, iP ⟨h1, h2⟩, wr2 i (by omega), hF]; rfl) (by unfold hQ; rw [iN (be _)])]
  cases dA s.vars.length (pI s) () with
  | inr z => rfl
  | inl _ => exact inn hl ho
 unfold lh mX
 by_cases h1 : (s.vars.length : Int) > 400
 ·rw [iP h1, iP (.inl h1)]; rfl
 rw [iN h1]
 by_cases h3 : (s.in_.length : Int) > 400
 ·rw [iP h3, iP (.inr (.inr (.inl h3)))]; rfl
 rw [iN h3]
 by_cases h4 : (s.out_.length : Int) > 400
 ·rw [iP h4, iP (.inr (.inr (.inr h4)))]; rfl
 rw [iN h4]
 by_cases h2 : (s.rules.length : Int) > 400
 ·rw [iP h2, iP (.inr (.inl h2))]; rfl
 rw [iN h2, iN (by omega)]
 exact main (by omega) (by omega) (by omega)
def opT (k : Int) : Int × Int × Int :=
 if 1 ≤ k ∧ k ≤ 7 then (105, 105, 2) else if k = 8 ∨ k = 9 then (105, 98, 2) else if 10 ≤ k ∧ k ≤ 12 then (98, 98, 2) else if k = 13 then (105, 105, 1) else if k = 14 then (98, 98, 1) else (0, 0, 0)
theorem gK (k : Int) : ke k = some (opT k) := by
 unfold ke opT
 repeat' split
 all_goals first
  | rfl
  | (exfalso; omega)
theorem ci (k : Int) : kj k = some (opT k) := by
 unfold kj
 by_cases h1 : k < 1
 ·rw [iP h1]; unfold opT
  rw [iN (by omega), iN (by omega), iN (by omega), iN (by omega), iN (by omega)]
 rw [iN h1]
 by_cases h2 : k > 14
 ·rw [iP h2]; unfold opT
  rw [iN (by omega), iN (by omega), iN (by omega), iN (by omega), iN (by omega)]
 rw [iN h2]
 have : k = 1 ∨ k = 2 ∨ k = 3 ∨ k = 4 ∨ k = 5 ∨ k = 6 ∨ k = 7 ∨ k = 8 ∨ k = 9 ∨ k = 10 ∨ k = 11 ∨ k = 12 ∨ k = 13 ∨ k = 14 := by omega
 rcases this with rfl | rfl | rfl | rfl | rfl | rfl | rfl | rfl | rfl | rfl | rfl | rfl | rfl | rfl <;> rfl
theorem w8 (k : Int) : (opT k).2.2 = 0 ∨ ((opT k).1 = 105 ∨ (opT k).1 = 98) ∧ ((opT k).2.1 = 105 ∨ (opT k).2.1 = 98) := by
 unfold opT
 repeat' split
 all_goals simp
def d5 (s : ae) (n : Int) (p : aj) (rs : List Int) : Option (List Int) :=
 if p.op = 1 then (if p.k = 0 then some (105 :: rs) else if p.k = 1 ∧ (p.n = 0 ∨ p.n = 1) then some (98 :: rs) else none)
 else if p.op = 2 then (if (s.vars.getD p.v.toNat default).n = 0 then some ((s.vars.getD p.v.toNat default).elem :: rs) else none)
 else if p.op = 3 then (if (s.vars.getD p.v.toNat default).n > 0 ∧ p.n ≥ 0 ∧ p.n ≤ (s.vars.getD p.v.toNat default).n - n then some ((s.vars.getD p.v.toNat default).elem :: rs) else none)
 else if p.op = 4 then (if p.n ≥ -1000000 ∧ p.n ≤ 1000000 then some (105 :: rs) else none)
 else if p.op = 5 then (match rs with
  | a :: r => if (opT p.k).2.2 = 1 ∧ a = (opT p.k).1 then some ((opT p.k).2.1 :: r) else none
  | [] => none)
 else if p.op = 6 then (match rs with
  | a :: b :: r => if (opT p.k).2.2 = 2 ∧ a = (opT p.k).1 ∧ b = (opT p.k).1 then some ((opT p.k).2.1 :: r) else none
  | _ => none)
 else if p.op = 7 then (match rs with
  | a :: b :: c :: r => if c = 98 ∧ b = a then some (a :: r) else none
  | _ => none)
 else if p.op = 8 then (match rs with
  | a :: b :: r => if (s.vars.getD p.v.toNat default).n > 0 ∧ b = 105 ∧ a = (s.vars.getD p.v.toNat default).elem then some ((s.vars.getD p.v.toNat default).elem :: r) else none
  | _ => none)
 else none
def okE (x : Int) : Prop := x = 105 ∨ x = 98
def okS (rs : List Int) : Prop := ∀ x ∈ rs, okE x
structure dW (s : ae) : Prop where
 e : ∀ v ∈ s.vars, okE v.elem
 n : ∀ v ∈ s.vars, 0 ≤ v.n ∧ v.n ≤ 300
def lq (s : ae) (p : aj) : Prop := (p.op = 2 ∨ p.op = 3 ∨ p.op = 8) → inV s p.v
theorem w9 {s : ae} {n : Int} {p : aj} {rs rs' : List Int} (hv : dW s) (hu : lq s p) (hs : okS rs) (h : d5 s n p rs = some rs') : okS rs' ∧ rs'.length ≤ rs.length + 1 := by
 have hel : p.op = 2 ∨ p.op = 3 ∨ p.op = 8 → okE (s.vars.getD p.v.toNat default).elem := fun ho => hv.e _ (bb (by have := hu ho; unfold inV at this; omega))
 have cons : ∀ {x : Int} {r : List Int}, okE x → okS r → okS (x :: r) := fun h1 h2 y hy => by
  rcases List.mem_cons.1 hy with rfl | hy
  ·exact h1
  ·exact h2 y hy
 have tl : ∀ {x : Int} {r : List Int}, okS (x :: r) → okS r := fun h1 y hy => h1 y (by simp [hy])
 have hk : ∀ m : Int, (opT p.k).2.2 = m → m ≠ 0 → okE (opT p.k).2.1 := fun m h1 h2 => by
  rcases w8 p.k with h | h
  ·exact absurd (h1.symm.trans h) h2
  ·exact h.2
 unfold d5 at h
 by_cases h1 : p.op = 1
 ·rw [iP h1] at h
  split at h
  ·simp only [sJ] at h; subst h; exact ⟨cons (.inl rfl) hs, by simp⟩
  ·split at h
   ·simp only [sJ] at h; subst h; exact ⟨cons (.inr rfl) hs, by simp⟩
   ·cases h
 rw [iN h1] at h
 by_cases h2 : p.op = 2
 ·rw [iP h2] at h
  split at h
  ·simp only [sJ] at h; subst h; exact ⟨cons (hel (.inl h2)) hs, by simp⟩
  ·cases h
 rw [iN h2] at h
 by_cases h3 : p.op = 3
 ·rw [iP h3] at h
  split at h
  ·simp only [sJ] at h; subst h; exact ⟨cons (hel (.inr (.inl h3))) hs, by simp⟩
  ·cases h
 rw [iN h3] at h
 by_cases h4 : p.op = 4
 ·rw [iP h4] at h
  split at h
  ·simp only [sJ] at h; subst h; exact ⟨cons (.inl rfl) hs, by simp⟩
  ·cases h
 rw [iN h4] at h
 by_cases h5 : p.op = 5
 ·rw [iP h5] at h
  split at h
  ·split at h
   ·rename_i hc
    simp only [sJ] at h; subst h; exact ⟨cons (hk 1 hc.1 (by decide)) (tl hs), by simp⟩
   ·cases h
  ·cases h
 rw [iN h5] at h
 by_cases h6 : p.op = 6
 ·rw [iP h6] at h
  split at h
  ·split at h
   ·rename_i hc
    simp only [sJ] at h; subst h; exact ⟨cons (hk 2 hc.1 (by decide)) (tl (tl hs)), by simp⟩
   ·cases h
  ·cases h
 rw [iN h6] at h
 by_cases h7 : p.op = 7
 ·rw [iP h7] at h
  split at h
  ·split at h
   ·simp only [sJ] at h; subst h; exact ⟨cons (hs _ (by simp)) (tl (tl (tl hs))), by simp⟩
   ·cases h
  ·cases h
 rw [iN h7] at h
 by_cases h8 : p.op = 8
 ·rw [iP h8] at h
  split at h
  ·split at h
   ·simp only [sJ] at h; subst h; exact ⟨cons (hel (.inr (.inr h8))) (tl (tl hs)), by simp⟩
   ·cases h
  ·cases h
 rw [iN h8] at h
 cases h
theorem rm (n : Nat) (h : n ≤ 1000000) : cb n 1 := by
 unfold cb
 have : maxLen = 9223372036854775807 := rfl
 omega
theorem fN (l : List Int) : l.reverse.length = l.length := by simp
theorem rv1 (a : Int) (r : List Int) : ((a :: r).reverse).getD r.length default = a ∧ ((a :: r).reverse).take r.length = r.reverse := by
 constructor
 ·simp [List.getD]
 ·simp
theorem rv2 (a b : Int) (r : List Int) : ((a :: b :: r).reverse).getD r.length default = b ∧ ((a :: b :: r).reverse).getD (r.length + 1) default = a ∧ ((a :: b :: r).reverse).take r.length = r.reverse := by
 refine ⟨?_, ?_, ?_⟩
 ·simp [List.getD]
 ·have := (rv1 a (b :: r)).1
  simpa using this
 ·simp
theorem rv3 (a b c : Int) (r : List Int) : ((a :: b :: c :: r).reverse).getD r.length default = c ∧ ((a :: b :: c :: r).reverse).getD (r.length + 1) default = b ∧ ((a :: b :: c :: r).reverse).getD (r.length + 2) default = a ∧ ((a :: b :: c :: r).reverse).take r.length = r.reverse := by
 refine ⟨?_, ?_, ?_, ?_⟩
 ·simp [List.getD]
 ·have := (rv2 a b (c :: r)).1
  simpa using this
 ·have := (rv1 a (b :: c :: r)).1
  simpa using this
 ·simp
def iV (k : Nat) (rs : List Int) : Int := rs.getD (k - 1) 0
theorem uU (k : Nat) (rs : List Int) (hk : 1 ≤ k ∧ k ≤ 3) (hl : rs.length ≤ 1000) : bm (k : Int) rs.reverse = some (iV k rs) := by
 unfold bm iV
 rw [fN]
 by_cases h : (k : Int) > (rs.length : Int)
 ·rw [iP h]
  have : rs.length ≤ k - 1 := by omega
  simp [List.getD, List.getElem?_eq_none this]
 ·rw [iN h, wr (by omega) (by omega), iP (by omega)]
  congr 1
  have e : ((rs.length : Int) - (k : Int)).toNat = rs.length - k := by omega
  rw [e]
  have h1 : rs.length - k < rs.reverse.length := by simp; omega
  have h2 : k - 1 < rs.length := by omega
  simp only [List.getD, List.getElem?_eq_getElem h1, List.getElem?_eq_getElem h2, Option.getD_some, List.getElem_reverse]
  congr 1
  omega
theorem xZ {e : List aj} {n : Int} {j : aC} {l : List Int} {i : Nat} {t m : Int} (hi : i < e.length) (h : aP (e.getD i default) n j l = some (t, m, false)) :
  bh e n j l (i : Int) = some (.inr (.inr (0, false))) := by
 unfold bh
 rw [iP (ltI hi), iP (inI hi)]
 simp only [tN]
 rw [h]
 rfl
theorem yz {e : List aj} {n : Int} {j : aC} {l : List Int} {i : Nat} {m : Int} (k : Nat) (hi : i < e.length) (h : aP (e.getD i default) n j l = some ((k : Int), m, true)) (hl : k ≤ l.length) (hb : l.length ≤ 1000) (hi' : i < 100000) :
  bh e n j l (i : Int) = some (.inl (l.take (l.length - k) ++ [m], ((i + 1 : Nat) : Int))) := by
 unfold bh
 rw [iP (ltI hi), iP (inI hi)]
 simp only [tN]
 rw [h]
 simp only [bSq, if_true]
 rw [iN (by omega), wr (by omega) (by omega), iP ⟨by omega, rm _ (by omega)⟩, wrs i (by omega)]
 have : ((l.length : Int) - (k : Int)).toNat = l.length - k := by omega
 rw [this]
 rfl
theorem x6 (l : List Int) (x : Int) : l.reverse.take (l.reverse.length - 0) ++ [x] = (x :: l).reverse := by
 rw [Nat.sub_zero, List.take_length]; simp
theorem xa {k m : Int} (h : (opT k).2.2 = m) (hm : m ≠ 0) : (opT k).1 ≠ 0 := by
 rcases w8 k with h' | h'
 ·exact absurd (h.symm.trans h') hm
 ·rcases h'.1 with h | h <;> omega
def Aw {Z : Type} (z : Z) (i : Nat) : Option (List Int) → (List Int × Int) ⊕ (List Int ⊕ Z)
 | some rs' => .inl (rs'.reverse, ((i + 1 : Nat) : Int))
 | none => .inr (.inr z)
theorem ya {s : ae} {c : Int} {e : List aj} {n : Int} {rs : List Int} {i : Nat} (hv : dW s) (hu : lq s (e.getD i default)) (hs : okS rs) (hn : 1 ≤ n ∧ n ≤ 300) (hl : rs.length ≤ 900) (hi : i < e.length) (hi' : i < 100000) :
  bh e n (aC.mk s c) rs.reverse (i : Int) = some (Aw (0, false) i (d5 s n (e.getD i default) rs)) := by
 have hb : rs.reverse.length ≤ 1000 := by simp; omega
 have ok0 : ∀ m, aP (e.getD i default) n (aC.mk s c) rs.reverse = some (0, m, true) → bh e n (aC.mk s c) rs.reverse (i : Int) = some (.inl ((m :: rs).reverse, ((i + 1 : Nat) : Int))) := fun m h => by
  rw [yz 0 hi h (by omega) hb hi', x6]
 have fail : ∀ t m, aP (e.getD i default) n (aC.mk s c) rs.reverse = some (t, m, false) → bh e n (aC.mk s c) rs.reverse (i : Int) = some (.inr (.inr (0, false))) := fun t m h => xZ hi h
 have okk : ∀ (k : Nat) (m : Int) (r : List Int), aP (e.getD i default) n (aC.mk s c) rs.reverse = some ((k : Int), m, true) → rs.length = r.length + k → rs.reverse.take r.length = r.reverse →
   bh e n (aC.mk s c) rs.reverse (i : Int) = some (.inl ((m :: r).reverse, ((i + 1 : Nat) : Int))) := fun k m r h h1 h2 => by
  rw [yz k hi h (by rw [fN]; omega) hb hi', fN, show rs.length - k = r.length by omega, h2]
  simp
 have t1 := uU 1 rs (by omega) (by omega)
 have t2 := uU 2 rs (by omega) (by omega)
 have t3 := uU 3 rs (by omega) (by omega)
 simp only [Int.natCast_one, Int.cast_ofNat_Int] at t1 t2 t3
 generalize hp : e.getD i default = p at *
 have hvar : p.op = 2 ∨ p.op = 3 ∨ p.op = 8 → (0 ≤ p.v ∧ p.v < (s.vars.length : Int)) ∧ (0 ≤ (s.vars.getD p.v.toNat default).n ∧ (s.vars.getD p.v.toNat default).n ≤ 300) ∧ okE (s.vars.getD p.v.toNat default).elem := fun ho => by
  have h := hu ho
  have hm : s.vars.getD p.v.toNat default ∈ s.vars := bb (by unfold inV at h; omega)
  exact ⟨h, hv.n _ hm, hv.e _ hm⟩
 by_cases h1 : p.op = 1
 ·have hst : aP p n (aC.mk s c) rs.reverse = if p.k = 1 then (if p.n = 0 then some (0, 98, true) else some (0, 98, p.n == 1)) else some (0, 105, p.k == 0) := by
   unfold aP; rw [iP h1]
  unfold d5; rw [iP h1]
  by_cases k0 : p.k = 0
  ·rw [iP k0]; exact ok0 105 (by rw [hst, iN (by omega), k0]; rfl)
  ·rw [iN k0]
   by_cases k1 : p.k = 1
   ·by_cases n0 : p.n = 0
    ·rw [iP ⟨k1, .inl n0⟩]; exact ok0 98 (by rw [hst, iP k1, iP n0])
    ·by_cases n1 : p.n = 1
     ·rw [iP ⟨k1, .inr n1⟩]; exact ok0 98 (by rw [hst, iP k1, iN n0, n1]; rfl)
     ·rw [iN (by omega)]; exact fail 0 98 (by rw [hst, iP k1, iN n0, nB n1])
   ·rw [iN (by omega)]; exact fail 0 105 (by rw [hst, iN k1, nB k0])
 by_cases h2 : p.op = 2
 ·obtain ⟨q1, q2, q3⟩ := hvar (.inl h2)
  have hst : aP p n (aC.mk s c) rs.reverse = some (0, (s.vars.getD p.v.toNat default).elem, (s.vars.getD p.v.toNat default).n == 0) := by
   unfold aP; rw [iN h1, iP h2, iP q1]
  unfold d5; rw [iN h1, iP h2]
  by_cases n0 : (s.vars.getD p.v.toNat default).n = 0
  ·rw [iP n0]; exact ok0 _ (by rw [hst, n0]; rfl)
  ·rw [iN n0]; exact fail _ _ (by rw [hst, nB n0])
 by_cases h3 : p.op = 3
 ·obtain ⟨q1, q2, q3⟩ := hvar (.inr (.inl h3))
  have hst : aP p n (aC.mk s c) rs.reverse = some (0, (s.vars.getD p.v.toNat default).elem, decide ((s.vars.getD p.v.toNat default).n > 0 ∧ p.n ≥ 0 ∧ p.n ≤ (s.vars.getD p.v.toNat default).n - n)) := by
   unfold aP; rw [iN h1, iN h2, iP h3, iP q1]
   simp only
   rw [wr (by omega) (by omega)]
   by_cases a : (s.vars.getD p.v.toNat default).n > 0
   ·rw [iP a]
    by_cases b : p.n ≥ 0
    ·rw [iP b]; congr 3; rw [decide_eq_decide]; exact ⟨fun h => ⟨a, b, h⟩, fun h => h.2.2⟩
    ·rw [iN b, dF (fun h => b h.2.1)]
   ·rw [iN a, dF (fun h => a h.1)]
  unfold d5; rw [iN h1, iN h2, iP h3]
  by_cases a : (s.vars.getD p.v.toNat default).n > 0 ∧ p.n ≥ 0 ∧ p.n ≤ (s.vars.getD p.v.toNat default).n - n
  ·rw [iP a]; exact ok0 _ (by rw [hst, dT a])
  ·rw [iN a]; exact fail _ _ (by rw [hst, dF a])
 by_cases h4 : p.op = 4
 ·have hst : aP p n (aC.mk s c) rs.reverse = some (0, 105, decide (p.n ≥ -1000000 ∧ p.n ≤ 1000000)) := by
   unfold aP; rw [iN h1, iN h2, iN h3, iP h4]
   by_cases a : p.n ≥ -1000000
   ·rw [iP a]; simp [a]
   ·rw [iN a]; simp [a]
  unfold d5; rw [iN h1, iN h2, iN h3, iP h4]
  by_cases a : p.n ≥ -1000000 ∧ p.n ≤ 1000000
  ·rw [iP a]; exact ok0 _ (by rw [hst, dT a])
  ·rw [iN a]; exact fail _ _ (by rw [hst, dF a])
 have w5 : IntKind.wrap .i64 (IntKind.wrap .i64 ((5 : Int) - 5) + 1) = 1 := by decide
 have w6 : IntKind.wrap .i64 (IntKind.wrap .i64 ((6 : Int) - 5) + 1) = 2 := by decide
 by_cases h5 : p.op = 5
 ·have hst : aP p n (aC.mk s c) rs.reverse = if (opT p.k).2.2 = 1 then (if iV 1 rs = (opT p.k).1 then some ((opT p.k).2.2, (opT p.k).2.1, true) else some ((opT p.k).2.2, (opT p.k).2.1, false)) else some ((opT p.k).2.2, (opT p.k).2.1, false) := by
   unfold aP; rw [iN h1, iN h2, iN h3, iN h4, iP h5, show (p.op == 5) = true by simp [h5]]
   unfold bC
   rw [iP rfl, gK]
   simp only [bSq]
   rw [h5, w5, t1]
   simp only [bSq]
   by_cases a : (opT p.k).2.2 = 1
   ·rw [iP a, iP a, iP a]
   ·rw [iN a, iN a]
  unfold d5; rw [iN h1, iN h2, iN h3, iN h4, iP h5]
  by_cases a : (opT p.k).2.2 = 1
  ·rw [iP a] at hst
   have nz := xa a (by decide)
   cases rs with
   | nil =>
    rw [iN (by show ¬ (0 : Int) = _; omega)] at hst
    exact fail _ _ hst
   | cons x r =>
    by_cases b : x = (opT p.k).1
    ·rw [iP (show iV 1 (x :: r) = _ from b), a] at hst
     simp only
     rw [iP ⟨a, b⟩]
     exact okk 1 _ r hst (by simp) (rv1 x r).2
    ·rw [iN (show ¬ iV 1 (x :: r) = _ from b)] at hst
     simp only
     rw [iN (fun h => b h.2)]
     exact fail _ _ hst
  ·rw [iN a] at hst
   have f := fail _ _ hst
   cases rs with
   | nil => exact f
   | cons x r => simp only; rw [iN (fun h => a h.1)]; exact f
 by_cases h6 : p.op = 6
 ·have hst : aP p n (aC.mk s c) rs.reverse = if (opT p.k).2.2 = 2 then (if iV 1 rs = (opT p.k).1 then some ((opT p.k).2.2, (opT p.k).2.1, iV 2 rs == (opT p.k).1) else some ((opT p.k).2.2, (opT p.k).2.1, false)) else some ((opT p.k).2.2, (opT p.k).2.1, false) := by
   unfold aP; rw [iN h1, iN h2, iN h3, iN h4, iN h5, show (p.op == 6) = true by simp [h6]]
   unfold bC
   rw [iP rfl, gK]
   simp only [bSq]
   rw [h6, w6, t1]
   simp only [bSq]
   by_cases a : (opT p.k).2.2 = 2
   ·rw [iP a, iP a, iN (by omega : ¬ (opT p.k).2.2 = 1), t2]
    simp only [bSq]
   ·rw [iN a, iN a]
  unfold d5; rw [iN h1, iN h2, iN h3, iN h4, iN h5, iP h6]
  by_cases a : (opT p.k).2.2 = 2
  ·rw [iP a] at hst
   have nz := xa a (by decide)
   match rs, hst, okk, fail with
   | [], hst, _, fail =>
    rw [iN (by show ¬ (0 : Int) = _; omega)] at hst
    exact fail _ _ hst
   | [x], hst, _, fail =>
    have : (iV 2 [x] == (opT p.k).1) = false := nB (by show (0 : Int) ≠ _; omega)
    rw [this] at hst
    exact fail _ _ (by rw [hst]; split <;> rfl)
   | x :: y :: r, hst, okk, fail =>
    simp only
    by_cases b : x = (opT p.k).1
    ·rw [iP (show iV 1 (x :: y :: r) = _ from b), a] at hst
     by_cases d : y = (opT p.k).1
     ·rw [show (iV 2 (x :: y :: r) == (opT p.k).1) = true from eQ d] at hst
      rw [iP ⟨a, b, d⟩]
      exact okk 2 _ r hst (by simp) (rv2 x y r).2.2
     ·rw [show (iV 2 (x :: y :: r) == (opT p.k).1) = false from nB d] at hst
      rw [iN (fun h => d h.2.2)]
      exact fail _ _ hst
    ·rw [iN (show ¬ iV 1 (x :: y :: r) = _ from b)] at hst
     rw [iN (fun h => b h.2.1)]
     exact fail _ _ hst
  ·rw [iN a] at hst
   have f := fail _ _ hst
   match rs, f with
   | [], f => exact f
   | [x], f => exact f
   | x :: y :: r, f => simp only; rw [iN (fun h => a h.1)]; exact f
 by_cases h7 : p.op = 7
 ·have hst : aP p n (aC.mk s c) rs.reverse = if iV 3 rs = 98 then (if iV 1 rs = iV 2 rs then some (3, iV 1 rs, iV 1 rs != 0) else some (3, iV 1 rs, false)) else some (3, iV 1 rs, false) := by
   unfold aP; rw [iN h1, iN h2, iN h3, iN h4, iN h5, show (p.op == 6) = false by simp [h6]]
   unfold bC
   rw [iN (by decide), iP h7, t1, t3]
   simp only [bSq]
   rw [t2]
   simp only [bSq]
  unfold d5; rw [iN h1, iN h2, iN h3, iN h4, iN h5, iN h6, iP h7]
  match rs, hst, okk, fail, hs with
  | [], hst, _, fail, _ => rw [iN (by show ¬ (0 : Int) = _; omega)] at hst; exact fail _ _ hst
  | [x], hst, _, fail, _ => rw [iN (by show ¬ (0 : Int) = _; omega)] at hst; exact fail _ _ hst
  | [x, y], hst, _, fail, _ => rw [iN (by show ¬ (0 : Int) = _; omega)] at hst; exact fail _ _ hst
  | x :: y :: z :: r, hst, okk, fail, hs =>
   simp only
   by_cases b : z = 98
   ·rw [iP (show iV 3 (x :: y :: z :: r) = 98 from b)] at hst
    by_cases d : y = x
    ·have hx : x ≠ 0 := by rcases hs x (by simp) with h | h <;> omega
     rw [iP (show iV 1 (x :: y :: z :: r) = iV 2 (x :: y :: z :: r) from d.symm), show (iV 1 (x :: y :: z :: r) != 0) = true from bne_iff_ne.2 hx] at hst
     rw [iP ⟨b, d⟩]
     exact okk 3 x r hst (by simp) (rv3 x y z r).2.2.2
    ·rw [iN (show ¬ iV 1 (x :: y :: z :: r) = iV 2 (x :: y :: z :: r) from fun h => d h.symm)] at hst
     rw [iN (fun h => d h.2)]
     exact fail _ _ hst
   ·rw [iN (show ¬ iV 3 (x :: y :: z :: r) = 98 from b)] at hst
    rw [iN (fun h => b h.1)]
    exact fail _ _ hst
 by_cases h8 : p.op = 8
 ·obtain ⟨q1, q2, q3⟩ := hvar (.inr (.inr h8))
  have hst : aP p n (aC.mk s c) rs.reverse = if (s.vars.getD p.v.toNat default).n > 0 then (if iV 1 rs = (s.vars.getD p.v.toNat default).elem then some (2, (s.vars.getD p.v.toNat default).elem, iV 2 rs == 105) else some (2, (s.vars.getD p.v.toNat default).elem, false)) else some (2, (s.vars.getD p.v.toNat default).elem, false) := by
   unfold aP; rw [iN h1, iN h2, iN h3, iN h4, iN h5, show (p.op == 6) = false by simp [h6]]
   unfold bC
   rw [iN (by decide), iN h7, iP h8, iP q1, t1]
   simp only [bSq]
   rw [t2]
   simp only [bSq]
  unfold d5; rw [iN h1, iN h2, iN h3, iN h4, iN h5, iN h6, iN h7, iP h8]
  match rs, hst, okk, fail with
  | [], hst, _, fail =>
   by_cases a : (s.vars.getD p.v.toNat default).n > 0
   ·rw [iP a, iN (by show ¬ (0 : Int) = _; rcases q3 with h | h <;> omega)] at hst; exact fail _ _ hst
   ·rw [iN a] at hst; exact fail _ _ hst
  | [x], hst, _, fail =>
   rw [show (iV 2 [x] == 105) = false from rfl] at hst
   exact fail _ _ (by rw [hst]; split <;> (try split) <;> rfl)
  | x :: y :: r, hst, okk, fail =>
   simp only
   by_cases a : (s.vars.getD p.v.toNat default).n > 0
   ·rw [iP a] at hst
    by_cases b : x = (s.vars.getD p.v.toNat default).elem
    ·rw [iP (show iV 1 (x :: y :: r) = _ from b)] at hst
     by_cases d : y = 105
     ·rw [show (iV 2 (x :: y :: r) == 105) = true from eQ d] at hst
      rw [iP ⟨a, d, b⟩]
      exact okk 2 _ r hst (by simp) (rv2 x y r).2.2
     ·rw [show (iV 2 (x :: y :: r) == 105) = false from nB d] at hst
      rw [iN (fun h => d h.2.1)]
      exact fail _ _ hst
    ·rw [iN (show ¬ iV 1 (x :: y :: r) = _ from b)] at hst
     rw [iN (fun h => b h.2.2)]
     exact fail _ _ hst
   ·rw [iN a] at hst
    rw [iN (fun h => a h.1)]
    exact fail _ _ hst
 ·have hst : aP p n (aC.mk s c) rs.reverse = some (0, 0, false) := by
   unfold aP; rw [iN h1, iN h2, iN h3, iN h4, iN h5, show (p.op == 6) = false by simp [h6]]
   unfold bC
   rw [iN (by decide), iN h7, iN h8]
  unfold d5; rw [iN h1, iN h2, iN h3, iN h4, iN h5, iN h6, iN h7, iN h8]
  exact fail _ _ hst
theorem zv (x m : Int) (r : List Int) : ((x :: r).reverse).set r.length m = (m :: r).reverse := by simp
theorem wl1 (x : Int) (r : List Int) (h : r.length ≤ 1000) : IntKind.wrap .i64 (((x :: r).reverse.length : Int) - 1) = (r.length : Int) := by
 rw [fN, List.length_cons, wr (by omega) (by omega)]; omega
theorem wl2 (x y : Int) (r : List Int) (h : r.length ≤ 1000) : IntKind.wrap .i64 (((x :: y :: r).reverse.length : Int) - 2) = (r.length : Int) ∧ IntKind.wrap .i64 (((x :: y :: r).reverse.length : Int) - 1) = ((r.length + 1 : Nat) : Int) := by
 rw [fN, List.length_cons, List.length_cons, wr (by omega) (by omega), wr (by omega) (by omega)]; omega
theorem wl3 (x y z : Int) (r : List Int) (h : r.length ≤ 1000) : IntKind.wrap .i64 (((x :: y :: z :: r).reverse.length : Int) - 3) = (r.length : Int) ∧ IntKind.wrap .i64 (((x :: y :: z :: r).reverse.length : Int) - 2) = ((r.length + 1 : Nat) : Int) ∧
  IntKind.wrap .i64 (((x :: y :: z :: r).reverse.length : Int) - 1) = ((r.length + 2 : Nat) : Int) := by
 rw [fN, List.length_cons, List.length_cons, List.length_cons, wr (by omega) (by omega), wr (by omega) (by omega), wr (by omega) (by omega)]; omega
theorem jR (l : List Int) (x : Int) : l.reverse ++ (lit ([x] : List Int)) = (x :: l).reverse := by simp [lit]
theorem wa (n : Int) : lj n = some (decide (n ≥ -1000000 ∧ n ≤ 1000000)) := by
 unfold lj
 by_cases a : n ≥ -1000000
 ·rw [iP a]; simp [a]
 ·rw [iN a]; simp [a]
theorem yb {s : ae} {e : List aj} {n : Int} {rs : List Int} {i : Nat} (hv : dW s) (hu : lq s (e.getD i default)) (hn : 1 ≤ n ∧ n ≤ 300) (hl : rs.length ≤ 900) (hi : i < e.length) (hi' : i < 100000) :
  er s e n rs.reverse (i : Int) = some (Aw (0 : Int) i (d5 s n (e.getD i default) rs)) := by
 unfold er
 rw [iP (ltI hi), iP (inI hi)]
 simp only [tN]
 rw [wrs i (by omega)]
 obtain ⟨p, hp⟩ : ∃ p, e.getD i default = p := ⟨_, rfl⟩
 simp only [hp]
 rw [hp] at hu
 have hroom : cb (rs.reverse.length + 1) 1 := rm _ (by simp; omega)
 have hvar : p.op = 2 ∨ p.op = 3 ∨ p.op = 8 → (0 ≤ p.v ∧ p.v < (s.vars.length : Int)) ∧ (0 ≤ (s.vars.getD p.v.toNat default).n ∧ (s.vars.getD p.v.toNat default).n ≤ 300) := fun ho => by
  have h := hu ho
  have hm : s.vars.getD p.v.toNat default ∈ s.vars := bb (by unfold inV at h; omega)
  exact ⟨h, hv.n _ hm⟩
 by_cases h1 : p.op = 1
 ·unfold d5; rw [iP h1, iP h1]
  by_cases k0 : p.k = 0
  ·rw [iP k0, iP k0, iP hroom, jR]; rfl
  ·rw [iN k0, iN k0]
   by_cases k1 : p.k = 1
   ·rw [iP k1]
    by_cases n0 : p.n = 0
    ·rw [iP n0, iP hroom, jR, iP ⟨k1, .inl n0⟩]; rfl
    ·rw [iN n0]
     by_cases n1 : p.n = 1
     ·rw [iP n1, iP hroom, jR, iP ⟨k1, .inr n1⟩]; rfl
     ·rw [iN n1, iN (by omega)]; rfl
   ·rw [iN k1, iN (fun h => k1 h.1)]; rfl
 rw [iN h1]
 by_cases h2 : p.op = 2
 ·obtain ⟨q1, q2⟩ := hvar (.inl h2)
  unfold d5; rw [iP h2, iN h1, iP h2, iP q1]
  by_cases n0 : (s.vars.getD p.v.toNat default).n = 0
  ·rw [iN (fun h => h n0), iP hroom, jR, iP n0]; rfl
  ·rw [iP n0, iN n0]; rfl
 rw [iN h2]
 by_cases h3 : p.op = 3
 ·obtain ⟨q1, q2⟩ := hvar (.inr (.inl h3))
  unfold d5; rw [iP h3, iN h1, iN h2, iP h3, iP q1]
  by_cases n0 : (s.vars.getD p.v.toNat default).n = 0
  ·rw [iP n0, iN (by omega)]; rfl
  ·rw [iN n0]
   by_cases a : p.n < 0
   ·rw [iP a, iN (by omega)]; rfl
   ·rw [iN a]
    by_cases b : (s.vars.getD p.v.toNat default).n < n
    ·rw [iP b, iN (by omega)]; rfl
    ·rw [iN b, wr (by omega) (by omega)]
     by_cases d : p.n > (s.vars.getD p.v.toNat default).n - n
     ·rw [iP d, iN (by omega)]; rfl
     ·rw [iN d, iP hroom, jR, iP (by omega)]; rfl
 rw [iN h3]
 by_cases h4 : p.op = 4
 ·unfold d5; rw [iP h4, iN h1, iN h2, iN h3, iP h4, wa]
  simp only [bSq]
  by_cases a : p.n ≥ -1000000 ∧ p.n ≤ 1000000
  ·rw [iP (dT a), iP hroom, jR, iP a]; rfl
  ·rw [iN (by simpa using a), iN a]; rfl
 rw [iN h4]
 by_cases h5 : p.op = 5
 ·unfold d5; rw [iP h5, iN h1, iN h2, iN h3, iN h4, iP h5, ci]
  simp only [bSq]
  match rs, hl with
  | [], _ =>
   split
   ·rfl
   ·rw [iP (by simp)]; rfl
  | x :: r, hl =>
   simp only [List.length_cons] at hl
   simp only
   by_cases a : (opT p.k).2.2 = 1
   ·rw [iN (fun h => h a), iN (by rw [fN]; simp; omega), wl1 _ _ (by omega), iP ⟨by omega, by rw [fN]; simp; omega⟩]
    simp only [tN]
    simp only [(rv1 x r).1]
    by_cases b : x = (opT p.k).1
    ·rw [iN (fun h => h b), zv, iP ⟨a, b⟩]; rfl
    ·rw [iP b, iN (fun h => b h.2)]; rfl
   ·rw [iP a, iN (fun h => a h.1)]; rfl
 rw [iN h5]
 by_cases h6 : p.op = 6
 ·unfold d5; rw [iP h6, iN h1, iN h2, iN h3, iN h4, iN h5, iP h6, ci]
  simp only [bSq]
  match rs, hl with
  | [], _ =>
   split
   ·rfl
   ·rw [iP (by simp)]; rfl
  | [x], _ =>
   split
   ·rfl
   ·rw [iP (by simp)]; rfl
  | x :: y :: r, hl =>
   simp only [List.length_cons] at hl
   simp only
   obtain ⟨w2, w1⟩ := wl2 x y r (by omega)
   obtain ⟨g1, g2, g3⟩ := rv2 x y r
   by_cases a : (opT p.k).2.2 = 2
   ·rw [iN (fun h => h a), iN (by rw [fN]; simp; omega), w1, iP ⟨by omega, by rw [fN]; simp; omega⟩]
    simp only [tN]
    simp only [g2]
    by_cases b : x = (opT p.k).1
    ·rw [iN (fun h => h b), w2, iP ⟨by omega, by rw [fN]; simp; omega⟩]
     simp only [tN]
     simp only [g1]
     by_cases d : y = (opT p.k).1
     ·rw [iN (fun h => h d), iP ⟨⟨by omega, by rw [fN]; simp; omega⟩, rm _ (by omega)⟩, g3, jR, iP ⟨a, b, d⟩]; rfl
     ·rw [iP d, iN (fun h => d h.2.2)]; rfl
    ·rw [iP b, iN (fun h => b h.2.1)]; rfl
   ·rw [iP a, iN (fun h => a h.1)]; rfl
 rw [iN h6]
 by_cases h7 : p.op = 7
 ·unfold d5; rw [iP h7, iN h1, iN h2, iN h3, iN h4, iN h5, iN h6, iP h7]
  match rs, hl with
  | [], _ => rw [iP (by simp)]; rfl
  | [x], _ => rw [iP (by simp)]; rfl
  | [x, y], _ => rw [iP (by simp)]; rfl
  | x :: y :: z :: r, hl =>
   simp only [List.length_cons] at hl
   simp only
   obtain ⟨w3, w2, w1⟩ := wl3 x y z r (by omega)
   obtain ⟨g1, g2, g3, g4⟩ := rv3 x y z r
   rw [iN (by rw [fN]; simp; omega), w3, iP ⟨by omega, by rw [fN]; simp; omega⟩]
   simp only [tN]
   simp only [g1]
   by_cases b : z = 98
   ·rw [iN (fun h => h b), w2, w1, iP ⟨⟨by omega, by rw [fN]; simp; omega⟩, by omega, by rw [fN]; simp; omega⟩]
    simp only [tN]
    simp only [g2, g3]
    by_cases d : y = x
    ·rw [iN (fun h => h d), iP ⟨⟨by omega, by rw [fN]; simp; omega⟩, rm _ (by omega)⟩, g4, jR, iP ⟨b, d⟩]; rfl
    ·rw [iP d, iN (fun h => d h.2)]; rfl
   ·rw [iP b, iN (fun h => b h.1)]; rfl
 rw [iN h7]
 by_cases h8 : p.op = 8
 ·obtain ⟨q1, q2⟩ := hvar (.inr (.inr h8))
  unfold d5; rw [iP h8, iN h1, iN h2, iN h3, iN h4, iN h5, iN h6, iN h7, iP h8, iP q1]
  match rs, hl with
  | [], _ =>
   split
   ·rfl
   ·rw [iP (by simp)]; rfl
  | [x], _ =>
   split
   ·rfl
   ·rw [iP (by simp)]; rfl
  | x :: y :: r, hl =>
   simp only [List.length_cons] at hl
   simp only
   obtain ⟨w2, w1⟩ := wl2 x y r (by omega)
   obtain ⟨g1, g2, g3⟩ := rv2 x y r
   by_cases a : (s.vars.getD p.v.toNat default).n = 0
   ·rw [iP a, iN (by omega)]; rfl
   ·rw [iN a, iN (by rw [fN]; simp; omega), w2, iP ⟨by omega, by rw [fN]; simp; omega⟩]
    simp only [tN]
    simp only [g1]
    by_cases b : y = 105
    ·rw [iN (fun h => h b), w1, iP ⟨by omega, by rw [fN]; simp; omega⟩]
     simp only [tN]
     simp only [g2]
     by_cases d : x = (s.vars.getD p.v.toNat default).elem
     ·rw [iN (fun h => h d), iP ⟨⟨by omega, by rw [fN]; simp; omega⟩, rm _ (by omega)⟩, g3, jR, iP ⟨by omega, b, d⟩]; rfl
     ·rw [iP d, iN (fun h => d h.2.2)]; rfl
    ·rw [iP b, iN (fun h => b h.2.1)]; rfl
 ·rw [iN h8]
  unfold d5; rw [iN h1, iN h2, iN h3, iN h4, iN h5, iN h6, iN h7, iN h8]; rfl
def rn (s : ae) (n : Int) : List aj → List Int → Option (List Int)
 | [], rs => some rs
 | p :: e, rs => match d5 s n p rs with | some rs' => rn s n e rs' | none => none
def qa (s : ae) (n : Int) (e : List aj) : Int := match rn s n e [] with | some [x] => x | _ => 0
theorem ro {Z : Type} (s : ae) (n : Int) (z : Z) : ∀ (e : List aj) (i : Nat) (rs : List Int), lp (fun _ a p => match d5 s n p a with | some a' => .inl a' | none => .inr z) i e rs = match rn s n e rs with | some a => .inl a | none => .inr z
 | [], i, rs => rfl
 | p :: e, i, rs => by
  rw [lp, rn]
  cases d5 s n p rs with
  | none => rfl
  | some a => exact ro s n z e (i + 1) a
theorem wb {s : ae} {c : Int} {e : List aj} {n : Int} (hv : dW s) (hu : ∀ p ∈ e, lq s p) (hn : 1 ≤ n ∧ n ≤ 300) (he : e.length ≤ 800) :
  (∃ q : Int × Bool, iy e n (aC.mk s c) = some q ∧ (q.2 = true → q.1 = qa s n e ∧ okE q.1) ∧ (q.2 = false → qa s n e = 0)) ∧ jF s e n = some (qa s n e) := by
 have I : ∀ (i : Nat) (a : List Int), i < e.length → (okS a ∧ a.length ≤ i) → ∀ a', d5 s n (e.getD i default) a = some a' → okS a' ∧ a'.length ≤ i + 1 := by
  intro i a hi ha a' h
  obtain ⟨k1, k2⟩ := w9 hv (hu _ (bb hi)) ha.1 h
  exact ⟨k1, by omega⟩
 obtain ⟨h1, h2⟩ := mN (A := List Int) (T := aj) (O := List Int) (Z := Int × Bool) (S := List Int × Int) (fun a i => (a.reverse, i)) (body := fun x => bh e n (aC.mk s c) x.1 x.2) e
  (fun _ a p => match d5 s n p a with | some a' => .inl a' | none => .inr (0, false)) (fun i a => okS a ∧ a.length ≤ i) (fun a => a.reverse) [] ⟨fun x hx => by simp at hx, by simp⟩
  (by
   intro i a hi ha
   refine ⟨?_, ?_⟩
   ·show bh e n (aC.mk s c) a.reverse (i : Int) = _
    rw [ya hv (hu _ (bb hi)) ha.1 hn (by omega) hi (by omega)]
    cases d5 s n (e.getD i default) a <;> rfl
   ·intro a' h
    cases hx : d5 s n (e.getD i default) a with
    | none => rw [hx] at h; cases h
    | some b =>
     rw [hx] at h
     simp only [Sum.inl.injEq] at h
     subst h
     exact I i a hi ha b hx)
  (by
   intro a _
   show bh e n (aC.mk s c) a.reverse (e.length : Int) = _
   unfold bh
   rw [iN (be _)])
 obtain ⟨h3, h4⟩ := mN (A := List Int) (T := aj) (O := List Int) (Z := Int) (S := List Int × Int) (fun a i => (a.reverse, i)) (body := fun x => er s e n x.1 x.2) e
  (fun _ a p => match d5 s n p a with | some a' => .inl a' | none => .inr 0) (fun i a => okS a ∧ a.length ≤ i) (fun a => a.reverse) [] ⟨fun x hx => by simp at hx, by simp⟩
  (by
   intro i a hi ha
   refine ⟨?_, ?_⟩
   ·show er s e n a.reverse (i : Int) = _
    rw [yb hv (hu _ (bb hi)) hn (by omega) hi (by omega)]
    cases d5 s n (e.getD i default) a <;> rfl
   ·intro a' h
    cases hx : d5 s n (e.getD i default) a with
    | none => rw [hx] at h; cases h
    | some b =>
     rw [hx] at h
     simp only [Sum.inl.injEq] at h
     subst h
     exact I i a hi ha b hx)
  (by
   intro a _
   show er s e n a.reverse (e.length : Int) = _
   unfold er
   rw [iN (be _)])
 rw [ro] at h1 h2 h3
 have e1 : iy e n (aC.mk s c) = (bf (fun x : List Int × Int => bh e n (aC.mk s c) x.1 x.2) (([] : List Int).reverse, 0)).bind (Sum.elim (fun z => cq z) (fun z => some z)) := rfl
 have e2 : jF s e n = (bf (fun x : List Int × Int => er s e n x.1 x.2) (([] : List Int).reverse, 0)).bind (Sum.elim (fun z => fw z) (fun z => some z)) := rfl
 rw [e1, e2, h1, h3]
 simp only [bSq]
 unfold qa
 cases ht : rn s n e [] with
 | none => exact ⟨⟨(0, false), rfl, fun h => (by cases h), fun _ => rfl⟩, rfl⟩
 | some a =>
  have ha := (h2 a (by rw [ht])).1
  simp only [Sum.elim_inl]
  match a, ha with
  | [], _ =>
   refine ⟨⟨(0, false), ?_, fun h => (by cases h), fun _ => rfl⟩, ?_⟩
   ·unfold cq; rw [iP (by simp)]
   ·unfold fw; rw [iP (by simp)]
  | [x], ha =>
   refine ⟨⟨(x, true), ?_, fun _ => ⟨rfl, ha x (by simp)⟩, fun h => by cases h⟩, ?_⟩
   ·unfold cq; rw [iN (by simp), iP (by simp)]; rfl
   ·unfold fw; rw [iN (by simp), iP (by simp)]; rfl
  | x :: y :: r, _ =>
   refine ⟨⟨(0, false), ?_, fun h => (by cases h), fun _ => rfl⟩, ?_⟩
   ·unfold cq; rw [iP (by simp; omega)]
   ·unfold fw; rw [iP (by simp; omega)]
def vOf (s : ae) (x : Int) : ap := s.vars.getD x.toNat default
theorem cn (s : ae) (x : Int) : s.vars.getD x.toNat default = vOf s x := by rw [vOf]
def nC (a b : ap) : Bool := a.elem == b.elem && a.n == b.n
def oh (s : ae) (l : List Int) (i : Nat) : Option Bool := if nC (vOf s (l.getD i default)) (vOf s (l.getD 0 default)) then none else some false
theorem sA (s : ae) (l : List Int) : (match dA l.length (oh s l) () with | .inr z => z | .inl _ => true) = l.all (fun x => nC (vOf s x) (vOf s (l.getD 0 default))) := by
 rcases cm l.length (oh s l) () with ⟨e, h⟩ | ⟨j, z, hj, hf, e⟩
 ·rw [e]
  symm
  show _ = true
  rw [List.all_eq_true]
  intro x hx
  obtain ⟨i, hi, rfl⟩ := List.mem_iff_getElem.1 hx
  have := h i hi
  unfold oh at this
  have e2 : l.getD i default = l[i] := by simp [List.getD, hi]
  rw [e2] at this
  split at this
  ·assumption
  ·cases this
 ·rw [e]
  unfold oh at hf
  split at hf
  ·cases hf
  ·rename_i hb
   simp only [sJ] at hf
   subst hf
   symm
   show _ = false
   rw [List.all_eq_false]
   exact ⟨_, bb hj, hb⟩
theorem nP (a b : ap) : nC a b = true ↔ a.elem = b.elem ∧ a.n = b.n := by unfold nC; simp
theorem yd {s : ae} {c : Int} {l : List Int} (hl : 0 < l.length) (hb : l.length ≤ 1000) (hin : ∀ x ∈ l, inV s x) :
  iv l (aC.mk s c) = some (l.all (fun x => nC (vOf s x) (vOf s (l.getD 0 default)))) := by
 unfold iv
 rw [bo l.length (oh s l) () (fun i hi => by
  unfold fh oh
  have g0 := hin _ (bb (l := l) (i := 0) hl)
  have gi := hin _ (bb hi)
  unfold inV at g0 gi
  rw [iP (ltI hi), iP (inI hi)]
  simp only [tN]
  rw [iP ⟨gi, by omega, g0⟩, wrs i (by omega)]
  simp only [cn]
  by_cases h : nC (vOf s (l.getD i default)) (vOf s (l.getD 0 default)) = true
  ·rw [iP ((nP _ _).1 h), iP h]
  ·rw [iN (fun h' => h ((nP _ _).2 h')), iN h]) (by unfold fh; rw [iN (be _)])]
 rw [← sA]
 cases dA l.length (oh s l) () <;> rfl
theorem ue {s : ae} {c : Int} {l : List Int} (hl : 0 < l.length) (hb : l.length ≤ 1000) (hin : ∀ x ∈ l, inV s x) :
  ey (aC.mk s c) l = some (l.all (fun x => nC (vOf s x) (vOf s (l.getD 0 default)))) := by
 unfold ey
 rw [bo l.length (oh s l) () (fun i hi => by
  unfold ed oh
  have g0 := hin _ (bb (l := l) (i := 0) hl)
  have gi := hin _ (bb hi)
  unfold inV at g0 gi
  rw [iP (ltI hi), iP (inI hi)]
  simp only [tN]
  rw [iP ⟨gi, by omega, g0⟩, wrs i (by omega)]
  simp only [cn]
  by_cases h : nC (vOf s (l.getD i default)) (vOf s (l.getD 0 default)) = true
  ·rw [iP ((nP _ _).1 h), iP h]
  ·rw [iN (fun h' => h ((nP _ _).2 h')), iN h]) (by unfold ed; rw [iN (be _)])]
 rw [← sA]
 cases dA l.length (oh s l) () <;> rfl
def tm (k : Int) : Bool := (opT k).2.2 == 2 && (opT k).1 == (opT k).2.1
theorem dB (k : Int) : iw k = some (tm k) := by
 unfold iw tm
 rw [gK]
 simp only [bSq]
 split
 ·rename_i h; rw [h]; rfl
 ·rename_i h; rw [nB h]; rfl
theorem b8 (k : Int) : jo k = some (tm k) := by
 unfold jo tm
 rw [ci]
 simp only [bSq]
 split
 ·rename_i h; rw [h]; rfl
 ·rename_i h; rw [nB h]; rfl
def co (n : Int) : Int := if n < 1 then 1 else n
theorem dD (n : Int) : jj n = some (co n) := by
 unfold jj co; split <;> rfl
theorem uV (n : Int) : (if 1 > n then 1 else n) = co n := rfl
def ij (s : ae) (a : List Int) : List ap := [if 0 < a.length then vOf s (a.getD 0 default) else ⟨0, 0⟩, if 1 < a.length then vOf s (a.getD 1 default) else ⟨0, 0⟩, if 2 < a.length then vOf s (a.getD 2 default) else ⟨0, 0⟩]
theorem ye {s : ae} {r : ah} {i : Nat} {l : List ap} (hi : i < r.a.length) (h3 : r.a.length ≤ 3) (hl : l.length = 3) (hin : ∀ x ∈ r.a, inV s x) :
  bJ s r l (i : Int) = some (.inl (l.set i (vOf s (r.a.getD i default)), ((i + 1 : Nat) : Int))) := by
 unfold bJ
 have gi := hin _ (bb hi)
 unfold inV at gi
 rw [iP (ltI hi)]
 simp only [tN]
 rw [iP ⟨inI hi, gi, by omega, by omega⟩, wrs i (by omega)]
 rfl
theorem xb {s : ae} {r : ah} (h3 : r.a.length ≤ 3) (hin : ∀ x ∈ r.a, inV s x) :
  bf (fun x : List ap × Int => bJ s r x.1 x.2) (List.replicate 3 (ap.mk 0 0), 0) = some (ij s r.a) := by
 have fin : ∀ l, bf (fun x : List ap × Int => bJ s r x.1 x.2) (l, (r.a.length : Int)) = some l := fun l => hL (by
  show bJ s r l (r.a.length : Int) = _
  unfold bJ
  rw [iN (be _)])
 have nx : ∀ (i : Nat) (l : List ap), i < r.a.length → l.length = 3 → bf (fun x : List ap × Int => bJ s r x.1 x.2) (l, (i : Int)) = bf (fun x : List ap × Int => bJ s r x.1 x.2) (l.set i (vOf s (r.a.getD i default)), ((i + 1 : Nat) : Int)) :=
  fun i l hi hl => ji (ye hi h3 hl hin)
 have e : r.a.length = 0 ∨ r.a.length = 1 ∨ r.a.length = 2 ∨ r.a.length = 3 := by omega
 unfold ij
 rcases e with e | e | e | e
 ·have := fin (List.replicate 3 (ap.mk 0 0))
  rw [e] at this ⊢
  exact this
 ·have h0 := nx 0 (List.replicate 3 (ap.mk 0 0)) (by omega) rfl
  have := fin ((List.replicate 3 (ap.mk 0 0)).set 0 (vOf s (r.a.getD 0 default)))
  rw [e] at this ⊢
  exact h0.trans this
 ·have h0 := nx 0 (List.replicate 3 (ap.mk 0 0)) (by omega) rfl
  have h1 := nx 1 ((List.replicate 3 (ap.mk 0 0)).set 0 (vOf s (r.a.getD 0 default))) (by omega) rfl
  have := fin (((List.replicate 3 (ap.mk 0 0)).set 0 (vOf s (r.a.getD 0 default))).set 1 (vOf s (r.a.getD 1 default)))
  rw [e] at this ⊢
  exact h0.trans (h1.trans this)
 ·have h0 := nx 0 (List.replicate 3 (ap.mk 0 0)) (by omega) rfl
  have h1 := nx 1 ((List.replicate 3 (ap.mk 0 0)).set 0 (vOf s (r.a.getD 0 default))) (by omega) rfl
  have h2 := nx 2 (((List.replicate 3 (ap.mk 0 0)).set 0 (vOf s (r.a.getD 0 default))).set 1 (vOf s (r.a.getD 1 default))) (by omega) rfl
  have := fin ((((List.replicate 3 (ap.mk 0 0)).set 0 (vOf s (r.a.getD 0 default))).set 1 (vOf s (r.a.getD 1 default))).set 2 (vOf s (r.a.getD 2 default)))
  rw [e] at this ⊢
  exact h0.trans (h1.trans (h2.trans this))
theorem cl {s : ae} {r : ah} (ho : inV s r.out_) (h3 : r.a.length ≤ 3) (hin : ∀ x ∈ r.a, inV s x) : aE s r = aO s r (ij s r.a) := by
 unfold aE
 unfold inV at ho
 rw [iP ho]
 show (bf (fun x : List ap × Int => bJ s r x.1 x.2) (List.replicate 3 (ap.mk 0 0), 0)).bind (fun z21 => aO s r z21) = _
 rw [xb h3 hin]
 rfl
def nmd (p : aj) : Bool := p.op == 2 || p.op == 3 || p.op == 8
def j5 (a : List Int) (e : List aj) : List Int := (e.foldl (fun l p => if nmd p then l ++ [p.v] else l) a).foldl ins []
theorem wrN (i : Nat) (h : i < 1000000000) : IntKind.wrap .i64 ((i : Int) + 1) = ((i + 1 : Nat) : Int) := wrs i (by omega)
theorem rq (n : Nat) (h : n ≤ 1000000) : cb n 8 := by
 unfold cb
 have : maxLen = 9223372036854775807 := rfl
 omega
theorem xd (l : List Int) (h : l.length ≤ 1000000) : dV l = some l := by
 unfold dV
 by_cases e : l = []
 ·rw [iP e, e]
 ·rw [iN e, iP (rq _ h)]
theorem yf (l : List Int) (h : l.length ≤ 2000000) : (d8 l).bind (fun y6 => (dt l.length y6).bind fun y7 => some y7) = some (l.foldl ins []) := by
 unfold d8 dt
 rw [iP (by omega)]
 show (if l.length = (mW l).length ∧ (mW l).length ≤ 140737488355328 then some (Go.Lib.compact (mW l)) else none).bind (fun y7 => some y7) = _
 rw [iP ⟨(kJ l).symm, by rw [kJ]; omega⟩, qq]
 rfl
theorem mO (r : ah) (ha : r.a.length ≤ 500000) (he : r.e.length ≤ 500000) : lf r = some (j5 r.a r.e) := by
 unfold lf
 rw [xd _ (by omega)]
 show (bf (fun (x : List Int × Int) => ff r x.1 x.2) (r.a, 0)).bind (fun z26 => jk z26) = _
 obtain ⟨h1, h2⟩ := kR (A := List Int) (T := aj) (O := List Int) (S := List Int × Int) (fun a i => (a, i)) (body := fun x => ff r x.1 x.2) r.e (fun l p => if nmd p then l ++ [p.v] else l)
  (fun i a => a.length ≤ r.a.length + i) (fun a => a) r.a (by omega)
  (by
   intro i a hi hI
   have step : ∀ b : Bool, b = nmd (r.e.getD i default) → gc r a (i : Int) b = some (.inl ((if nmd (r.e.getD i default) then a ++ [(r.e.getD i default).v] else a), ((i + 1 : Nat) : Int))) := by
    intro b hb
    subst hb
    unfold gc
    rw [wrN i (by omega)]
    cases nmd (r.e.getD i default)
    ·rfl
    ·rw [iP rfl, iP (rq _ (by omega))]; rfl
   refine ⟨?_, ?_⟩
   ·show ff r a (i : Int) = _
    unfold ff
    rw [iP (ltI hi), iP (inI hi)]
    simp only [tN]
    split
    ·rename_i h; exact step _ (by unfold nmd; rw [h]; rfl)
    ·rename_i h
     split
     ·rename_i h'; exact step _ (by unfold nmd; rw [h']; rfl)
     ·rename_i h'; exact step _ (by unfold nmd; rw [nB h, nB h']; rfl)
   ·split
    ·simp; omega
    ·omega)
  (by
   intro a hI
   show ff r a (r.e.length : Int) = _
   unfold ff
   rw [iN (be _)])
 rw [h1]
 exact yf _ (by omega)
def mn (n : Int) (s : List Int × Bool) (x : Int) : List Int × Bool :=
 if s.2 then (s.1 ++ [x], true) else if x ≥ n then (if x > n then (s.1 ++ [n] ++ [x], true) else (s.1 ++ [x], true)) else (s.1 ++ [x], false)
theorem sC (n : Int) (l : List Int) : ∀ (a : List Int), l.foldl (mn n) (a, true) = (a ++ l, true) := by
 induction l with
 | nil => intro a; simp
 | cons x l ih => intro a; rw [List.foldl_cons]; show l.foldl (mn n) (a ++ [x], true) = _; rw [ih]; simp
theorem uX (n : Int) (l : List Int) : ∀ (a : List Int), (let s := l.foldl (mn n) (a, false); if s.2 then s.1 else s.1 ++ [n]) = a ++ ins l n := by
 induction l with
 | nil => intro a; simp [ins]
 | cons x l ih =>
  intro a
  rw [List.foldl_cons]
  by_cases h : x ≥ n
  ·by_cases h' : x > n
   ·have e : mn n (a, false) x = (a ++ [n] ++ [x], true) := by simp [mn, h, h']
    rw [e, sC]
    simp [ins, h, h']
   ·have e : mn n (a, false) x = (a ++ [x], true) := by simp [mn, h, h']
    rw [e, sC]
    simp [ins, h, h']
  ·have e : mn n (a, false) x = (a ++ [x], false) := by simp [mn, h]
   rw [e, ih]
   simp [ins, h]
theorem qA (l : List Int) (n : Int) : (ins l n).length ≤ l.length + 1 := by
 induction l with
 | nil => simp [ins]
 | cons x l ih =>
  unfold ins
  split
  ·split <;> simp
  ·simp; omega
theorem pq (l : List Int) (n : Int) (h : l.length ≤ 900000) : j3 l n = some (ins l n) := by
 unfold j3
 obtain ⟨h1, h2⟩ := kR (A := List Int × Bool) (T := Int) (O := List Int × Bool) (S := List Int × Bool × Int) (fun a i => (a.1, a.2, i)) (body := fun x => dN l n x.1 x.2.1 x.2.2) l (mn n)
  (fun i a => a.1.length ≤ i + (if a.2 then 1 else 0)) (fun a => a) ([], false) (by simp)
  (by
   intro i a hi hI
   obtain ⟨a, b⟩ := a
   simp only at hI
   have hlen : a.length ≤ i + 1 := by revert hI; cases b <;> simp <;> omega
   have j2 : ∀ (q : List Int) (c : Bool), q.length ≤ 999999 → dM l (i : Int) q c = some (.inl (q ++ [l.getD i default], c, ((i + 1 : Nat) : Int))) := by
    intro q c hq
    unfold dM
    rw [iP ⟨inI hi, rq _ (by omega)⟩, wrN i (by omega)]
    rfl
   refine ⟨?_, ?_⟩
   ·show dN l n a b (i : Int) = _
    unfold dN
    rw [iP (ltI hi)]
    cases b with
    | true =>
     rw [iP rfl, j2 _ _ (by omega)]
     rfl
    | false =>
     rw [iN (by decide), iP (inI hi)]
     simp only [tN]
     by_cases hge : l.getD i default ≥ n
     ·rw [iP hge]
      by_cases hgt : l.getD i default > n
      ·rw [iP hgt, iP (rq _ (by omega)), j2 _ _ (by simp [lit]; omega)]
       have e : mn n (a, false) (l.getD i default) = (a ++ [n] ++ [l.getD i default], true) := by unfold mn; rw [iN (by simp), iP hge, iP hgt]
       rw [e]; rfl
      ·rw [iN hgt, j2 _ _ (by omega)]
       have e : mn n (a, false) (l.getD i default) = (a ++ [l.getD i default], true) := by unfold mn; rw [iN (by simp), iP hge, iN hgt]
       rw [e]
     ·rw [iN hge, j2 _ _ (by omega)]
      have e : mn n (a, false) (l.getD i default) = (a ++ [l.getD i default], false) := by unfold mn; rw [iN (by simp), iN hge]
      rw [e]
   ·have gen : ∀ x : Int, (mn n (a, b) x).1.length ≤ i + 1 + (if (mn n (a, b) x).2 = true then 1 else 0) := by
     intro x
     unfold mn
     cases b with
     | true => simp at hI ⊢; omega
     | false =>
      simp at hI
      by_cases hge : x ≥ n
      ·by_cases hgt : x > n
       ·simp only [Bool.false_eq_true, if_false, iP hge, iP hgt]; simp; omega
       ·simp only [Bool.false_eq_true, if_false, iP hge, iN hgt]; simp; omega
      ·simp only [Bool.false_eq_true, if_false, iN hge]; simp; omega
    exact gen _)
  (by
   intro a hI
   show dN l n a.1 a.2 (l.length : Int) = _
   unfold dN
   rw [iN (be _)])
 show (bf (fun (x : List Int × Bool × Int) => dN l n x.1 x.2.1 x.2.2) ([], false, 0)).bind (fun z => fL n z.1 z.2) = _
 rw [h1]
 have h3 := uX n l []
 simp only [List.nil_append] at h3
 have hl := qA l n
 rw [← h3] at hl ⊢
 simp only [bSq]
 unfold fL
 cases hs : (l.foldl (mn n) ([], false)).2 with
 | true => simp
 | false =>
  rw [hs] at h2
  simp only [Bool.false_eq_true, if_false, Nat.add_zero] at h2 ⊢
  rw [iP (rq _ (by omega))]
  rfl
theorem rW (l a : List Int) : (l.foldl ins a).length ≤ a.length + l.length := by
 induction l generalizing a with
 | nil => simp
 | cons x l ih => rw [List.foldl_cons]; have := ih (ins a x); have := qA a x; simp; omega
theorem rr (r : ah) (ha : r.a.length ≤ 400000) (he : r.e.length ≤ 400000) : np r = some (j5 r.a r.e) := by
 unfold np
 obtain ⟨h1, h2⟩ := kR (A := List Int) (T := Int) (O := List Int) (S := List Int × Int) (fun a i => (a, i)) (body := fun x => fv r x.1 x.2) r.a ins
  (fun i a => a.length ≤ i) (fun a => a) [] (by simp)
  (by
   intro i a hi hI
   refine ⟨?_, by have := qA a (r.a.getD i default); omega⟩
   show fv r a (i : Int) = _
   unfold fv
   rw [iP (ltI hi), iP (inI hi)]
   simp only [tN]
   rw [pq _ _ (by omega), wrN i (by omega)]
   rfl)
  (by
   intro a hI
   show fv r a (r.a.length : Int) = _
   unfold fv
   rw [iN (be _)])
 show (bf (fun (x : List Int × Int) => fv r x.1 x.2) ([], 0)).bind (fun z => iC r z) = _
 rw [h1]
 simp only [bSq]
 unfold iC
 obtain ⟨h3, h4⟩ := kR (A := List Int) (T := aj) (O := List Int) (S := List Int × Int) (fun a i => (a, i)) (body := fun x => ft r x.1 x.2) r.e (fun l p => if nmd p then ins l p.v else l)
  (fun i a => a.length ≤ r.a.length + i) (fun a => a) (r.a.foldl ins []) (by simpa using h2)
  (by
   intro i a hi hI
   have hn : me (r.e.getD i default) = some (nmd (r.e.getD i default)) := by
    unfold me nmd
    split
    ·rename_i h; rw [h]; rfl
    ·rename_i h
     split
     ·rename_i h'; rw [h']; rfl
     ·rename_i h'; rw [nB h, nB h']; rfl
   refine ⟨?_, ?_⟩
   ·show ft r a (i : Int) = _
    unfold ft
    rw [iP (ltI hi), iP (inI hi)]
    simp only [tN]
    rw [hn, wrN i (by omega)]
    simp only [bSq]
    cases nmd (r.e.getD i default)
    ·rfl
    ·simp only [if_true]
     rw [pq _ _ (by omega)]
     rfl
   ·split
    ·have := qA a (r.e.getD i default).v; omega
    ·omega)
  (by
   intro a hI
   show ft r a (r.e.length : Int) = _
   unfold ft
   rw [iN (be _)])
 show (bf (fun (x : List Int × Int) => ft r x.1 x.2) (r.a.foldl ins [], 0)).bind (fun z => jn z) = _
 rw [h3]
 have key : ∀ (e : List aj) (a b : List Int), e.foldl (fun l p => if nmd p then ins l p.v else l) (a.foldl ins b) = (e.foldl (fun l p => if nmd p then l ++ [p.v] else l) a).foldl ins b := by
  intro e
  induction e with
  | nil => intro a b; rfl
  | cons p e ih =>
   intro a b
   rw [List.foldl_cons, List.foldl_cons]
   cases nmd p
   ·simp only [Bool.false_eq_true, if_false]; exact ih a b
   ·simp only [if_true]
    rw [← ih, List.foldl_append]
    rfl
 rw [key]
 rfl
structure ik (s : ae) (r : ah) : Prop where
 o : inV s r.out_
 a : ∀ x ∈ r.a, inV s x
 u : 14 ≤ r.op → ∀ p ∈ r.e, lq s p
 e : r.e.length ≤ 24
theorem aT {s : ae} (hv : dW s) {x : Int} (h : inV s x) : okE (vOf s x).elem ∧ 0 ≤ (vOf s x).n ∧ (vOf s x).n ≤ 300 := by
 have : s.vars.getD x.toNat default ∈ s.vars := bb (by unfold inV at h; omega)
 exact ⟨hv.e _ this, hv.n _ this⟩
theorem dg (e : Int) : gw e = some (ap.mk e 0) := by unfold gw; rfl
theorem vy {s : ae} {c x : Int} (h : inV s x) : ix x (aC.mk s c) = some (ap.mk (vOf s x).elem 0, decide ((vOf s x).n > 0)) := by
 unfold ix
 unfold inV at h
 rw [iP h, dg]
 rfl
theorem wrd {a b : Int} (ha : 0 ≤ a ∧ a ≤ 300) (hb : 0 ≤ b ∧ b ≤ 300) : IntKind.wrap .i64 (a - b) = a - b ∧ IntKind.wrap .i64 (a + b) = a + b := ⟨wr (by omega) (by omega), wr (by omega) (by omega)⟩
theorem lr {s : ae} {c : Int} {r : ah} {o : ap} {n : Int} (hv : dW s) (hu : ∀ p ∈ r.e, lq s p) (he : r.e.length ≤ 24) (ho : okE o.elem) (hn : 1 ≤ n ∧ n ≤ 300) :
  du r o (aC.mk s c) n = some (qa s n r.e == o.elem) ∧ jF s r.e n = some (qa s n r.e) := by
 obtain ⟨⟨q, h1, h2, h3⟩, h4⟩ := wb (c := c) hv hu hn (by omega)
 refine ⟨?_, h4⟩
 unfold du
 rw [h1]
 simp only [bSq]
 by_cases hq : q.2 = true
 ·rw [iP hq, (h2 hq).1]
 ·rw [iN hq, h3 (by simpa using hq)]
  congr 1
  symm
  rw [beq_eq_false_iff_ne]
  unfold okE at ho
  omega
theorem AU {s : ae} {c : Int} {k o n : Int} {e : List aj} (hv : dW s) (h : ik s (ah.mk 1 k o n [] e)) :
  aJ (ah.mk 1 k o n [] e) (aC.mk s c) = aE s (ah.mk 1 k o n [] e) ∧ aE s (ah.mk 1 k o n [] e) ≠ none := by
 have ho : inV s o := h.o
 rw [cl h.o (by simp) h.a]
 have go := aT hv ho
 unfold inV at ho
 simp only [aJ, aW, aV, aU, aO, ho, and_self, bSq, gK, ci, dB, b8, dg, cn, List.length_cons, List.length_nil, List.getD_cons_zero, List.getD_cons_succ, ij, Nat.reduceAdd, Nat.reduceLT, if_true, if_false, reduceCtorEq]
 unfold okE at *
 refine ⟨?_, ?_⟩ <;> grind
theorem AV {s : ae} {c : Int} {k o n x : Int} {e : List aj} (hv : dW s) (h : ik s (ah.mk 2 k o n [x] e)) :
  aJ (ah.mk 2 k o n [x] e) (aC.mk s c) = aE s (ah.mk 2 k o n [x] e) ∧ aE s (ah.mk 2 k o n [x] e) ≠ none := by
 have ho : inV s o := h.o
 have hx : inV s x := h.a x (by simp)
 rw [cl h.o (by simp) h.a]
 have go := aT hv ho
 have gx := aT hv hx
 unfold inV at ho hx
 simp only [aJ, aW, aV, aU, aO, ho, hx, and_self, bSq, gK, ci, dB, b8, dg, cn, List.length_cons, List.length_nil, List.getD_cons_zero, List.getD_cons_succ, ij, Nat.reduceAdd, Nat.reduceLT, if_true, if_false, reduceCtorEq]
 unfold okE at *
 refine ⟨?_, ?_⟩ <;> grind
theorem AW {s : ae} {c : Int} {k o n x : Int} {e : List aj} (hv : dW s) (h : ik s (ah.mk 3 k o n [x] e)) :
  aJ (ah.mk 3 k o n [x] e) (aC.mk s c) = aE s (ah.mk 3 k o n [x] e) ∧ aE s (ah.mk 3 k o n [x] e) ≠ none := by
 have ho : inV s o := h.o
 have hx : inV s x := h.a x (by simp)
 rw [cl h.o (by simp) h.a]
 have go := aT hv ho
 have gx := aT hv hx
 unfold inV at ho hx
 simp only [aJ, aW, aV, aU, aO, ho, hx, and_self, bSq, gK, ci, dB, b8, dg, cn, List.length_cons, List.length_nil, List.getD_cons_zero, List.getD_cons_succ, ij, Nat.reduceAdd, Nat.reduceLT, if_true, if_false, reduceCtorEq]
 unfold okE at *
 refine ⟨?_, ?_⟩ <;> grind
theorem AX {s : ae} {c : Int} {k o n x y : Int} {e : List aj} (hv : dW s) (h : ik s (ah.mk 4 k o n [x, y] e)) :
  aJ (ah.mk 4 k o n [x, y] e) (aC.mk s c) = aE s (ah.mk 4 k o n [x, y] e) ∧ aE s (ah.mk 4 k o n [x, y] e) ≠ none := by
 have ho : inV s o := h.o
 have hx : inV s x := h.a x (by simp)
 have hy : inV s y := h.a y (by simp)
 rw [cl h.o (by simp) h.a]
 have go := aT hv ho
 have gx := aT hv hx
 have gy := aT hv hy
 have hs := yd (s := s) (c := c) (l := [x, y]) (by simp) (by simp) h.a
 simp only [List.getD_cons_zero, List.all_cons, List.all_nil, Bool.and_true] at hs
 unfold inV at ho hx hy
 simp only [aJ, aW, aV, aU, aO, ho, hx, hy, and_self, bSq, gK, ci, dB, b8, dg, cn, List.length_cons, List.length_nil, List.getD_cons_zero, List.getD_cons_succ, ij, Nat.reduceAdd, Nat.reduceLT, if_true, if_false, reduceCtorEq, hs]
 unfold nC
 unfold okE at *
 refine ⟨?_, ?_⟩ <;> grind
theorem AY {s : ae} {c : Int} {k o n x y z : Int} {e : List aj} (hv : dW s) (h : ik s (ah.mk 5 k o n [x, y, z] e)) :
  aJ (ah.mk 5 k o n [x, y, z] e) (aC.mk s c) = aE s (ah.mk 5 k o n [x, y, z] e) ∧ aE s (ah.mk 5 k o n [x, y, z] e) ≠ none := by
 have ho : inV s o := h.o
 have hx : inV s x := h.a x (by simp)
 have hy : inV s y := h.a y (by simp)
 have hz : inV s z := h.a z (by simp)
 rw [cl h.o (by simp) h.a]
 have go := aT hv ho
 have gx := aT hv hx
 have gy := aT hv hy
 have gz := aT hv hz
 have hs := ue (s := s) (c := c) (l := [y, z, o]) (by simp) (by simp) (by intro w hw; simp at hw; rcases hw with rfl | rfl | rfl <;> assumption)
 simp only [List.getD_cons_zero, List.all_cons, List.all_nil, Bool.and_true] at hs
 unfold inV at ho hx hy hz
 simp only [aJ, aW, aV, aU, aO, ho, hx, hy, hz, and_self, bSq, gK, ci, dB, b8, dg, cn, List.length_cons, List.length_nil, List.getD_cons_zero, List.getD_cons_succ, ij, Nat.reduceAdd, Nat.reduceLT, if_true, if_false, reduceCtorEq, hs, lit]
 unfold nC
 unfold okE at *
 refine ⟨?_, ?_⟩ <;> grind
theorem AZ {s : ae} {c : Int} {k o n x y : Int} {e : List aj} (hv : dW s) (h : ik s (ah.mk 6 k o n [x, y] e)) :
  aJ (ah.mk 6 k o n [x, y] e) (aC.mk s c) = aE s (ah.mk 6 k o n [x, y] e) ∧ aE s (ah.mk 6 k o n [x, y] e) ≠ none := by
 have ho : inV s o := h.o
 have hx : inV s x := h.a x (by simp)
 have hy : inV s y := h.a y (by simp)
 rw [cl h.o (by simp) h.a]
 have go := aT hv ho
 have gx := aT hv hx
 have gy := aT hv hy
 unfold inV at ho hx hy
 simp only [aJ, aW, aV, aU, aO, ho, hx, hy, and_self, bSq, gK, ci, dB, b8, dg, cn, List.length_cons, List.length_nil, List.getD_cons_zero, List.getD_cons_succ, ij, Nat.reduceAdd, Nat.reduceLT, if_true, if_false, reduceCtorEq]
 unfold okE at *
 refine ⟨?_, ?_⟩ <;> grind
theorem A0 {s : ae} {c : Int} {k o n x y : Int} {e : List aj} (hv : dW s) (h : ik s (ah.mk 7 k o n [x, y] e)) :
  aJ (ah.mk 7 k o n [x, y] e) (aC.mk s c) = aE s (ah.mk 7 k o n [x, y] e) ∧ aE s (ah.mk 7 k o n [x, y] e) ≠ none := by
 have ho : inV s o := h.o
 have hx : inV s x := h.a x (by simp)
 have hy : inV s y := h.a y (by simp)
 rw [cl h.o (by simp) h.a]
 have go := aT hv ho
 have gx := aT hv hx
 have gy := aT hv hy
 unfold inV at ho hx hy
 simp only [aJ, aW, aV, aU, aO, ho, hx, hy, and_self, bSq, gK, ci, dB, b8, dg, cn, List.length_cons, List.length_nil, List.getD_cons_zero, List.getD_cons_succ, ij, Nat.reduceAdd, Nat.reduceLT, if_true, if_false, reduceCtorEq]
 unfold okE at *
 refine ⟨?_, ?_⟩ <;> grind
theorem A1 {s : ae} {c : Int} {k o n x : Int} {e : List aj} (hv : dW s) (h : ik s (ah.mk 8 k o n [x] e)) :
  aJ (ah.mk 8 k o n [x] e) (aC.mk s c) = aE s (ah.mk 8 k o n [x] e) ∧ aE s (ah.mk 8 k o n [x] e) ≠ none := by
 have ho : inV s o := h.o
 have hx : inV s x := h.a x (by simp)
 rw [cl h.o (by simp) h.a]
 have go := aT hv ho
 have gx := aT hv hx
 unfold inV at ho hx
 simp only [aJ, aW, aV, aU, aO, ho, hx, and_self, bSq, gK, ci, dB, b8, dg, cn, List.length_cons, List.length_nil, List.getD_cons_zero, List.getD_cons_succ, ij, Nat.reduceAdd, Nat.reduceLT, if_true, if_false, reduceCtorEq]
 unfold okE at *
 refine ⟨?_, ?_⟩ <;> grind
theorem A2 {s : ae} {c : Int} {k o n x y z : Int} {e : List aj} (hv : dW s) (h : ik s (ah.mk 9 k o n [x, y, z] e)) :
  aJ (ah.mk 9 k o n [x, y, z] e) (aC.mk s c) = aE s (ah.mk 9 k o n [x, y, z] e) ∧ aE s (ah.mk 9 k o n [x, y, z] e) ≠ none := by
 have ho : inV s o := h.o
 have hx : inV s x := h.a x (by simp)
 have hy : inV s y := h.a y (by simp)
 have hz : inV s z := h.a z (by simp)
 rw [cl h.o (by simp) h.a]
 have go := aT hv ho
 have gx := aT hv hx
 have gy := aT hv hy
 have gz := aT hv hz
 have he := vy (c := c) hx
 unfold inV at ho hx hy hz
 simp only [aJ, aW, aV, aU, aO, ho, hx, hy, hz, and_self, bSq, gK, ci, dB, b8, dg, cn, List.length_cons, List.length_nil, List.getD_cons_zero, List.getD_cons_succ, ij, Nat.reduceAdd, Nat.reduceLT, if_true, if_false, reduceCtorEq, he]
 unfold okE at *
 refine ⟨?_, ?_⟩ <;> grind
theorem Ax {s : ae} {c : Int} {k o n x y z : Int} {e : List aj} (hv : dW s) (h : ik s (ah.mk 10 k o n [x, y, z] e)) :
  aJ (ah.mk 10 k o n [x, y, z] e) (aC.mk s c) = aE s (ah.mk 10 k o n [x, y, z] e) ∧ aE s (ah.mk 10 k o n [x, y, z] e) ≠ none := by
 have ho : inV s o := h.o
 have hx : inV s x := h.a x (by simp)
 have hy : inV s y := h.a y (by simp)
 have hz : inV s z := h.a z (by simp)
 rw [cl h.o (by simp) h.a]
 have go := aT hv ho
 have gx := aT hv hx
 have gy := aT hv hy
 have gz := aT hv hz
 have he := vy (c := c) hx
 unfold inV at ho hx hy hz
 simp only [aJ, aW, aV, aU, aO, ho, hx, hy, hz, and_self, bSq, gK, ci, dB, b8, dg, cn, List.length_cons, List.length_nil, List.getD_cons_zero, List.getD_cons_succ, ij, Nat.reduceAdd, Nat.reduceLT, if_true, if_false, reduceCtorEq, he]
 unfold okE at *
 refine ⟨?_, ?_⟩ <;> grind
theorem Ay {s : ae} {c : Int} {k o n x : Int} {e : List aj} (hv : dW s) (h : ik s (ah.mk 11 k o n [x] e)) :
  aJ (ah.mk 11 k o n [x] e) (aC.mk s c) = aE s (ah.mk 11 k o n [x] e) ∧ aE s (ah.mk 11 k o n [x] e) ≠ none := by
 have ho : inV s o := h.o
 have hx : inV s x := h.a x (by simp)
 rw [cl h.o (by simp) h.a]
 have go := aT hv ho
 have gx := aT hv hx
 have hw := (wrd gx.2 go.2).1
 unfold inV at ho hx
 simp only [aJ, aW, aV, aU, aO, ho, hx, and_self, bSq, gK, ci, dB, b8, dg, cn, List.length_cons, List.length_nil, List.getD_cons_zero, List.getD_cons_succ, ij, Nat.reduceAdd, Nat.reduceLT, if_true, if_false, reduceCtorEq, hw]
 unfold okE at *
 by_cases hle : (vOf s o).n ≤ (vOf s x).n
 ·refine ⟨?_, ?_⟩ <;> grind
 ·by_cases hn0 : n ≥ 0
  ·have hd : decide (n ≤ (vOf s x).n - (vOf s o).n) = false := by simp; omega
   simp only [hd]
   refine ⟨?_, ?_⟩ <;> grind
  ·refine ⟨?_, ?_⟩ <;> grind
theorem Az {s : ae} {c : Int} {k o n x y : Int} {e : List aj} (hv : dW s) (h : ik s (ah.mk 12 k o n [x, y] e)) :
  aJ (ah.mk 12 k o n [x, y] e) (aC.mk s c) = aE s (ah.mk 12 k o n [x, y] e) ∧ aE s (ah.mk 12 k o n [x, y] e) ≠ none := by
 have ho : inV s o := h.o
 have hx : inV s x := h.a x (by simp)
 have hy : inV s y := h.a y (by simp)
 rw [cl h.o (by simp) h.a]
 have go := aT hv ho
 have gx := aT hv hx
 have gy := aT hv hy
 have hw := (wrd gx.2 gy.2).2
 unfold inV at ho hx hy
 simp only [aJ, aW, aV, aU, aO, ho, hx, hy, and_self, bSq, gK, ci, dB, b8, dg, cn, List.length_cons, List.length_nil, List.getD_cons_zero, List.getD_cons_succ, ij, Nat.reduceAdd, Nat.reduceLT, if_true, if_false, reduceCtorEq, hw]
 unfold okE at *
 refine ⟨?_, ?_⟩ <;> grind
theorem AA {s : ae} {c : Int} {k o n x y : Int} {e : List aj} (hv : dW s) (h : ik s (ah.mk 13 k o n [x, y] e)) :
  aJ (ah.mk 13 k o n [x, y] e) (aC.mk s c) = aE s (ah.mk 13 k o n [x, y] e) ∧ aE s (ah.mk 13 k o n [x, y] e) ≠ none := by
 have ho : inV s o := h.o
 have hx : inV s x := h.a x (by simp)
 have hy : inV s y := h.a y (by simp)
 rw [cl h.o (by simp) h.a]
 have go := aT hv ho
 have gx := aT hv hx
 have gy := aT hv hy
 have hs := ue (s := s) (c := c) (l := [x, y, o]) (by simp) (by simp) (by intro w hw; simp at hw; rcases hw with rfl | rfl | rfl <;> assumption)
 simp only [List.getD_cons_zero, List.all_cons, List.all_nil, Bool.and_true] at hs
 unfold inV at ho hx hy
 simp only [aJ, aW, aV, aU, aO, ho, hx, hy, and_self, bSq, gK, ci, dB, b8, dg, cn, List.length_cons, List.length_nil, List.getD_cons_zero, List.getD_cons_succ, ij, Nat.reduceAdd, Nat.reduceLT, if_true, if_false, reduceCtorEq, hs, lit]
 unfold nC
 unfold okE at *
 refine ⟨?_, ?_⟩ <;> grind
theorem AB {s : ae} {c : Int} {k o n : Int} {e : List aj} (hv : dW s) (h : ik s (ah.mk 14 k o n [] e)) :
  aJ (ah.mk 14 k o n [] e) (aC.mk s c) = aE s (ah.mk 14 k o n [] e) ∧ aE s (ah.mk 14 k o n [] e) ≠ none := by
 have ho : inV s o := h.o
 rw [cl h.o (by simp) h.a]
 have go := aT hv ho
 have hc := lr (c := c) (r := ah.mk 14 k o n [] e) (o := vOf s o) (n := co (vOf s o).n) hv (h.u (by simp)) h.e go.1 (by unfold co; split <;> omega)
 unfold inV at ho
 simp only [aJ, aW, aV, aU, aO, ho, and_self, bSq, gK, ci, dB, b8, dg, cn, List.length_cons, List.length_nil, List.getD_cons_zero, List.getD_cons_succ, ij, Nat.reduceAdd, Nat.reduceLT, if_true, if_false, reduceCtorEq, fU, cr, dD, uV]
 simp only [hc.1, hc.2]
 refine ⟨?_, ?_⟩ <;> grind
theorem AC {s : ae} {c : Int} {k o n x : Int} {e : List aj} (hv : dW s) (h : ik s (ah.mk 15 k o n [x] e)) :
  aJ (ah.mk 15 k o n [x] e) (aC.mk s c) = aE s (ah.mk 15 k o n [x] e) ∧ aE s (ah.mk 15 k o n [x] e) ≠ none := by
 have ho : inV s o := h.o
 have hx : inV s x := h.a x (by simp)
 rw [cl h.o (by simp) h.a]
 have go := aT hv ho
 have gx := aT hv hx
 have hc := fun (hn : 1 ≤ n ∧ n ≤ 300) => lr (c := c) (r := ah.mk 15 k o n [x] e) (o := vOf s o) (n := n) hv (h.u (by simp)) h.e go.1 hn
 unfold inV at ho hx
 simp only [aJ, aW, aV, aU, aO, ho, hx, and_self, bSq, gK, ci, dB, b8, dg, cn, List.length_cons, List.length_nil, List.getD_cons_zero, List.getD_cons_succ, ij, Nat.reduceAdd, Nat.reduceLT, if_true, if_false, reduceCtorEq, fU, cr, dD, uV]
 by_cases hn : 1 ≤ n ∧ n ≤ 300
 ·simp only [(hc hn).1, (hc hn).2, bSq]
  unfold okE at *
  refine ⟨?_, ?_⟩ <;> grind
 ·unfold okE at *
  refine ⟨?_, ?_⟩ <;> grind
theorem AD {s : ae} {c : Int} {k o n x : Int} {e : List aj} (hv : dW s) (h : ik s (ah.mk 16 k o n [x] e)) :
  aJ (ah.mk 16 k o n [x] e) (aC.mk s c) = aE s (ah.mk 16 k o n [x] e) ∧ aE s (ah.mk 16 k o n [x] e) ≠ none := by
 have ho : inV s o := h.o
 have hx : inV s x := h.a x (by simp)
 rw [cl h.o (by simp) h.a]
 have go := aT hv ho
 have gx := aT hv hx
 have hc := fun (hn : 1 ≤ (vOf s o).n) => lr (c := c) (r := ah.mk 16 k o n [x] e) (o := vOf s o) (n := (vOf s o).n) hv (h.u (by simp)) h.e go.1 ⟨hn, go.2.2⟩
 unfold inV at ho hx
 simp only [aJ, aW, aV, aU, aO, ho, hx, and_self, bSq, gK, ci, dB, b8, dg, cn, List.length_cons, List.length_nil, List.getD_cons_zero, List.getD_cons_succ, ij, Nat.reduceAdd, Nat.reduceLT, if_true, if_false, reduceCtorEq, fU, cr, dD, uV]
 by_cases hn : 1 ≤ (vOf s o).n
 ·have hcv : co (vOf s o).n = (vOf s o).n := by unfold co; rw [iN (by omega)]
  simp only [hcv, (hc hn).1, (hc hn).2, bSq]
  unfold okE at *
  refine ⟨?_, ?_⟩ <;> grind
 ·unfold okE at *
  refine ⟨?_, ?_⟩ <;> grind
theorem rX (l : List Int) : ∀ (a : List Int) (x : Int), x ∈ l.foldl ins a ↔ x ∈ a ∨ x ∈ l := by
 induction l with
 | nil => intro a x; simp
 | cons y l ih => intro a x; rw [List.foldl_cons, ih, tn]; simp; grind
theorem we (e : List aj) : ∀ (a : List Int) (x : Int), x ∈ e.foldl (fun l p => if nmd p then l ++ [p.v] else l) a ↔ x ∈ a ∨ ∃ p ∈ e, nmd p = true ∧ p.v = x := by
 induction e with
 | nil => intro a x; simp
 | cons p e ih =>
  intro a x
  rw [List.foldl_cons, ih]
  by_cases h : nmd p = true
  ·rw [iP h]; simp; grind
  ·rw [iN h]; simp; grind
theorem mP (a : List Int) (e : List aj) (x : Int) : x ∈ j5 a e ↔ x ∈ a ∨ ∃ p ∈ e, nmd p = true ∧ p.v = x := by
 unfold j5
 rw [rX, we]
 simp
theorem yg (p : aj) : nmd p = true ↔ (p.op = 2 ∨ p.op = 3 ∨ p.op = 8) := by unfold nmd; simp; grind
def cx (r : ah) : List Int := if r.op < 14 then j5 r.a [] else j5 r.a r.e
theorem qc {r : ah} {x : Int} (h : x ∈ r.a) : x ∈ cx r := by
 unfold cx
 split <;> (rw [mP]; exact .inl h)
theorem yh {s : ae} {r : ah} (h : ∀ x ∈ cx r, inV s x) (ho : 14 ≤ r.op) : ∀ p ∈ r.e, lq s p := by
 intro p hp hn
 refine h _ ?_
 unfold cx
 rw [iN (by omega), mP]
 exact .inr ⟨p, hp, (yg p).2 hn, rfl⟩
def bG (op : Int) : Int := if 1 ≤ op ∧ op ≤ 16 then ([0,0,1,1,2,3,2,2,1,3,3,1,2,2,0,1,1] : List Int).getD op.toNat 0 else -1
noncomputable def jX (s : ae) (mk : List Int) (r : ah) : Int :=
 if ¬ inV s r.out_ then 16
 else if mk.contains r.out_ then 8
 else if bG r.op < 0 ∨ ¬ (r.a.length : Int) = bG r.op then 4
 else if (r.e.length : Int) > 24 then 7
 else if ∃ x ∈ cx r, ¬ inV s x then 16
 else if aE s r = some true then 0 else 10
def bx (s : ae) (i : Nat) : List Int := s.in_ ++ (s.rules.take i).map (fun r => r.out_)
theorem rt (s : ae) {i : Nat} (h : i < s.rules.length) : bx s (i + 1) = bx s i ++ [(s.rules.getD i default).out_] := by
 unfold bx
 rw [cQ _ h, List.map_append, List.append_assoc]
 rfl
def cw (s : ae) (l : List Int) : List Bool := (List.range s.vars.length).map (fun (v : Nat) => decide ((v : Int) ∈ l))
theorem f8 (s : ae) (l : List Int) : (cw s l).length = s.vars.length := by unfold cw; simp
theorem sE {s : ae} {l : List Int} {v : Int} (h : inV s v) : (cw s l).getD v.toNat default = l.contains v := by
 unfold inV at h
 unfold cw
 have : v.toNat < s.vars.length := by omega
 have e : ((v.toNat : Nat) : Int) = v := by omega
 simp [List.getD, this, e]
theorem nQ {s : ae} {l : List Int} {v : Int} (h : inV s v) : (cw s l).set v.toNat true = cw s (l ++ [v]) := by
 unfold inV at h
 have e : ((v.toNat : Nat) : Int) = v := by omega
 apply List.ext_getElem
 ·simp [f8]
 ·intro i h1 h2
  have hi : i < s.vars.length := by simpa [f8] using h2
  rw [List.getElem_set]
  unfold cw
  simp only [List.getElem_map, List.getElem_range, List.mem_append, List.mem_singleton]
  split
  ·rename_i h3
   subst h3
   rw [e]; simp
  ·rename_i h3
   have : ¬ (i : Int) = v := by omega
   simp [this]
noncomputable def jq (s : ae) (i : Nat) : Option ay :=
 let c := jX s (bx s i) (s.rules.getD i default)
 if c = 0 then none else some (ay.mk c (i : Int))
noncomputable def kH (s : ae) (i : Nat) : Option ay :=
 if ∃ x ∈ cx (s.rules.getD i default), ¬ x ∈ bx s s.rules.length then some (ay.mk 9 (i : Int)) else none
def pJ (s : ae) (i : Nat) : Option ay :=
 if s.out_.getD i default ∈ bx s s.rules.length then none else some (ay.mk 9 (-1))
noncomputable def je (s : ae) : ay :=
 if ¬ (mX s).code = 0 then mX s
 else match dA s.rules.length (jq s) () with
  | .inr z => z
  | .inl _ => match dA s.rules.length (kH s) () with
   | .inr z => z
   | .inl _ => match dA s.out_.length (pJ s) () with
    | .inr z => z
    | .inl _ => ay.mk 0 0
theorem ui {s : ae} {c : Int} {r : ah} (hv : dW s) (h : ik s r) (hp : ¬ bG r.op < 0) (hl : (r.a.length : Int) = bG r.op) :
  aJ r (aC.mk s c) = aE s r ∧ aE s r ≠ none := by
 obtain ⟨op, k, o, n, a, e⟩ := r
 simp only at hp hl
 have hop : 1 ≤ op ∧ op ≤ 16 := by
  by_cases hc : 1 ≤ op ∧ op ≤ 16
  ·exact hc
  ·unfold bG at hp; rw [iN hc] at hp; omega
 have hcs : op = 1 ∨ op = 2 ∨ op = 3 ∨ op = 4 ∨ op = 5 ∨ op = 6 ∨ op = 7 ∨ op = 8 ∨ op = 9 ∨ op = 10 ∨ op = 11 ∨ op = 12 ∨ op = 13 ∨ op = 14 ∨ op = 15 ∨ op = 16 := by omega
 rcases hcs with rfl | rfl | rfl | rfl | rfl | rfl | rfl | rfl | rfl | rfl | rfl | rfl | rfl | rfl | rfl | rfl
 ·have hl' : a.length = 0 := by simpa [bG] using hl
  match a, hl' with | [], _ => exact AU hv h
 ·have hl' : a.length = 1 := by simp [bG] at hl; omega
  match a, hl' with | [x], _ => exact AV hv h
 ·have hl' : a.length = 1 := by simp [bG] at hl; omega
  match a, hl' with | [x], _ => exact AW hv h
 ·have hl' : a.length = 2 := by simp [bG] at hl; omega
  match a, hl' with | [x, y], _ => exact AX hv h
 ·have hl' : a.length = 3 := by simp [bG] at hl; omega
  match a, hl' with | [x, y, z], _ => exact AY hv h
 ·have hl' : a.length = 2 := by simp [bG] at hl; omega
  match a, hl' with | [x, y], _ => exact AZ hv h
 ·have hl' : a.length = 2 := by simp [bG] at hl; omega
  match a, hl' with | [x, y], _ => exact A0 hv h
 ·have hl' : a.length = 1 := by simp [bG] at hl; omega
  match a, hl' with | [x], _ => exact A1 hv h
 ·have hl' : a.length = 3 := by simp [bG] at hl; omega
  match a, hl' with | [x, y, z], _ => exact A2 hv h
 ·have hl' : a.length = 3 := by simp [bG] at hl; omega
  match a, hl' with | [x, y, z], _ => exact Ax hv h
 ·have hl' : a.length = 1 := by simp [bG] at hl; omega
  match a, hl' with | [x], _ => exact Ay hv h
 ·have hl' : a.length = 2 := by simp [bG] at hl; omega
  match a, hl' with | [x, y], _ => exact Az hv h
 ·have hl' : a.length = 2 := by simp [bG] at hl; omega
  match a, hl' with | [x, y], _ => exact AA hv h
 ·have hl' : a.length = 0 := by simpa [bG] using hl
  match a, hl' with | [], _ => exact AB hv h
 ·have hl' : a.length = 1 := by simp [bG] at hl; omega
  match a, hl' with | [x], _ => exact AC hv h
 ·have hl' : a.length = 1 := by simp [bG] at hl; omega
  match a, hl' with | [x], _ => exact AD hv h
theorem pK (op : Int) : bG op ≤ 3 := by
 unfold bG
 split
 ·rename_i h
  have hcs : op = 1 ∨ op = 2 ∨ op = 3 ∨ op = 4 ∨ op = 5 ∨ op = 6 ∨ op = 7 ∨ op = 8 ∨ op = 9 ∨ op = 10 ∨ op = 11 ∨ op = 12 ∨ op = 13 ∨ op = 14 ∨ op = 15 ∨ op = 16 := by omega
  rcases hcs with rfl | rfl | rfl | rfl | rfl | rfl | rfl | rfl | rfl | rfl | rfl | rfl | rfl | rfl | rfl | rfl <;> decide
 ·decide
theorem uj (op : Int) : kQ op = some (bG op) := by
 unfold kQ bG
 by_cases h : 1 ≤ op ∧ op ≤ 16
 ·rw [iN (by omega), iN (by omega), iP (by omega), iP h]; rfl
 ·rw [iN h]
  by_cases h1 : op < 1
  ·rw [iP h1]
  ·rw [iN h1, iP (by omega)]
theorem uk (op : Int) : jm op = some (bG op) := by
 unfold jm bG
 by_cases h : 1 ≤ op ∧ op ≤ 16
 ·rw [iN (by omega), iN (by omega), iP (by omega), iP h]
  have hcs : op = 1 ∨ op = 2 ∨ op = 3 ∨ op = 4 ∨ op = 5 ∨ op = 6 ∨ op = 7 ∨ op = 8 ∨ op = 9 ∨ op = 10 ∨ op = 11 ∨ op = 12 ∨ op = 13 ∨ op = 14 ∨ op = 15 ∨ op = 16 := by omega
  rcases hcs with rfl | rfl | rfl | rfl | rfl | rfl | rfl | rfl | rfl | rfl | rfl | rfl | rfl | rfl | rfl | rfl <;> rfl
 ·rw [iN h]
  by_cases h1 : op < 0
  ·rw [iP h1]
  ·rw [iN h1]
   by_cases h2 : op ≥ 17
   ·rw [iP h2]
   ·rw [iN h2]
    have : op = 0 := by omega
    subst this
    rfl
theorem yi (b : Bool) (c k : Int) (s : ae) : bt b c (aC.mk s k) = some (if b = true ∧ k = 0 then c else k) := by
 unfold bt
 cases b
 ·simp
 ·by_cases h : k = 0 <;> simp [h]
theorem ru (b : Bool) (c : Int) (s : ae) : bt b c (aC.mk s 0) = some (if b = true then c else 0) := by
 unfold bt
 cases b <;> rfl
theorem rv {b : Bool} {c k : Int} {s : ae} (h : k ≠ 0) : bt b c (aC.mk s k) = some k := by
 unfold bt
 cases b
 ·rfl
 ·simp [h]
theorem uY {s : ae} {r : ah} {c x : Int} (h : x ≠ 0) : cI r (aC.mk s c) x = some (x, x) := by
 unfold cI
 rw [rv h]
 simp only [bSq]
 rw [iP h]
theorem xf {s : ae} {r : ah} {c x : Int} (h : x ≠ 0) : cJ r (aC.mk s c) x = some (x, x) := by
 unfold cJ
 rw [uj]
 simp only [bSq, rv h]
 rw [uY h]
 split <;> rfl
theorem uZ (s : ae) (l : List Int) : ∀ a : Int, l.foldl (fun a x => if ¬ inV s x ∧ a = 0 then 16 else a) a = if (∃ x ∈ l, ¬ inV s x) ∧ a = 0 then 16 else a := by
 induction l with
 | nil => intro a; simp
 | cons y l ih =>
  intro a
  rw [List.foldl_cons, ih]
  by_cases ha : a = 0
  ·subst ha
   by_cases hy : inV s y
   ·simp [hy]
   ·simp [hy]
  ·simp [ha]
theorem u3 {s : ae} {c : Int} {l : List Int} (hl : l.length ≤ 1000) :
  bf (fun (x : Int × Int) => bO (aC.mk s c) l x.1 x.2) (0, 0) = some (if ∃ x ∈ l, ¬ inV s x then 16 else 0) := by
 obtain ⟨h1, _⟩ := kR (A := Int) (T := Int) (O := Int) (S := Int × Int) (fun a i => (a, i)) (body := fun x => bO (aC.mk s c) l x.1 x.2) l (fun a x => if ¬ inV s x ∧ a = 0 then 16 else a)
  (fun _ _ => True) (fun a => a) 0 trivial
  (by
   intro i a hi _
   refine ⟨?_, trivial⟩
   show bO (aC.mk s c) l a (i : Int) = _
   unfold bO
   rw [iP (ltI hi), iP (inI hi)]
   simp only [tN]
   rw [tk]
   simp only [bSq, yi]
   rw [wrs i (by omega)]
   have : ((!decide (0 ≤ l.getD i default ∧ l.getD i default < (s.vars.length : Int))) = true ∧ a = 0) ↔ (¬ inV s (l.getD i default) ∧ a = 0) := by unfold inV; simp; omega
   simp only [this])
  (by
   intro a _
   show bO (aC.mk s c) l a (l.length : Int) = _
   unfold bO
   rw [iN (be _)])
 rw [uZ] at h1
 rw [h1]
 simp
theorem mQ (a : List Int) (e : List aj) : (j5 a e).length ≤ a.length + e.length := by
 have k : ∀ (e : List aj) (a : List Int), (e.foldl (fun l p => if nmd p then l ++ [p.v] else l) a).length ≤ a.length + e.length := by
  intro e
  induction e with
  | nil => intro a; simp
  | cons p e ih =>
   intro a
   rw [List.foldl_cons]
   have := ih (if nmd p then a ++ [p.v] else a)
   have h2 : (if nmd p then a ++ [p.v] else a).length ≤ a.length + 1 := by split <;> simp
   simp only [List.length_cons]
   omega
 unfold j5
 have := rW (e.foldl (fun l p => if nmd p then l ++ [p.v] else l) a) []
 have := k e a
 simp at *
 omega
theorem rx {s : ae} {r : ah} (h1 : inV s r.out_) (h2 : ¬ (r.e.length : Int) > 24) (h3 : ¬ ∃ x ∈ cx r, ¬ inV s x) : ik s r := by
 have h4 : ∀ x ∈ cx r, inV s x := fun x hx => Classical.byContradiction (fun hc => h3 ⟨x, hx, hc⟩)
 exact ⟨h1, fun x hx => h4 x (qc hx), fun ho => yh h4 ho, by omega⟩
theorem yj {s : ae} {c : Int} {r : ah} {l : List Int} (hv : dW s) : iz r (aC.mk s c) (cw s l) = some (jX s l r, jX s l r) := by
 unfold iz jX
 rw [tk]
 simp only [bSq, ru]
 by_cases h1 : inV s r.out_
 ·have h1' : 0 ≤ r.out_ ∧ r.out_ < (s.vars.length : Int) := h1
  simp only [h1', and_self, decide_true, Bool.not_true, Bool.false_eq_true, if_false, if_true, f8, sE h1, not_true_eq_false, h1]
  rw [ru]
  simp only [bSq]
  by_cases h2 : l.contains r.out_ = true
  ·rw [iP h2, iP h2, xf (by decide)]
  ·rw [iN h2, iN h2]
   unfold cJ
   rw [uj]
   simp only [bSq, ru]
   by_cases h3 : bG r.op < 0
   ·rw [iP h3, iP trivial, iP (.inl h3), uY (by decide)]
   ·rw [iN h3]
    by_cases h4 : (r.a.length : Int) = bG r.op
    ·rw [iN (by simpa using h4), iN (fun hc => hc.elim h3 (fun h => h h4))]
     unfold cI
     rw [ru]
     simp only [bSq]
     by_cases h5 : (r.e.length : Int) > 24
     ·have e5 : decide ((r.e.length : Int) > 24) = true := by simpa using h5
      simp only [e5, if_true]
      rw [iP (by decide), iP h5]
     ·have e5 : decide ((r.e.length : Int) > 24) = false := by simpa using h5
      simp only [e5, Bool.false_eq_true, if_false, not_true_eq_false]
      rw [iN h5]
      have hle := pK r.op
      have hj : ∀ l' : List Int, (∀ x, x ∈ l' ↔ x ∈ cx r) → l'.length ≤ 1000 → dv r (aC.mk s c) 0 l' =
        some (if ∃ x ∈ cx r, ¬ inV s x then 16 else if aE s r = some true then 0 else 10, if ∃ x ∈ cx r, ¬ inV s x then 16 else if aE s r = some true then 0 else 10) := by
       intro l' hm hl
       unfold dv
       show (bf (fun (x : Int × Int) => bO (aC.mk s c) l' x.1 x.2) (0, 0)).bind _ = _
       rw [u3 hl]
       simp only [bSq, hm]
       unfold d2
       by_cases h6 : ∃ x ∈ cx r, ¬ inV s x
       ·simp only [iP h6]
        rw [iN (by decide)]
       ·simp only [iN h6]
        rw [iP trivial]
        obtain ⟨f1, f2⟩ := ui (c := 0) hv (rx h1 h5 h6) h3 h4
        simp only [ru]
        rw [f1]
        cases hf : aE s r with
        | none => exact absurd hf f2
        | some b => cases b <;> simp
      by_cases h7 : r.op ≥ 14
      ·rw [iP h7, mO _ (by omega) (by omega)]
       simp only [bSq]
       have hu : cx r = j5 r.a r.e := by unfold cx; rw [iN (by omega)]
       have := mQ r.a r.e
       exact hj _ (fun x => by rw [hu]) (by omega)
      ·rw [iN h7]
       have hu : cx r = j5 r.a [] := by unfold cx; rw [iP (by omega)]
       exact hj _ (fun x => by rw [hu, mP]; simp) (by omega)
    ·rw [iP (by simpa using h4), iP (.inr h4), uY (by decide)]
 ·have h1' : ¬ (0 ≤ r.out_ ∧ r.out_ < (s.vars.length : Int)) := h1
  simp only [h1', decide_false, Bool.not_false, if_true, h1, not_false_eq_true]
  rw [iN (by decide), rv (by decide)]
  simp only [bSq]
  rw [xf (by decide)]
theorem pt {T Z : Type} (l : List Int) (p : Int → Prop) [DecidablePred p] (z : Z) (t : T) :
  dA l.length (fun k => if p (l.getD k default) then none else some z) t = if ∃ x ∈ l, ¬ p x then .inr z else .inl t := by
 rcases cm l.length (fun k => if p (l.getD k default) then none else some z) t with ⟨e, h⟩ | ⟨j, z', hj, hf, e⟩
 ·rw [e, iN]
  rintro ⟨x, hx, hp⟩
  obtain ⟨i, hi, rfl⟩ := List.mem_iff_getElem.1 hx
  have := h i hi
  have e2 : l.getD i default = l[i] := by simp [List.getD, hi]
  simp only [e2, iN hp] at this
  cases this
 ·rw [e, iP]
  ·split at hf
   ·cases hf
   ·simp only [sJ] at hf; rw [hf]
  ·split at hf
   ·cases hf
   ·rename_i hp; exact ⟨_, bb hj, hp⟩
theorem ul (a b : Int) : ep a b = some (ay.mk a b) := by unfold ep; rfl
structure pu (s : ae) : Prop where
 v : dW s
 nv : s.vars.length ≤ 400
 nr : s.rules.length ≤ 400
 ni : s.in_.length ≤ 400
 no : s.out_.length ≤ 400
 i : ∀ x ∈ s.in_, inV s x
 o : ∀ x ∈ s.out_, inV s x
theorem pL {s : ae} (h : (mX s).code = 0) : pu s := by
 unfold mX at h
 split at h
 ·cases h
 ·rename_i hl
  rcases cm s.vars.length (pI s) () with ⟨e1, h1⟩ | ⟨j, z, hj, hf, e⟩
  ·rw [e1] at h
   rcases cm s.in_.length (inF s) () with ⟨e2, h2⟩ | ⟨j, z, hj, hf, e⟩
   ·simp only [e2] at h
    rcases cm s.out_.length (nZ s) () with ⟨e3, h3⟩ | ⟨j, z, hj, hf, e⟩
    ·refine ⟨⟨fun v hv => ?_, fun v hv => ?_⟩, by omega, by omega, by omega, by omega, fun x hx => ?_, fun x hx => ?_⟩
     ·obtain ⟨i, hi, rfl⟩ := List.mem_iff_getElem.1 hv
      have := h1 i hi
      have e2 : s.vars.getD i default = s.vars[i] := by simp [List.getD, hi]
      unfold pI v8 at this
      rw [e2] at this
      split at this
      ·cases this
      ·unfold okE; omega
     ·obtain ⟨i, hi, rfl⟩ := List.mem_iff_getElem.1 hv
      have := h1 i hi
      have e2 : s.vars.getD i default = s.vars[i] := by simp [List.getD, hi]
      unfold pI v8 at this
      rw [e2] at this
      split at this
      ·cases this
      ·split at this
       ·cases this
       ·omega
     ·obtain ⟨i, hi, rfl⟩ := List.mem_iff_getElem.1 hx
      have := h2 i hi
      have e2 : s.in_.getD i default = s.in_[i] := by simp [List.getD, hi]
      unfold inF at this
      rw [e2] at this
      by_cases hh : inV s s.in_[i]
      ·exact hh
      ·rw [iP hh] at this; cases this
     ·obtain ⟨i, hi, rfl⟩ := List.mem_iff_getElem.1 hx
      have := h3 i hi
      have e2 : s.out_.getD i default = s.out_[i] := by simp [List.getD, hi]
      unfold nZ at this
      rw [e2] at this
      by_cases hh : inV s s.out_[i]
      ·exact hh
      ·rw [iP hh] at this; cases this
    ·simp only [e] at h
     unfold nZ at hf
     split at hf
     ·simp only [sJ] at hf; subst hf; cases h
     ·cases hf
   ·simp only [e] at h
    unfold inF at hf
    split at hf
    ·simp only [sJ] at hf; subst hf; cases h
    ·split at hf
     ·simp only [sJ] at hf; subst hf; cases h
     ·cases hf
  ·simp only [e] at h
   unfold pI v8 at hf
   split at hf
   ·simp only [sJ] at hf; subst hf; cases h
   ·split at hf
    ·simp only [sJ] at hf; subst hf; cases h
    ·cases hf
theorem lu {s : ae} {l : List Int} {r : ah} (h : jX s l r = 0) : ik s r ∧ (∀ x ∈ cx r, inV s x) ∧ r.a.length ≤ 3 ∧ ¬ l.contains r.out_ = true ∧ ¬ bG r.op < 0 ∧ (r.a.length : Int) = bG r.op ∧ aE s r = some true := by
 unfold jX at h
 by_cases h1 : inV s r.out_
 ·rw [iN (by simpa using h1)] at h
  by_cases h2 : l.contains r.out_ = true
  ·rw [iP h2] at h; cases h
  ·rw [iN h2] at h
   by_cases h3 : bG r.op < 0 ∨ ¬ (r.a.length : Int) = bG r.op
   ·rw [iP h3] at h; cases h
   ·rw [iN h3] at h
    by_cases h5 : (r.e.length : Int) > 24
    ·rw [iP h5] at h; cases h
    ·rw [iN h5] at h
     by_cases h6 : ∃ x ∈ cx r, ¬ inV s x
     ·rw [iP h6] at h; cases h
     ·rw [iN h6] at h
      have hle := pK r.op
      refine ⟨rx h1 h5 h6, fun x hx => Classical.byContradiction (fun hc => h6 ⟨x, hx, hc⟩), by omega, h2, fun hc => h3 (.inl hc), Classical.byContradiction (fun hc => h3 (.inr hc)), ?_⟩
      by_cases h7 : aE s r = some true
      ·exact h7
      ·rw [iN h7] at h; cases h
 ·rw [iP h1] at h; cases h
theorem kS {s : ae} {l : List Int} {v : Int} (h : inV s v) : (cw s l).getD v.toNat default = true ↔ v ∈ l := by rw [sE h]; simp
theorem sF (s : ae) : List.replicate s.vars.length false = cw s [] := by
 apply List.ext_getElem
 ·simp [f8]
 ·intro i h1 h2; simp [cw]
theorem yk {s : ae} (g : pu s) : bf (fun (x : List Bool × Int) => dL s x.1 x.2) (cw s [], 0) = some (cw s s.in_) := by
 have := fZ (S := List Bool × Int) (T := List Bool) (fun i => (cw s (s.in_.take i), (i : Int))) (body := fun x => dL s x.1 x.2) s.in_.length (cw s s.in_)
  (by
   intro i hi
   show dL s (cw s (s.in_.take i)) (i : Int) = _
   have gi := g.i _ (bb hi)
   have gi' := gi
   unfold inV at gi'
   unfold dL
   rw [iP (ltI hi), iP (inI hi)]
   simp only [tN]
   rw [f8, iP gi', nQ gi, wrs i (by have := g.ni; omega), cQ _ hi])
  (by
   show dL s (cw s (s.in_.take s.in_.length)) (s.in_.length : Int) = _
   unfold dL
   rw [iN (be _), List.take_length])
 exact this
theorem u4 {s : ae} (g : pu s) : bf (fun (x : Int × List Bool × Int) => dK s x.1 x.2.1 x.2.2) (0, cw s s.in_, 0) = some (dA s.rules.length (jq s) (0, cw s (bx s s.rules.length))) := by
 have e0 : bx s 0 = s.in_ := by simp [bx]
 have := pr (S := Int × List Bool × Int) (T := Int × List Bool) (Z := ay) (fun i => (0, cw s (bx s i), (i : Int))) (body := fun x => dK s x.1 x.2.1 x.2.2) s.rules.length (jq s) (0, cw s (bx s s.rules.length))
  (by
   intro i hi
   show dK s 0 (cw s (bx s i)) (i : Int) = _
   unfold dK
   rw [iP (ltI hi), iP (inI hi)]
   simp only [tN]
   rw [yj g.v]
   simp only [bSq]
   unfold jq
   by_cases h : jX s (bx s i) (s.rules.getD i default) = 0
   ·obtain ⟨gr, _⟩ := lu h
    have go := gr.o
    have go' := go
    unfold inV at go'
    simp only [h, not_true_eq_false, if_false, if_true]
    rw [f8, iP go', nQ go, wrs i (by have := g.nr; omega), rt s hi]
   ·simp only [h, not_false_eq_true, if_true, if_false])
  (by
   show dK s 0 (cw s (bx s s.rules.length)) (s.rules.length : Int) = _
   unfold dK
   rw [iN (be _)])
 rw [e0] at this
 exact this
theorem wg {s : ae} (g : pu s) (hr : ∀ i, i < s.rules.length → jq s i = none) :
  bf (fun x => iK s (cw s (bx s s.rules.length)) x) 0 = some (dA s.rules.length (kH s) ()) := by
 refine bo s.rules.length (kH s) () (fun i hi => ?_) ?_
 ·have h0 := hr i hi
  unfold jq at h0
  have h0' : jX s (bx s i) (s.rules.getD i default) = 0 := by
   by_cases h : jX s (bx s i) (s.rules.getD i default) = 0
   ·exact h
   ·simp only [iN h] at h0; cases h0
  obtain ⟨gr, hu, ha, _⟩ := lu h0'
  have he := gr.e
  unfold iK
  rw [iP (ltI hi), iP (inI hi)]
  simp only [tN]
  generalize hR : s.rules.getD i default = r at *
  have hj : ∀ l : List Int, (∀ x, x ∈ l ↔ x ∈ cx r) → l.length ≤ 1000 → gA (cw s (bx s s.rules.length)) (i : Int) l = some (match kH s i with | some z => .inr (.inr z) | none => .inl ((i + 1 : Nat) : Int)) := by
   intro l hm hl
   unfold gA
   rw [bo l.length (fun k => if l.getD k default ∈ bx s s.rules.length then none else some (ay.mk 9 (i : Int))) () (fun k hk => by
    have gk := hu _ ((hm _).1 (bb hk))
    have gk' := gk
    unfold inV at gk'
    unfold jB
    rw [iP (ltI hk), iP (inI hk)]
    simp only [tN]
    rw [f8, iP gk', wrs k (by omega)]
    by_cases hc : l.getD k default ∈ bx s s.rules.length
    ·rw [iP ((kS gk).2 hc), iP hc]
    ·rw [iN (fun h => hc ((kS gk).1 h)), iN hc]) (by unfold jB; rw [iN (be _)])]
   rw [pt l (fun x => x ∈ bx s s.rules.length)]
   unfold kH
   rw [hR]
   simp only [hm]
   by_cases h9 : ∃ x ∈ cx r, ¬ x ∈ bx s s.rules.length
   ·simp only [iP h9]; rfl
   ·simp only [iN h9, bSq, Sum.elim_inl]
    unfold iJ
    rw [wrs i (by have := g.nr; omega)]
  by_cases h7 : r.op ≥ 14
  ·rw [iP h7, mO _ (by omega) (by omega)]
   simp only [bSq]
   have hu' : cx r = j5 r.a r.e := by unfold cx; rw [iN (by omega)]
   have := mQ r.a r.e
   rw [hj (j5 r.a r.e) (fun x => by rw [hu']) (by omega)]
   cases kH s i <;> rfl
  ·rw [iN h7]
   have hu' : cx r = j5 r.a [] := by unfold cx; rw [iP (by omega)]
   rw [hj r.a (fun x => by rw [hu', mP]; simp) (by omega)]
   cases kH s i <;> rfl
 ·unfold iK; rw [iN (be _)]
theorem xg {s : ae} (g : pu s) : bf (fun x => iH s (cw s (bx s s.rules.length)) x) 0 = some (dA s.out_.length (pJ s) ()) := by
 refine bo s.out_.length (pJ s) () (fun i hi => ?_) ?_
 ·have gk := g.o _ (bb hi)
  have gk' := gk
  unfold inV at gk'
  unfold iH pJ
  rw [iP (ltI hi), iP (inI hi)]
  simp only [tN]
  rw [f8, iP gk', wrs i (by have := g.no; omega)]
  by_cases hc : s.out_.getD i default ∈ bx s s.rules.length
  ·rw [iP ((kS gk).2 hc), iP hc]
  ·rw [iN (fun h => hc ((kS gk).1 h)), iN hc]
 ·unfold iH; rw [iN (be _)]
theorem um (s : ae) : ma s = some (je s) := by
 unfold ma je
 rw [uS]
 simp only [bSq]
 by_cases h : (mX s).code = 0
 ·have g := pL h
  simp only [h, not_true_eq_false, if_false]
  rw [iP ⟨by omega, rm _ (by have := g.nv; omega)⟩]
  rw [sF]
  show (bf (fun (x : List Bool × Int) => dL s x.1 x.2) (cw s [], 0)).bind (fun z46 => gC s z46) = _
  rw [yk g]
  simp only [bSq]
  unfold gC
  show (bf (fun (x : Int × List Bool × Int) => dK s x.1 x.2.1 x.2.2) (0, cw s s.in_, 0)).bind (Sum.elim (fun z => gB s z.1 z.2) (fun z36 => some z36)) = _
  rw [u4 g]
  simp only [bSq]
  rcases cm s.rules.length (jq s) ((0 : Int), cw s (bx s s.rules.length)) with ⟨e, h1⟩ | ⟨j, z, hj, hf, e⟩
  ·rw [e, hY h1]
   simp only [Sum.elim_inl]
   unfold gB
   rw [wg g h1]
   simp only [bSq]
   cases dA s.rules.length (kH s) () with
   | inr z => rfl
   | inl u =>
    simp only [Sum.elim_inl]
    unfold iI
    rw [xg g]
    simp only [bSq]
    cases dA s.out_.length (pJ s) () <;> rfl
  ·rw [e]
   rcases cm s.rules.length (jq s) () with ⟨e', h1⟩ | ⟨j', z', hj', hf', e'⟩
   ·rw [h1 j hj] at hf; cases hf
   ·have : z = z' := by
     unfold dA at e e'
     cases hq : (List.range s.rules.length).findSome? (jq s) with
     | none => rw [hq] at e; cases e
     | some q => rw [hq] at e e'; simp at e e'; rw [← e, ← e']
    rw [e', this]; rfl
 ·simp only [h, not_false_eq_true, if_true]
def gZ (s : ae) (i : Nat) : List Int := (s.rules.take i).map (fun r => r.out_)
theorem nR (s : ae) {i : Nat} (h : i ≤ s.rules.length) : (gZ s i).length = i := by unfold gZ; simp [h]
theorem jf (s : ae) (i : Nat) : bx s i = s.in_ ++ gZ s i := rfl
theorem ry {s : ae} {n : Nat} (hn : n ≤ s.rules.length) (hb : s.rules.length ≤ 100000) : md s (n : Int) = some (gZ s n) := by
 unfold md
 have := fZ (S := List Int × Int) (T := List Int) (fun i => (gZ s i, (i : Int))) (body := fun x => fq s (n : Int) x.1 x.2) n (gZ s n)
  (by
   intro i hi
   show fq s (n : Int) (gZ s i) (i : Int) = _
   unfold fq
   rw [iP (ltI hi), iP ⟨inI (by omega), rq _ (by rw [nR s (by omega)]; omega)⟩, wrs i (by omega)]
   simp only [tN]
   have : gZ s (i + 1) = gZ s i ++ [(s.rules.getD i default).out_] := by unfold gZ; rw [cQ _ (by omega), List.map_append]; rfl
   rw [this]
   rfl)
  (by
   show fq s (n : Int) (gZ s n) (n : Int) = _
   unfold fq
   rw [iN (be _)])
 have e0 : gZ s 0 = [] := rfl
 rw [e0] at this
 show (bf (fun x => fq s (n : Int) x.1 x.2) ([], 0)).bind _ = _
 rw [show ((0 : Nat) : Int) = 0 from rfl] at this
 rw [this]
 rfl
theorem oJ (r : ah) (ha : r.a.length ≤ 100000) (he : r.e.length ≤ 100000) : li r = some (cx r) := by
 unfold li cx
 by_cases h : r.op < 14
 ·rw [iP h, iP h]
  unfold iD
  rw [rr _ (by simp only; omega) (by simp)]
  rfl
 ·rw [iN h, iN h]
  unfold iD
  rw [rr _ (by simp only; omega) (by simp only; omega)]
  rfl
theorem pM (r : ah) : (cx r).length ≤ r.a.length + r.e.length := by
 unfold cx
 split
 ·have := mQ r.a []; simp at this; omega
 ·exact mQ _ _
theorem qd (s : ae) (x : Int) : ¬ inV s x ↔ x < 0 ∨ x ≥ (s.vars.length : Int) := by unfold inV; omega
theorem xh {s : ae} (g : pu s) {i : Nat} (hi : i < s.rules.length) : eV s (i : Int) = some (match jq s i with | some z => .inr (.inr z) | none => .inl ((i + 1 : Nat) : Int)) := by
 unfold eV jq jX
 rw [iP (ltI hi), iP (inI hi)]
 simp only [tN, ul, bSq]
 have hnr := g.nr
 generalize hR : s.rules.getD i default = r
 by_cases h1 : inV s r.out_
 ·have h1' := h1
  unfold inV at h1'
  rw [iN (by omega), iN (by omega)]
  rw [kq _ _ (by have := g.ni; omega)]
  simp only [bSq, h1, not_true_eq_false, if_false]
  by_cases h2 : s.in_.contains r.out_ = true
  ·rw [iP h2]
   have : (bx s i).contains r.out_ = true := by rw [jf]; simp at h2 ⊢; exact .inl h2
   simp only [this, if_true]
   rfl
  ·rw [iN h2, ry (by omega) (by omega)]
   simp only [bSq]
   rw [kq _ _ (by rw [nR s (by omega)]; omega)]
   simp only [bSq]
   by_cases h3 : (gZ s i).contains r.out_ = true
   ·rw [iP h3]
    have : (bx s i).contains r.out_ = true := by rw [jf]; simp at h3 ⊢; exact .inr h3
    simp only [this, if_true]
    rfl
   ·rw [iN h3]
    have : (bx s i).contains r.out_ = false := by rw [jf]; simp at h2 h3 ⊢; exact ⟨h2, h3⟩
    simp only [this, Bool.false_eq_true, if_false, uk, bSq]
    by_cases h4 : bG r.op < 0
    ·rw [iP h4]
     simp only [h4, true_or, if_true]
     rfl
    ·rw [iN h4]
     by_cases h5 : (r.a.length : Int) = bG r.op
     ·rw [iN (fun hc => hc h5.symm)]
      have h45 : ¬ (bG r.op < 0 ∨ ¬ (r.a.length : Int) = bG r.op) := fun hc => hc.elim h4 (fun h => h h5)
      simp only [iN h45]
      have hle := pK r.op
      by_cases h6 : (r.e.length : Int) > 24
      ·rw [iP h6]
       simp only [iP h6]
       rfl
      ·rw [iN h6]
       simp only [iN h6]
       rw [oJ r (by omega) (by omega)]
       simp only [bSq]
       have hul := pM r
       rw [bo (cx r).length (fun k => if inV s ((cx r).getD k default) then none else some (ay.mk 16 (i : Int))) () (fun k hk => by
        unfold gT
        rw [iP (ltI hk), iP (inI hk)]
        simp only [tN, ul, bSq]
        rw [wrs k (by omega)]
        by_cases hc : inV s ((cx r).getD k default)
        ·have hc' := hc
         unfold inV at hc'
         rw [iN (by omega), iN (by omega), iP hc]
        ·rw [iN hc]
         rcases (qd s _).1 hc with h | h
         ·rw [iP h]
         ·by_cases h' : (cx r).getD k default < 0
          ·rw [iP h']
          ·rw [iN h', iP h]) (by unfold gT; rw [iN (be _)])]
       rw [pt (cx r) (fun x => inV s x)]
       by_cases h7 : ∃ x ∈ cx r, ¬ inV s x
       ·simp only [iP h7]; rfl
       ·simp only [iN h7, bSq, Sum.elim_inl]
        unfold eU
        simp only [tN, hR]
        obtain ⟨_, f2⟩ := ui (c := 0) g.v (rx h1 h6 h7) h4 h5
        cases hf : aE s r with
        | none => exact absurd hf f2
        | some b =>
         cases b
         ·simp only [bSq, ul]; rfl
         ·simp only [bSq, if_true]
          unfold gS
          rw [wrs i (by omega)]
     ·rw [iP (fun hc => h5 hc.symm)]
      have h45 : bG r.op < 0 ∨ ¬ (r.a.length : Int) = bG r.op := .inr h5
      simp only [iP h45]
      rfl
 ·simp only [h1, not_false_eq_true, if_true]
  rcases (qd s _).1 h1 with h | h
  ·rw [iP h]; rfl
  ·by_cases h' : r.out_ < 0
   ·rw [iP h']; rfl
   ·rw [iN h', iP h]; rfl
theorem xi {s : ae} (g : pu s) (hr : ∀ i, i < s.rules.length → jq s i = none) :
  bf (fun x => eR s (gZ s s.rules.length) x) 0 = some (dA s.rules.length (kH s) ()) := by
 have hnr := g.nr
 refine bo s.rules.length (kH s) () (fun i hi => ?_) ?_
 ·have h0 := hr i hi
  unfold jq at h0
  have h0' : jX s (bx s i) (s.rules.getD i default) = 0 := by
   by_cases h : jX s (bx s i) (s.rules.getD i default) = 0
   ·exact h
   ·simp only [iN h] at h0; cases h0
  obtain ⟨gr, hu, ha, _⟩ := lu h0'
  have he := gr.e
  unfold eR kH
  rw [iP (ltI hi), iP (inI hi)]
  simp only [tN]
  generalize hR : s.rules.getD i default = r at *
  rw [oJ r (by omega) (by omega)]
  simp only [bSq]
  have hul := pM r
  rw [bo (cx r).length (fun k => if (cx r).getD k default ∈ bx s s.rules.length then none else some (ay.mk 9 (i : Int))) () (fun k hk => by
   unfold gR
   rw [iP (ltI hk), iP (inI hk)]
   simp only [tN, ul, bSq]
   rw [wrs k (by omega), kq _ _ (by have := g.ni; omega)]
   simp only [bSq]
   rw [kq _ _ (by rw [nR s (by omega)]; omega)]
   simp only [bSq]
   rw [jf]
   by_cases hc : (cx r).getD k default ∈ s.in_
   ·rw [iP (by simpa using hc), iP (List.mem_append.2 (.inl hc))]
   ·rw [iN (by simpa using hc)]
    by_cases hd : (cx r).getD k default ∈ gZ s s.rules.length
    ·rw [iP (by simpa using hd), iP (List.mem_append.2 (.inr hd))]
    ·rw [iN (by simpa using hd), iN (fun h => (List.mem_append.1 h).elim hc hd)]) (by unfold gR; rw [iN (be _)])]
  rw [pt (cx r) (fun x => x ∈ bx s s.rules.length)]
  by_cases h9 : ∃ x ∈ cx r, ¬ x ∈ bx s s.rules.length
  ·simp only [iP h9]; rfl
  ·simp only [iN h9, bSq, Sum.elim_inl]
   unfold eP
   rw [wrs i (by omega)]
 ·unfold eR; rw [iN (be _)]
theorem yl {s : ae} (g : pu s) : bf (fun x => eN s (gZ s s.rules.length) x) 0 = some (dA s.out_.length (pJ s) ()) := by
 have hno := g.no
 have hnr := g.nr
 refine bo s.out_.length (pJ s) () (fun i hi => ?_) ?_
 ·unfold eN pJ
  rw [iP (ltI hi), iP (inI hi)]
  simp only [tN, ul, bSq]
  rw [wrs i (by omega), kq _ _ (by have := g.ni; omega)]
  simp only [bSq]
  rw [kq _ _ (by rw [nR s (by omega)]; omega)]
  simp only [bSq]
  rw [jf]
  by_cases hc : s.out_.getD i default ∈ s.in_
  ·rw [iP (by simpa using hc), iP (List.mem_append.2 (.inl hc))]
  ·rw [iN (by simpa using hc)]
   by_cases hd : s.out_.getD i default ∈ gZ s s.rules.length
   ·rw [iP (by simpa using hd), iP (List.mem_append.2 (.inr hd))]
   ·rw [iN (by simpa using hd), iN (fun h => (List.mem_append.1 h).elim hc hd)]
 ·unfold eN; rw [iN (be _)]
theorem un (s : ae) : jG s = some (je s) := by
 unfold jG je
 rw [uT]
 simp only [bSq]
 by_cases h : (mX s).code = 0
 ·have g := pL h
  simp only [h, not_true_eq_false, if_false]
  rw [bo s.rules.length (jq s) () (fun i hi => by rw [xh g hi]; cases jq s i <;> rfl) (by unfold eV; rw [iN (be _)])]
  simp only [bSq]
  rcases cm s.rules.length (jq s) () with ⟨e, h1⟩ | ⟨j, z, hj, hf, e⟩
  ·rw [e]
   simp only [Sum.elim_inl]
   unfold eT
   rw [ry (Nat.le_refl _) (by have := g.nr; omega)]
   simp only [bSq]
   rw [xi g h1]
   simp only [bSq]
   cases dA s.rules.length (kH s) () with
   | inr z => rfl
   | inl u =>
    simp only [Sum.elim_inl]
    unfold eO
    rw [yl g]
    simp only [bSq]
    cases dA s.out_.length (pJ s) () <;> rfl
  ·rw [e]; rfl
 ·simp only [h, not_false_eq_true, if_true]
structure iR (s : ae) : Prop where
 h : pu s
 r : ∀ i, i < s.rules.length → jX s (bx s i) (s.rules.getD i default) = 0
 u : ∀ i, i < s.rules.length → ∀ x ∈ cx (s.rules.getD i default), x ∈ bx s s.rules.length
 o : ∀ x ∈ s.out_, x ∈ bx s s.rules.length
theorem oK {s : ae} (h : (je s).code = 0) : iR s ∧ je s = ay.mk 0 0 := by
 unfold je at h ⊢
 by_cases h0 : (mX s).code = 0
 ·simp only [h0, not_true_eq_false, if_false] at h ⊢
  have g := pL h0
  rcases cm s.rules.length (jq s) () with ⟨e1, h1⟩ | ⟨j, z, hj, hf, e⟩
  ·simp only [e1] at h ⊢
   rcases cm s.rules.length (kH s) () with ⟨e2, h2⟩ | ⟨j, z, hj, hf, e⟩
   ·simp only [e2] at h ⊢
    rcases cm s.out_.length (pJ s) () with ⟨e3, h3⟩ | ⟨j, z, hj, hf, e⟩
    ·simp only [e3]
     refine ⟨⟨g, fun i hi => ?_, fun i hi x hx => ?_, fun x hx => ?_⟩, trivial⟩
     ·have := h1 i hi
      unfold jq at this
      by_cases hc : jX s (bx s i) (s.rules.getD i default) = 0
      ·exact hc
      ·simp only [iN hc] at this; cases this
     ·have := h2 i hi
      unfold kH at this
      refine Classical.byContradiction fun hc => ?_
      rw [iP ⟨x, hx, hc⟩] at this
      cases this
     ·obtain ⟨i, hi, rfl⟩ := List.mem_iff_getElem.1 hx
      have := h3 i hi
      unfold pJ at this
      have e2 : s.out_.getD i default = s.out_[i] := by simp [List.getD, hi]
      rw [e2] at this
      refine Classical.byContradiction fun hc => ?_
      rw [iN hc] at this
      cases this
    ·simp only [e] at h
     unfold pJ at hf
     split at hf
     ·cases hf
     ·simp only [sJ] at hf; subst hf; cases h
   ·simp only [e] at h
    unfold kH at hf
    split at hf
    ·simp only [sJ] at hf; subst hf; cases h
    ·cases hf
  ·simp only [e] at h
   unfold jq at hf
   by_cases hc : jX s (bx s j) (s.rules.getD j default) = 0
   ·simp only [iP hc] at hf; cases hf
   ·simp only [iN hc, sJ] at hf; subst hf; exact absurd h hc
 ·simp only [h0, not_false_eq_true, if_true] at h
def bP (r : ah) : List Int := if r.op = 13 ∧ (r.a.length : Int) = 2 then [r.a.getD 0 default] else cx r
theorem u5 {r : ah} {x : Int} (h : x ∈ bP r) : x ∈ cx r := by
 unfold bP at h
 split at h
 ·rename_i hc
  simp only [List.mem_singleton] at h
  subst h
  exact qc (bb (by omega))
 ·exact h
theorem rz (r : ah) : (bP r).length ≤ r.a.length + r.e.length := by
 unfold bP
 split
 ·simp; omega
 ·exact pM r
theorem xj (r : ah) (ha : r.a.length ≤ 100000) (he : r.e.length ≤ 100000) : kg r = some (bP r) := by
 have j1 : eD r = some (cx r) := by
  unfold eD cx
  by_cases h : r.op < 14
  ·rw [iP h, iP h]
   unfold eC
   rw [mO _ (by simp only; omega) (by simp)]
   rfl
  ·rw [iN h, iN h]
   unfold eC
   rw [mO _ (by simp only; omega) (by simp only; omega)]
   rfl
 unfold kg bP
 by_cases h1 : r.op = 13
 ·rw [iP h1]
  by_cases h2 : (r.a.length : Int) = 2
  ·rw [iP h2, iP (by omega), iP ⟨h1, h2⟩]; rfl
  ·rw [iN h2, iN (fun h => h2 h.2), j1]
 ·rw [iN h1, iN (fun h => h1 h.1), j1]
theorem uo (r : ah) (ha : r.a.length ≤ 100000) (he : r.e.length ≤ 100000) : mf r = some (bP r) := by
 have j1 : gE r = some (cx r) := by
  unfold gE
  rw [oJ r ha he]
  rfl
 unfold mf bP
 by_cases h1 : r.op = 13
 ·rw [iP h1]
  by_cases h2 : (r.a.length : Int) = 2
  ·rw [iP h2, iP (by omega), iP ⟨h1, h2⟩]; rfl
  ·rw [iN h2, iN (fun h => h2 h.2), j1]
 ·rw [iN h1, iN (fun h => h1 h.1), j1]
def rA (l : List Int) (r : ah) : Prop := ∀ x ∈ bP r, x ∈ l
instance (l : List Int) (r : ah) : Decidable (rA l r) := inferInstanceAs (Decidable (∀ x ∈ bP r, x ∈ l))
theorem xk {s : ae} {l : List Int} {r : ah} {a : List ap} {b c : List Int} {d : List ah} (hu : ∀ x ∈ bP r, inV s x) (ha : r.a.length ≤ 1000) (he : r.e.length ≤ 1000) :
  eE r a b c d (cw s l) = some (decide (rA l r)) := by
 unfold eE
 rw [xj r (by omega) (by omega)]
 simp only [bSq]
 unfold di dx
 have hn := rz r
 rw [bo (bP r).length (fun k => if (bP r).getD k default ∈ l then none else some (k : Int)) () (fun k hk => by
  have gk := hu _ (bb hk)
  have gk' := gk
  unfold inV at gk'
  unfold bU fj
  rw [iP (ltI hk), iP (inI hk)]
  simp only [tN]
  rw [f8, iP gk', wrs k (by omega)]
  simp only [bSq]
  by_cases hc : (bP r).getD k default ∈ l
  ·rw [(kS gk).2 hc, iP hc]; rfl
  ·have : (cw s l).getD ((bP r).getD k default).toNat default = false := by
    cases hh : (cw s l).getD ((bP r).getD k default).toNat default
    ·rfl
    ·exact absurd ((kS gk).1 hh) hc
   rw [this, iN hc]; rfl) (by unfold bU; rw [iN (be _)])]
 rcases cm (bP r).length (fun k => if (bP r).getD k default ∈ l then none else some (k : Int)) () with ⟨e, h⟩ | ⟨j, z, hj, hf, e⟩
 ·rw [e]
  have : rA l r := by
   intro x hx
   obtain ⟨i, hi, rfl⟩ := List.mem_iff_getElem.1 hx
   have := h i hi
   have e2 : (bP r).getD i default = (bP r)[i] := by simp [List.getD, hi]
   rw [e2] at this
   refine Classical.byContradiction fun hc => ?_
   rw [iN hc] at this; cases this
  simp only [this, decide_true]
  rfl
 ·rw [e]
  split at hf
  ·cases hf
  ·rename_i hc
   simp only [sJ] at hf
   have : ¬ rA l r := fun h => hc (h _ (bb hj))
   simp only [this, decide_false, ← hf]
   simp only [bSq, Sum.elim_inr]
   simp
def j7 (s : ae) : Prop := ∀ i, i < s.rules.length → rA (bx s i) (s.rules.getD i default)
instance (s : ae) : Decidable (j7 s) := inferInstanceAs (Decidable (∀ i, i < s.rules.length → rA (bx s i) (s.rules.getD i default)))
def oi (s : ae) (i : Nat) : Option Bool := if rA (bx s i) (s.rules.getD i default) then none else some false
theorem sG {T : Type} (s : ae) (t : T) : (match dA s.rules.length (oi s) t with | .inl _ => true | .inr z => z) = decide (j7 s) := by
 rcases cm s.rules.length (oi s) t with ⟨e, h⟩ | ⟨j, z, hj, hf, e⟩
 ·rw [e]
  have : j7 s := by
   intro i hi
   have := h i hi
   unfold oi at this
   refine Classical.byContradiction fun hc => ?_
   rw [iN hc] at this; cases this
  simp only [this, decide_true]
 ·rw [e]
  unfold oi at hf
  split at hf
  ·cases hf
  ·rename_i hc
   simp only [sJ] at hf
   have : ¬ j7 s := fun h => hc (h j hj)
   simp only [this, decide_false, ← hf]
theorem iR.rule {s : ae} (g : iR s) {i : Nat} (hi : i < s.rules.length) : ik s (s.rules.getD i default) ∧ (∀ x ∈ cx (s.rules.getD i default), inV s x) ∧ (s.rules.getD i default).a.length ≤ 3 ∧ ¬ (bx s i).contains (s.rules.getD i default).out_ = true ∧ ¬ bG (s.rules.getD i default).op < 0 ∧ ((s.rules.getD i default).a.length : Int) = bG (s.rules.getD i default).op := by
 obtain ⟨h1, h2, h3, h4, h5, h6, _⟩ := lu (g.r i hi)
 exact ⟨h1, h2, h3, h4, h5, h6⟩
theorem xl {s : ae} (g : iR s) : kf s = some (s.vars, s.in_, s.out_, s.rules, cw s s.in_) := by
 unfold kf
 rw [iP ⟨by omega, rm _ (by have := g.h.nv; omega)⟩, sF]
 have := fZ (S := List Bool × Int) (T := List Bool) (fun i => (cw s (s.in_.take i), (i : Int))) (body := fun x => dw s x.1 x.2) s.in_.length (cw s s.in_)
  (by
   intro i hi
   show dw s (cw s (s.in_.take i)) (i : Int) = _
   have gi := g.h.i _ (bb hi)
   have gi' := gi
   unfold inV at gi'
   unfold dw
   rw [iP (ltI hi), iP (inI hi)]
   simp only [tN]
   rw [f8, iP gi', nQ gi, wrs i (by have := g.h.ni; omega), cQ _ hi])
  (by
   show dw s (cw s (s.in_.take s.in_.length)) (s.in_.length : Int) = _
   unfold dw
   rw [iN (be _), List.take_length])
 show (bf (fun (x : List Bool × Int) => dw s x.1 x.2) (cw s [], 0)).bind (fun z => fV s z) = _
 rw [show s.in_.take 0 = [] from rfl, show ((0 : Nat) : Int) = 0 from rfl] at this
 rw [this]
 rfl
theorem wh {s : ae} (g : iR s) : jC s = some (decide (j7 s)) := by
 unfold jC
 rw [xl g]
 simp only [bSq]
 have e0 : bx s 0 = s.in_ := by simp [bx]
 have := pr (S := List Bool × Int) (T := List Bool) (Z := Bool) (fun i => (cw s (bx s i), (i : Int))) (body := fun x => cU s (s.vars, s.in_, s.out_, s.rules, cw s s.in_) x.1 x.2) s.rules.length (oi s) (cw s (bx s s.rules.length))
  (by
   intro i hi
   show cU s (s.vars, s.in_, s.out_, s.rules, cw s s.in_) (cw s (bx s i)) (i : Int) = _
   obtain ⟨gr, hu, ha, _⟩ := g.rule hi
   have he := gr.e
   have go := gr.o
   have go' := go
   unfold inV at go'
   unfold cU
   rw [iP (ltI hi), iP (inI hi)]
   simp only [tN]
   rw [xk (fun x hx => hu x (u5 hx)) (by omega) (by omega)]
   simp only [bSq]
   unfold oi
   by_cases hc : rA (bx s i) (s.rules.getD i default)
   ·simp only [hc, decide_true, if_true]
    rw [f8, iP go', nQ go, wrs i (by have := g.h.nr; omega), rt s hi]
   ·simp only [hc, decide_false, Bool.false_eq_true, if_false])
  (by
   show cU s (s.vars, s.in_, s.out_, s.rules, cw s s.in_) (cw s (bx s s.rules.length)) (s.rules.length : Int) = _
   unfold cU
   rw [iN (be _)])
 rw [e0, show ((0 : Nat) : Int) = 0 from rfl] at this
 show (bf (fun (x : List Bool × Int) => cU s (s.vars, s.in_, s.out_, s.rules, cw s s.in_) x.1 x.2) (cw s s.in_, 0)).bind (Sum.elim (fun z14 => eJ z14) (fun z15 => some z15)) = _
 rw [this]
 simp only [bSq]
 rw [← sG s (cw s (bx s s.rules.length))]
 cases dA s.rules.length (oi s) (cw s (bx s s.rules.length)) <;> rfl
def byL (i : Nat) : List Int := ug i (fun k => (k : Int))
theorem zw (s : ae) (y : Int) {i : Nat} (hi : i ≤ s.rules.length) : (byL i).any (fun x => (s.rules.getD x.toNat default).out_ == y) = (gZ s i).contains y := by
 induction i with
 | zero => rfl
 | succ i ih =>
  have e1 : byL (i + 1) = byL i ++ [(i : Int)] := sD _ _
  have e2 : gZ s (i + 1) = gZ s i ++ [(s.rules.getD i default).out_] := by unfold gZ; rw [cQ _ (by omega), List.map_append]; rfl
  rw [e1, e2, List.any_append, ih (by omega)]
  simp [Bool.beq_comm]
  grind
theorem up {T : Type} (p : T → Bool) : ∀ (l : List T) (b : Bool), l.foldl (fun b x => b || p x) b = (b || l.any p)
 | [], b => by simp
 | x :: l, b => by rw [List.foldl_cons, up p l]; simp [Bool.or_assoc]
theorem ym {s : ae} {r : ah} {i : Nat} (hi : i ≤ s.rules.length) (hn : s.rules.length ≤ 100000) (hin : s.in_.length ≤ 100000) (ha : r.a.length ≤ 1000) (he : r.e.length ≤ 1000) :
  mg s r (byL i) = some (decide (rA (bx s i) r)) := by
 unfold mg
 rw [uo r (by omega) (by omega)]
 simp only [bSq]
 have hnl := rz r
 have hbl : (byL i).length = i := uh _ _
 have inner : ∀ (k : Nat) (b : Bool), bf (fun (x : Bool × Int) => dO s (byL i) (bP r) (k : Int) x.1 x.2) (b, 0) = some (b || (gZ s i).contains ((bP r).getD k default)) := by
  intro k b
  obtain ⟨h1, _⟩ := kR (A := Bool) (T := Int) (O := Bool) (S := Bool × Int) (fun a i => (a, i)) (body := fun x => dO s (byL i) (bP r) (k : Int) x.1 x.2) (byL i)
   (fun b x => b || (s.rules.getD x.toNat default).out_ == (bP r).getD k default) (fun _ _ => True) (fun a => a) b trivial
   (by
    intro j a hj _
    refine ⟨?_, trivial⟩
    show dO s (byL i) (bP r) (k : Int) a (j : Int) = _
    unfold dO
    rw [iP (ltI hj), wrs j (by omega)]
    cases a
    ·have e : (byL i).getD j default = (j : Int) := xe (by omega)
     simp only [Bool.false_eq_true, if_false, tN, e]
     rw [iP ⟨inI hj, by omega⟩]
     simp
    ·simp)
   (by
    intro a _
    show dO s (byL i) (bP r) (k : Int) a ((byL i).length : Int) = _
    unfold dO
    rw [iN (be _)])
  rw [h1, up, zw s _ hi]
 rw [bo (bP r).length (fun k => if (bP r).getD k default ∈ bx s i then none else some false) () (fun k hk => by
  unfold jJ
  rw [iP (ltI hk), iP (inI hk)]
  simp only [tN]
  rw [kq _ _ (by omega)]
  simp only [bSq]
  show (bf (fun (x : Bool × Int) => dO s (byL i) (bP r) (k : Int) x.1 x.2) (s.in_.contains ((bP r).getD k default), 0)).bind (fun z13 => gF (k : Int) z13) = _
  rw [inner]
  simp only [bSq]
  unfold gF jI
  rw [wrs k (by omega)]
  by_cases hc : (bP r).getD k default ∈ bx s i
  ·have : (s.in_.contains ((bP r).getD k default) || (gZ s i).contains ((bP r).getD k default)) = true := by
    rw [jf] at hc
    rcases List.mem_append.1 hc with h | h
    ·rw [List.contains_iff_mem.2 h]; rfl
    ·rw [List.contains_iff_mem.2 h, Bool.or_true]
   rw [this, iP hc]; rfl
  ·have : (s.in_.contains ((bP r).getD k default) || (gZ s i).contains ((bP r).getD k default)) = false := by
    rw [jf] at hc
    rw [Bool.or_eq_false_iff]
    constructor
    ·cases hq : s.in_.contains ((bP r).getD k default)
     ·rfl
     ·exact absurd (List.mem_append.2 (.inl (List.contains_iff_mem.1 hq))) hc
    ·cases hq : (gZ s i).contains ((bP r).getD k default)
     ·rfl
     ·exact absurd (List.mem_append.2 (.inr (List.contains_iff_mem.1 hq))) hc
   rw [this, iN hc]; rfl) (by unfold jJ; rw [iN (be _)])]
 rw [pt (bP r) (fun x => x ∈ bx s i)]
 by_cases h : rA (bx s i) r
 ·have : ¬ ∃ x ∈ bP r, ¬ x ∈ bx s i := fun ⟨x, h1, h2⟩ => h2 (h x h1)
  simp only [iN this, h, decide_true]
  rfl
 ·have : ∃ x ∈ bP r, ¬ x ∈ bx s i := Classical.byContradiction fun hc => h (fun x hx => Classical.byContradiction fun hd => hc ⟨x, hx, hd⟩)
  simp only [iP this, h, decide_false]
  rfl
theorem tq {s : ae} (g : iR s) : jK s = some (decide (j7 s)) := by
 unfold jK
 have hnr := g.h.nr
 have := pr (S := List Int × Int) (T := Unit) (Z := Bool) (fun i => (byL i, (i : Int))) (body := fun x => cX s x.1 x.2) s.rules.length (oi s) ()
  (by
   intro i hi
   show cX s (byL i) (i : Int) = _
   obtain ⟨gr, hu, ha, _⟩ := g.rule hi
   have he := gr.e
   have hbl : (byL i).length = i := uh _ _
   unfold cX
   rw [iP (ltI hi), iP (inI hi)]
   simp only [tN]
   rw [ym (by omega) (by omega) (by have := g.h.ni; omega) (by omega) (by omega)]
   simp only [bSq]
   unfold oi
   by_cases hc : rA (bx s i) (s.rules.getD i default)
   ·simp only [hc, decide_true, if_true]
    rw [iP (rq _ (by omega)), wrs i (by omega)]
    have e1 : byL (i + 1) = byL i ++ [(i : Int)] := sD _ _
    rw [e1]
    rfl
   ·simp only [hc, decide_false, Bool.false_eq_true, if_false])
  (by
   show cX s (byL s.rules.length) (s.rules.length : Int) = _
   unfold cX
   rw [iN (be _)])
 rw [show byL 0 = [] from rfl, show ((0 : Nat) : Int) = 0 from rfl] at this
 show (bf (fun (x : List Int × Int) => cX s x.1 x.2) ([], 0)).bind (Sum.elim (fun _ => eW) (fun z17 => some z17)) = _
 rw [this]
 simp only [bSq]
 rw [← sG s ()]
 cases dA s.rules.length (oi s) () <;> rfl
theorem sH {s : ae} {n : Int} : ∀ {e : List aj} {rs rs' : List Int}, rn s n e rs = some rs' → ∀ p ∈ e, 1 ≤ p.op ∧ p.op ≤ 8
 | [], _, _, _, p, hp => by cases hp
 | q :: e, rs, rs', h, p, hp => by
  rw [rn] at h
  cases hq : d5 s n q rs with
  | none => rw [hq] at h; cases h
  | some rs2 =>
   rw [hq] at h
   rcases List.mem_cons.1 hp with rfl | hp
   ·unfold d5 at hq
    grind
   ·exact sH h p hp
theorem pN {s : ae} {n : Int} {e : List aj} (h : qa s n e ≠ 0) : ∀ p ∈ e, 1 ≤ p.op ∧ p.op ≤ 8 := by
 unfold qa at h
 split at h
 ·rename_i x hx; exact sH hx
 ·exact absurd rfl h
theorem yn {s : ae} {k o n x y : Int} {e : List aj} (hv : dW s) (h : ik s (ah.mk 12 k o n [x, y] e)) (hf : aE s (ah.mk 12 k o n [x, y] e) = some true) :
  (vOf s x).n + (vOf s y).n = (vOf s o).n := by
 have ho : inV s o := h.o
 have hx : inV s x := h.a x (by simp)
 have hy : inV s y := h.a y (by simp)
 rw [cl h.o (by simp) h.a] at hf
 have go := aT hv ho
 have gx := aT hv hx
 have gy := aT hv hy
 have hw := (wrd gx.2 gy.2).2
 simp only [aO, b8, ci, bSq, cn, List.length_cons, List.length_nil, List.getD_cons_zero, List.getD_cons_succ, ij, Nat.reduceAdd, Nat.reduceLT, if_true, if_false, reduceCtorEq, hw] at hf
 grind
theorem wi {s : ae} {k o n : Int} {e : List aj} (hv : dW s) (h : ik s (ah.mk 14 k o n [] e)) (hf : aE s (ah.mk 14 k o n [] e) = some true) : ∀ p ∈ e, 1 ≤ p.op ∧ p.op ≤ 8 := by
 have ho : inV s o := h.o
 rw [cl h.o (by simp) h.a] at hf
 have go := aT hv ho
 have hc := lr (c := 0) (r := ah.mk 14 k o n [] e) (o := vOf s o) (n := co (vOf s o).n) hv (h.u (by simp)) h.e go.1 (by unfold co; split <;> omega)
 refine pN (s := s) (n := co (vOf s o).n) ?_
 simp only [aO, b8, ci, bSq, cn, List.length_cons, List.length_nil, List.getD_cons_zero, List.getD_cons_succ, ij, Nat.reduceAdd, Nat.reduceLT, if_true, if_false, reduceCtorEq, dD, uV, hc.2] at hf
 have := go.1
 unfold okE at this
 grind
theorem wj {s : ae} {k o n x : Int} {e : List aj} (hv : dW s) (h : ik s (ah.mk 15 k o n [x] e)) (hf : aE s (ah.mk 15 k o n [x] e) = some true) : ∀ p ∈ e, 1 ≤ p.op ∧ p.op ≤ 8 := by
 have ho : inV s o := h.o
 have hx : inV s x := h.a x (by simp)
 rw [cl h.o (by simp) h.a] at hf
 have go := aT hv ho
 have hc := fun (hn : 1 ≤ n ∧ n ≤ 300) => lr (c := 0) (r := ah.mk 15 k o n [x] e) (o := vOf s o) (n := n) hv (h.u (by simp)) h.e go.1 hn
 refine pN (s := s) (n := n) ?_
 simp only [aO, b8, ci, bSq, cn, List.length_cons, List.length_nil, List.getD_cons_zero, List.getD_cons_succ, ij, Nat.reduceAdd, Nat.reduceLT, if_true, if_false, reduceCtorEq, dD, uV] at hf
 have := go.1
 unfold okE at this
 by_cases hn : 1 ≤ n ∧ n ≤ 300
 ·have h2 := (hc hn).2
  grind
 ·simp only [Int.reduceEq, reduceIte, b8, bSq] at hf
  grind
theorem wk {s : ae} {k o n x : Int} {e : List aj} (hv : dW s) (h : ik s (ah.mk 16 k o n [x] e)) (hf : aE s (ah.mk 16 k o n [x] e) = some true) : ∀ p ∈ e, 1 ≤ p.op ∧ p.op ≤ 8 := by
 have ho : inV s o := h.o
 have hx : inV s x := h.a x (by simp)
 rw [cl h.o (by simp) h.a] at hf
 have go := aT hv ho
 have hc := fun (hn : 1 ≤ (vOf s o).n) => lr (c := 0) (r := ah.mk 16 k o n [x] e) (o := vOf s o) (n := (vOf s o).n) hv (h.u (by simp)) h.e go.1 ⟨hn, go.2.2⟩
 refine pN (s := s) (n := (vOf s o).n) ?_
 by_cases hn : 1 ≤ (vOf s o).n
 ·have hcv : co (vOf s o).n = (vOf s o).n := by unfold co; rw [iN (by omega)]
  have h2 := (hc hn).2
  simp only [aO, b8, ci, bSq, cn, List.length_cons, List.length_nil, List.getD_cons_zero, List.getD_cons_succ, ij, Nat.reduceAdd, Nat.reduceLT, if_true, if_false, reduceCtorEq, dD, uV, hcv, h2] at hf
  have := go.1
  unfold okE at this
  grind
 ·simp only [aO, b8, ci, bSq, cn, List.length_cons, List.length_nil, List.getD_cons_zero, List.getD_cons_succ, ij, Nat.reduceAdd, Nat.reduceLT, if_true, if_false, reduceCtorEq, dD, uV] at hf
  grind
end Pam
namespace Pam
open Go
theorem sK {A T Z : Type} (P : T → Prop) (f : Nat → A → T → A ⊕ Z) (h : ∀ i a x a', f i a x = .inl a' → P x) : ∀ (l : List T) (i : Nat) (a b : A), lp f i l a = .inl b → ∀ x ∈ l, P x
 | [], i, a, b, _, x, hx => by cases hx
 | y :: l, i, a, b, he, x, hx => by
  rw [lp] at he
  cases hf : f i a y with
  | inr z => rw [hf] at he; cases he
  | inl a' =>
   rw [hf] at he
   rcases List.mem_cons.1 hx with rfl | hx
   ·exact h _ _ _ _ hf
   ·exact sK P f h l _ _ _ he x hx
theorem pO {A T Z : Type} (P : Z → Prop) (f : Nat → A → T → A ⊕ Z) (h : ∀ i a x z, f i a x = .inr z → P z) : ∀ (l : List T) (i : Nat) (a : A) (z : Z), lp f i l a = .inr z → P z
 | [], i, a, z, he => by cases he
 | y :: l, i, a, z, he => by
  rw [lp] at he
  cases hf : f i a y with
  | inr z' => rw [hf] at he; simp only [Sum.inr.injEq] at he; subst he; exact h _ _ _ _ hf
  | inl a' => rw [hf] at he; exact pO P f h l _ _ _ he
structure pw (s : ae) (m : Nat) : Prop where
 nv : s.vars.length ≤ m
 nr : s.rules.length ≤ m
 ni : s.in_.length ≤ m
 no : s.out_.length ≤ m
 r : ∀ r ∈ s.rules, r.a.length ≤ 100 ∧ r.e.length ≤ 1000
theorem xm (s : ae) (m : Nat) (hm : m ≤ 100000) : ∃ b, gN s (m : Int) = some b ∧ (b = false → pw s m) := by
 unfold gN
 by_cases h1 : (s.vars.length : Int) > m
 ·rw [iP h1]; exact ⟨true, rfl, fun h => by cases h⟩
 rw [iN h1]
 by_cases h2 : (s.rules.length : Int) > m
 ·rw [iP h2]; exact ⟨true, rfl, fun h => by cases h⟩
 rw [iN h2]
 by_cases h3 : (s.in_.length : Int) > m
 ·rw [iP h3]; exact ⟨true, rfl, fun h => by cases h⟩
 rw [iN h3]
 by_cases h4 : (s.out_.length : Int) > m
 ·rw [iP h4]; exact ⟨true, rfl, fun h => by cases h⟩
 rw [iN h4]
 obtain ⟨e1, _⟩ := mN (A := Int) (T := ap) (O := Int) (Z := Bool) (S := Int × Int) (fun a i => (a, i)) (body := fun x => ce s x.1 x.2) s.vars
  (fun _ a v => if v.n > 1000 then .inr true else .inl (IntKind.wrap .i64 (a + co v.n))) (fun _ _ => True) (fun a => a) 0 trivial
  (by
   intro i a hi _
   refine ⟨?_, fun _ _ => trivial⟩
   show ce s a (i : Int) = _
   unfold ce
   rw [iP (ltI hi), iP (inI hi)]
   simp only [tN, dD, bSq]
   rw [wrs i (by omega)]
   by_cases h : (s.vars.getD i default).n > 1000
   ·rw [iP h, iP h]
   ·rw [iN h, iN h])
  (by
   intro a _
   show ce s a (s.vars.length : Int) = _
   unfold ce
   rw [iN (be _)])
 show ∃ b, (bf (fun (x : Int × Int) => ce s x.1 x.2) (0, 0)).bind (Sum.elim (fun z18 => c9 s m z18) (fun z19 => some z19)) = some b ∧ _
 rw [e1]
 simp only [bSq]
 cases hE : lp (fun _ a v => if v.n > 1000 then .inr true else .inl (IntKind.wrap .i64 (a + co v.n))) 0 s.vars (0 : Int) with
 | inr z =>
  refine ⟨z, rfl, fun hz => ?_⟩
  have := pO (fun z => z = true) _ (fun i a x z h => by
   split at h
   ·simp only [Sum.inr.injEq] at h; exact h.symm
   ·cases h) _ _ _ _ hE
  rw [hz] at this; cases this
 | inl a0 =>
  simp only [Sum.elim_inl]
  unfold c9
  obtain ⟨e2, _⟩ := mN (A := Int) (T := ah) (O := Int) (Z := Bool) (S := Int × Int) (fun a i => (a, i)) (body := fun x => cd s x.1 x.2) s.rules
   (fun _ a r => if (r.a.length : Int) > 100 ∨ (r.e.length : Int) > 1000 ∨ (r.op = 15 ∧ r.n > 1000) then .inr true else .inl (IntKind.wrap .i64 (a + IntKind.wrap .i64 ((r.a.length : Int) + (r.e.length : Int))))) (fun _ _ => True) (fun a => a) a0 trivial
   (by
    intro i a hi _
    refine ⟨?_, fun _ _ => trivial⟩
    show cd s a (i : Int) = _
    unfold cd dI
    rw [iP (ltI hi), iP (inI hi)]
    simp only [tN]
    rw [wrs i (by omega)]
    by_cases h1 : ((s.rules.getD i default).a.length : Int) > 100
    ·rw [iP h1, iP (.inl h1)]
    ·rw [iN h1]
     by_cases h2 : ((s.rules.getD i default).e.length : Int) > 1000
     ·rw [iP h2, iP (.inr (.inl h2))]
     ·rw [iN h2]
      by_cases h3 : (s.rules.getD i default).op = 15
      ·rw [iP h3]
       by_cases h4 : (s.rules.getD i default).n > 1000
       ·rw [iP h4, iP (.inr (.inr ⟨h3, h4⟩))]
       ·rw [iN h4, iN (fun h => h.elim h1 (fun h => h.elim h2 (fun h => h4 h.2)))]
      ·rw [iN h3, iN (fun h => h.elim h1 (fun h => h.elim h2 (fun h => h3 h.1)))])
   (by
    intro a _
    show cd s a (s.rules.length : Int) = _
    unfold cd
    rw [iN (be _)])
  show ∃ b, (bf (fun (x : Int × Int) => cd s x.1 x.2) (a0, 0)).bind (Sum.elim (fun z9 => dH m z9) (fun z10 => some z10)) = some b ∧ _
  rw [e2]
  simp only [bSq]
  cases hF : lp (fun _ a r => if (r.a.length : Int) > 100 ∨ (r.e.length : Int) > 1000 ∨ (r.op = 15 ∧ r.n > 1000) then .inr true else .inl (IntKind.wrap .i64 (a + IntKind.wrap .i64 ((r.a.length : Int) + (r.e.length : Int))))) 0 s.rules a0 with
  | inr z =>
   refine ⟨z, rfl, fun hz => ?_⟩
   have := pO (fun z => z = true) _ (fun i a x z h => by
    split at h
    ·simp only [Sum.inr.injEq] at h; exact h.symm
    ·cases h) _ _ _ _ hF
   rw [hz] at this; cases this
  | inl a1 =>
   have hR := sK (fun r : ah => r.a.length ≤ 100 ∧ r.e.length ≤ 1000) _ (fun i a x a' h => by
    split at h
    ·cases h
    ·rename_i hc
     have h1 : ¬ (x.a.length : Int) > 100 := fun h => hc (.inl h)
     have h2 : ¬ (x.e.length : Int) > 1000 := fun h => hc (.inr (.inl h))
     omega) _ _ _ _ hF
   exact ⟨_, rfl, fun _ => ⟨by omega, by omega, by omega, by omega, hR⟩⟩
theorem uq (r : ah) (h : r.a.length ≤ 100 ∧ r.e.length ≤ 1000) : jz r = some r := by
 unfold jz
 have hm : maxLen = 9223372036854775807 := rfl
 rw [iP (by unfold cb; omega), iP (by unfold cb; omega)]
theorem yo {s : ae} {m : Nat} (h : pw s m) (hm : m ≤ 100000) : it s = some s := by
 unfold it
 have hx : maxLen = 9223372036854775807 := rfl
 have h1 := h.nv
 have h2 := h.nr
 have h3 := h.ni
 have h4 := h.no
 rw [iP ⟨by unfold cb; omega, by unfold cb; omega, by unfold cb; omega⟩]
 have := fZ (S := List ah × Int) (T := List ah) (fun i => (s.rules.take i, (i : Int))) (body := fun x => cp s x.1 x.2) s.rules.length s.rules
  (by
   intro i hi
   show cp s (s.rules.take i) (i : Int) = _
   unfold cp
   rw [iP (ltI hi), iP (inI hi)]
   simp only [tN]
   rw [uq _ (h.r _ (bb hi))]
   simp only [bSq]
   rw [iP (by unfold cb; simp; omega), wrs i (by omega), cQ _ hi]
   rfl)
  (by
   show cp s (s.rules.take s.rules.length) (s.rules.length : Int) = _
   unfold cp
   rw [iN (be _), List.take_length])
 show (bf (fun x => cp s x.1 x.2) ([], 0)).bind (fun z21 => dY s z21) = _
 have e0 : s.rules.take 0 = [] := rfl
 rw [e0] at this
 rw [show ((0 : Nat) : Int) = 0 from rfl] at this
 rw [this]
 rfl
theorem ks {n b : Nat} (h : n ≤ 200000) (hb : b ≤ 1000) : cb n b := by
 have hx : maxLen = 9223372036854775807 := rfl
 have : n * b ≤ 200000 * 1000 := Nat.mul_le_mul h hb
 unfold cb
 omega
def atV (p : aK) (v : Int) : Int := p.at_.getD v.toNat default
def ee (s : ae) (p : aK) (n : Int) (q : aj) : aj :=
 if q.op = 1 then ⟨1, 0, 0, q.n⟩
 else if q.op = 2 then ⟨2, 0, atV p q.v, 0⟩
 else if q.op = 3 then ⟨if n = 0 then 2 else 3, 0, IntKind.wrap .i64 (atV p q.v + q.n), 0⟩
 else if q.op = 4 then ⟨if n = 0 then 1 else 4, 0, 0, q.n⟩
 else if q.op = 8 then ⟨8, 0, atV p q.v, (vOf s q.v).n⟩
 else if q.op = 7 then ⟨7, 0, 0, 0⟩
 else ⟨q.op, q.k, 0, 0⟩
def atP (v n : Int) : aj := if n = 0 then ⟨2, 0, v, 0⟩ else ⟨3, 0, v, 0⟩
def jS (to n : Int) (e : List aj) : av := if n = 0 then ⟨1, 0, 0, to, [], e⟩ else ⟨2, 0, n, to, [], e⟩
theorem nD (v n : Int) : gO v n = some (atP v n) := by unfold gO atP; split <;> rfl
theorem rC (v n : Int) : fA v n = some (atP v n) := by unfold fA atP; split <;> rfl
theorem mo (to n : Int) (e : List aj) : gG to n e = some (jS to n e) := by unfold gG jS; split <;> rfl
theorem ur (to n : Int) (e : List aj) (l : List av) (hl : l.length ≤ 100000) (a b c d x y z w) : dJ to n e a b c d x y z l w = some (l ++ [jS to n e]) := by
 unfold dJ jS
 simp only [iP (ks (show l.length + 1 ≤ 200000 from by omega) (show 80 ≤ 1000 from by omega))]
 split <;> rfl
theorem nS (to n : Int) (e : List aj) (l : List av) (hl : l.length ≤ 100000) (a b c d x y z w) : bY to n a b c d x y z e l w = some (l ++ [jS to n e]) := by
 unfold bY jS
 simp only [iP (ks (show l.length + 1 ≤ 200000 from by omega) (show 80 ≤ 1000 from by omega))]
 split <;> rfl
theorem u6 {s : ae} {p : aK} {n : Int} {e : List aj} (hat : p.at_.length = s.vars.length) (hop : ∀ q ∈ e, 1 ≤ q.op ∧ q.op ≤ 8) (hu : ∀ q ∈ e, lq s q) {i : Nat} (hi : i < e.length) (l : List aj) (hl : l.length ≤ 100000) :
  bp e n s.vars p.at_ l (i : Int) = some (.inl (l ++ [ee s p n (e.getD i default)], ((i + 1 : Nat) : Int))) ∨ 9000000000 ≤ i := by
 rcases Nat.lt_or_ge i 9000000000 with hb | hb
 ·left
  have ho := hop _ (bb hi)
  have hv := hu _ (bb hi)
  have hr : cb (l.length + 1) 32 := ks (by omega) (by omega)
  have hw := wrs i (by omega)
  have h1 := ltI hi
  have h2 := inI hi
  unfold lq inV at hv
  simp only [bp, cP, cO, cM, cN, iP h1, iP h2, tN, hw, iP hr, hat]
  generalize e.getD i default = q at ho hv ⊢
  obtain ⟨op, k, v, m⟩ := q
  simp only at ho hv ⊢
  have : op = 1 ∨ op = 2 ∨ op = 3 ∨ op = 4 ∨ op = 5 ∨ op = 6 ∨ op = 7 ∨ op = 8 := by omega
  rcases this with rfl | rfl | rfl | rfl | rfl | rfl | rfl | rfl
  ·simp only [ee, if_true]; rw [show ((1 : Int) == 1) = true from rfl]; simp only [if_true]; split <;> rfl
  ·have hv := hv (by omega)
   simp only [ee, Int.reduceEq, if_false, if_true]
   rw [show ((2 : Int) == 4) = false from rfl, show ((2 : Int) == 2) = true from rfl]
   simp only [if_true, Bool.false_eq_true, if_false, iP hv]
   split <;> rfl
  ·have hv := hv (by omega)
   simp only [ee, Int.reduceEq, if_false, if_true]
   rw [show ((3 : Int) == 4) = false from rfl, show ((3 : Int) == 3) = true from rfl]
   simp only [if_true, Bool.false_eq_true, if_false, iP hv]
   split <;> rfl
  ·simp only [ee, Int.reduceEq, if_false, if_true]
   rw [show ((4 : Int) == 4) = true from rfl]
   simp only [if_true]
   split <;> rfl
  ·simp only [ee, Int.reduceEq, if_false, if_true]
   rw [show ((5 : Int) == 4) = false from rfl, show ((5 : Int) == 3) = false from rfl, show ((5 : Int) == 5) = true from rfl]
   simp only [if_true, Bool.false_eq_true, if_false]
   rfl
  ·simp only [ee, Int.reduceEq, if_false, if_true]
   rw [show ((6 : Int) == 4) = false from rfl, show ((6 : Int) == 3) = false from rfl, show ((6 : Int) == 6) = true from rfl]
   simp only [if_true, Bool.false_eq_true, if_false]
   rfl
  ·simp only [ee, Int.reduceEq, if_false, if_true]
   rw [show ((7 : Int) == 4) = false from rfl, show ((7 : Int) == 3) = false from rfl, show ((7 : Int) == 6) = false from rfl]
   simp only [Bool.false_eq_true, if_false]
   rfl
  ·have hv := hv (by omega)
   simp only [ee, Int.reduceEq, if_false, if_true]
   rw [show ((8 : Int) == 4) = false from rfl, show ((8 : Int) == 3) = false from rfl]
   simp only [Bool.false_eq_true, if_false, iP (show (0 ≤ v ∧ v < (s.vars.length : Int)) ∧ (0 ≤ v ∧ v < (s.vars.length : Int)) from ⟨hv, hv⟩)]
   rfl
 ·exact .inr hb
theorem u7 {s : ae} {p : aK} {n : Int} {e : List aj} (hat : p.at_.length = s.vars.length) (hop : ∀ q ∈ e, 1 ≤ q.op ∧ q.op ≤ 8) (hu : ∀ q ∈ e, lq s q) {i : Nat} (hi : i < e.length) (hb : i < 9000000000) (l : List aj) (hl : l.length ≤ 100000) :
  ck s p e n l (i : Int) = some (.inl (l ++ [ee s p n (e.getD i default)], ((i + 1 : Nat) : Int))) := by
 have ho := hop _ (bb hi)
 have hv := hu _ (bb hi)
 have hr : cb (l.length + 1) 32 := ks (by omega) (by omega)
 have hw := wrs i (by omega)
 have h1 := ltI hi
 have h2 := inI hi
 unfold lq inV at hv
 simp only [ck, iP h1, iP h2, tN, hw, iP hr, hat]
 generalize e.getD i default = q at ho hv ⊢
 obtain ⟨op, k, v, m⟩ := q
 simp only at ho hv ⊢
 have : op = 1 ∨ op = 2 ∨ op = 3 ∨ op = 4 ∨ op = 5 ∨ op = 6 ∨ op = 7 ∨ op = 8 := by omega
 rcases this with rfl | rfl | rfl | rfl | rfl | rfl | rfl | rfl
 ·simp only [ee, if_true]; rfl
 ·have hv := hv (by omega)
  simp only [ee, Int.reduceEq, if_false, if_true, iP hv]
  rfl
 ·have hv := hv (by omega)
  simp only [ee, Int.reduceEq, if_false, if_true, iP hv]
  split <;> rfl
 ·simp only [ee, Int.reduceEq, if_false, if_true]
  split <;> rfl
 ·simp only [ee, Int.reduceEq, if_false]; rfl
 ·simp only [ee, Int.reduceEq, if_false]; rfl
 ·simp only [ee, Int.reduceEq, if_false, if_true]; rfl
 ·have hv := hv (by omega)
  simp only [ee, Int.reduceEq, if_false, if_true, iP (show (0 ≤ v ∧ v < (s.vars.length : Int)) ∧ (0 ≤ v ∧ v < (s.vars.length : Int)) from ⟨hv, hv⟩)]
  rfl
theorem rD {s : ae} {p : aK} {n : Int} {e : List aj} (hat : p.at_.length = s.vars.length) (hop : ∀ q ∈ e, 1 ≤ q.op ∧ q.op ≤ 8) (hu : ∀ q ∈ e, lq s q) (he : e.length ≤ 1000) (a b c d x y z) :
  da e n s.vars a b c p.at_ d x y z = some (e.map (ee s p n)) := by
 unfold da
 have := fZ (S := List aj × Int) (T := List aj) (fun i => ((e.take i).map (ee s p n), (i : Int))) (body := fun x => bp e n s.vars p.at_ x.1 x.2) e.length (e.map (ee s p n))
  (by
   intro i hi
   show bp e n s.vars p.at_ ((e.take i).map (ee s p n)) (i : Int) = _
   rcases u6 (n := n) hat hop hu hi ((e.take i).map (ee s p n)) (by rw [List.length_map, List.length_take]; omega) with h | h
   ·rw [h, cQ _ hi, List.map_append]; rfl
   ·omega)
  (by
   show bp e n s.vars p.at_ ((e.take e.length).map (ee s p n)) (e.length : Int) = _
   unfold bp
   rw [iN (be _), List.take_length])
 simp only [List.take_zero, List.map_nil] at this
 rw [show ((0 : Nat) : Int) = 0 from rfl] at this
 show (bf (fun (x : List aj × Int) => bp e n s.vars p.at_ x.1 x.2) ([], 0)).bind _ = _
 rw [this]
 rfl
theorem rE {s : ae} {p : aK} {n : Int} {e : List aj} (hat : p.at_.length = s.vars.length) (hop : ∀ q ∈ e, 1 ≤ q.op ∧ q.op ≤ 8) (hu : ∀ q ∈ e, lq s q) (he : e.length ≤ 1000) :
  hU s p e n = some (e.map (ee s p n)) := by
 unfold hU
 have := fZ (S := List aj × Int) (T := List aj) (fun i => ((e.take i).map (ee s p n), (i : Int))) (body := fun x => ck s p e n x.1 x.2) e.length (e.map (ee s p n))
  (by
   intro i hi
   show ck s p e n ((e.take i).map (ee s p n)) (i : Int) = _
   rw [u7 (n := n) hat hop hu hi (by omega) ((e.take i).map (ee s p n)) (by rw [List.length_map, List.length_take]; omega), cQ _ hi, List.map_append]
   rfl)
  (by
   show ck s p e n ((e.take e.length).map (ee s p n)) (e.length : Int) = _
   unfold ck
   rw [iN (be _), List.take_length])
 simp only [List.take_zero, List.map_nil] at this
 rw [show ((0 : Nat) : Int) = 0 from rfl] at this
 show (bf (fun (x : List aj × Int) => ck s p e n x.1 x.2) ([], 0)).bind _ = _
 rw [this]
 rfl
def inA (p : aK) (a n : Int) : Prop := a ≥ 1 ∧ a ≤ p.cells - co n
instance (p : aK) (a n : Int) : Decidable (inA p a n) := inferInstanceAs (Decidable (_ ∧ _))
def mY (s : ae) (p : aK) (i : Nat) : Prop :=
 inA p (atV p (s.rules.getD i default).out_) (vOf s (s.rules.getD i default).out_).n ∧
 (if (s.rules.getD i default).op = 13 then inA p (p.keep.getD i default) (vOf s (s.rules.getD i default).out_).n else p.keep.getD i default < 0)
instance (s : ae) (p : aK) (i : Nat) : Decidable (mY s p i) := by unfold mY; exact inferInstance
def jY (s : ae) (p : aK) (k : Nat) : Prop := inA p (atV p (s.in_.getD k default)) (vOf s (s.in_.getD k default)).n
instance (s : ae) (p : aK) (k : Nat) : Decidable (jY s p k) := by unfold jY; exact inferInstance
structure sL (s : ae) (p : aK) : Prop where
 at_ : p.at_.length = s.vars.length
 keep : p.keep.length = s.rules.length
 c : 1 ≤ p.cells ∧ p.cells ≤ 6000
 r : ∀ i, i < s.rules.length → mY s p i
 i : ∀ k, k < s.in_.length → jY s p k
theorem sM (n : Int) : jl n = some (co n) := rfl
theorem tt {s : ae} {p : aK} (hc : 1 ≤ p.cells ∧ p.cells ≤ 6000) {a n : Int} (hn : 0 ≤ n ∧ n ≤ 300) : gD a n p = some (decide (inA p a n)) := by
 have h1 : 1 ≤ co n ∧ co n ≤ 300 := by unfold co; split <;> omega
 unfold gD
 rw [sM]
 simp only [bSq]
 rw [wr (by omega) (by omega)]
 by_cases h : a ≥ 1
 ·rw [iP h]; congr 1; rw [decide_eq_decide]; unfold inA; exact ⟨fun x => ⟨h, x⟩, fun x => x.2⟩
 ·rw [iN h]; congr 1; symm; exact dF (fun x => h x.1)
theorem tu {s : ae} {p : aK} (hc : 1 ≤ p.cells ∧ p.cells ≤ 6000) {a n : Int} (hn : 0 ≤ n ∧ n ≤ 300) : gf p a n = some (decide (inA p a n)) := by
 have h1 : 1 ≤ co n ∧ co n ≤ 300 := by unfold co; split <;> omega
 unfold gf
 rw [dD]
 simp only [bSq]
 rw [wr (by omega) (by omega)]
 by_cases h : a ≥ 1
 ·rw [iP h]; congr 1; rw [decide_eq_decide]; unfold inA; exact ⟨fun x => ⟨h, x⟩, fun x => x.2⟩
 ·rw [iN h]; congr 1; symm; exact dF (fun x => h x.1)
theorem u9 {s : ae} {p : aK} (g : iR s) (hat : p.at_.length = s.vars.length) (hk : p.keep.length = s.rules.length) (hc : 1 ≤ p.cells ∧ p.cells ≤ 6000) {i : Nat} (hi : i < s.rules.length) :
  hM s p (i : Int) = some (if mY s p i then .inl ((i + 1 : Nat) : Int) else .inr (.inr false)) := by
 have hn := g.h.nr
 obtain ⟨gr, _⟩ := g.rule hi
 have go := (aT g.h.v gr.o).2
 have ho := gr.o
 unfold inV at ho
 unfold hM
 rw [iP (ltI hi), iP (inI hi)]
 simp only [tN, hat, hk, cn]
 rw [iP ⟨ho, ho⟩, tt (s := s) hc go]
 simp only [bSq]
 show (if decide (inA p (atV p (s.rules.getD i default).out_) (vOf s (s.rules.getD i default).out_).n) = true then _ else _) = _
 have hkk : inA p (p.keep.getD i default) (vOf s (s.rules.getD i default).out_).n → p.keep.getD i default ≥ 0 := fun h => by have := h.1; omega
 rw [wrs i (by omega)]
 by_cases h1 : inA p (atV p (s.rules.getD i default).out_) (vOf s (s.rules.getD i default).out_).n
 ·rw [iP (dT h1), iP (inI hi)]
  by_cases h13 : (s.rules.getD i default).op = 13
  ·have e13 : ((s.rules.getD i default).op == 13) = true := eQ h13
   rw [e13]
   by_cases h2 : p.keep.getD i default ≥ 0
   ·rw [dT h2, iP rfl, iP h13, tt (s := s) hc go]
    simp only [bSq]
    by_cases h3 : inA p (p.keep.getD i default) (vOf s (s.rules.getD i default).out_).n
    ·rw [iP (dT h3), iP ⟨h1, by rw [iP h13]; exact h3⟩]
    ·rw [iN (by rw [dF h3]; decide), iN (fun h => by have := h.2; rw [iP h13] at this; exact h3 this)]
   ·rw [dF h2, iN (by decide), iN (fun h => by have := h.2; rw [iP h13] at this; exact h2 (hkk this))]
  ·have e13 : ((s.rules.getD i default).op == 13) = false := nB h13
   rw [e13]
   by_cases h2 : p.keep.getD i default ≥ 0
   ·rw [dT h2, iN (by decide), iN (fun h => by have := h.2; rw [iN h13] at this; omega)]
   ·rw [dF h2, iP rfl, iN h13, iP ⟨h1, by rw [iN h13]; omega⟩]
 ·rw [iN (by rw [dF h1]; decide), iN (fun h => h1 h.1)]
theorem va {s : ae} {p : aK} (g : iR s) (hat : p.at_.length = s.vars.length) (hk : p.keep.length = s.rules.length) (hc : 1 ≤ p.cells ∧ p.cells ≤ 6000) {i : Nat} (hi : i < s.rules.length) :
  eX s p (i : Int) = some (if mY s p i then .inl ((i + 1 : Nat) : Int) else .inr (.inr false)) := by
 have hn := g.h.nr
 obtain ⟨gr, _⟩ := g.rule hi
 have go := (aT g.h.v gr.o).2
 have ho := gr.o
 unfold inV at ho
 unfold eX
 rw [iP (ltI hi), iP (inI hi)]
 simp only [tN, hat, hk, cn]
 rw [iP ⟨ho, ho⟩, tu (s := s) hc go]
 simp only [bSq]
 show (if decide (inA p (atV p (s.rules.getD i default).out_) (vOf s (s.rules.getD i default).out_).n) = true then _ else _) = _
 rw [wrs i (by omega)]
 by_cases h1 : inA p (atV p (s.rules.getD i default).out_) (vOf s (s.rules.getD i default).out_).n
 ·rw [iP (dT h1)]
  by_cases h13 : (s.rules.getD i default).op = 13
  ·rw [iN (by simpa using h13), iP h13, iP (inI hi), tu (s := s) hc go]
   simp only [bSq]
   by_cases h3 : inA p (p.keep.getD i default) (vOf s (s.rules.getD i default).out_).n
   ·rw [iP (dT h3), iP ⟨h1, by rw [iP h13]; exact h3⟩]
   ·rw [iN (by rw [dF h3]; decide), iN (fun h => by have := h.2; rw [iP h13] at this; exact h3 this)]
  ·rw [iP h13, iP (inI hi)]
   by_cases h2 : p.keep.getD i default ≥ 0
   ·rw [iP h2, iN (fun h => by have := h.2; rw [iN h13] at this; omega)]
   ·rw [iN h2, iN h13, iP ⟨h1, by rw [iN h13]; omega⟩]
 ·rw [iN (by rw [dF h1]; decide), iN (fun h => h1 h.1)]
theorem pP {n : Nat} {q : Nat → Prop} [DecidablePred q] {f : Nat → Option Bool} (hf : ∀ i, i < n → f i = if q i then none else some false) : dA n f () = if (∀ i, i < n → q i) then .inl () else .inr false := by
 rcases cm n f () with ⟨e, h⟩ | ⟨j, z, hj, hz, e⟩
 ·rw [e, iP (fun i hi => ?_)]
  have := h i hi
  rw [hf i hi] at this
  by_cases hq : q i
  ·exact hq
  ·rw [iN hq] at this; cases this
 ·rw [e]
  rw [hf j hj] at hz
  by_cases hq : q j
  ·rw [iP hq] at hz; cases hz
  ·rw [iN hq, sJ] at hz
   rw [iN (fun h => hq (h j hj)), hz]
theorem mq {s : ae} (g : iR s) {k : Nat} (hk : k < s.in_.length) : inV s (s.in_.getD k default) := g.h.i _ (bb hk)
theorem xn {s : ae} {p : aK} (g : iR s) (hat : p.at_.length = s.vars.length) (hc : 1 ≤ p.cells ∧ p.cells ≤ 6000) : fI s p = some (decide (∀ k, k < s.in_.length → jY s p k)) := by
 have hn := g.h.ni
 unfold fI cK dy
 rw [bo s.in_.length (fun k => if jY s p k then none else some (k : Int)) () (fun k hk => by
  have gi := mq g hk
  have gn := (aT g.h.v gi).2
  unfold inV at gi
  unfold bW kK
  rw [iP (ltI hk), iP (inI hk)]
  simp only [tN, hat, cn]
  rw [iP ⟨gi, gi⟩, tt (s := s) hc gn, wrs k (by omega)]
  simp only [bSq]
  show (if (!decide (jY s p k)) = true then _ else _) = _
  by_cases h : jY s p k
  ·rw [dT h, iP h]; rfl
  ·rw [dF h, iN h]; rfl) (by unfold bW; rw [iN (be _)])]
 rcases cm s.in_.length (fun k => if jY s p k then none else some (k : Int)) () with ⟨e, h⟩ | ⟨j, z, hj, hz, e⟩
 ·rw [e]
  have : ∀ k, k < s.in_.length → jY s p k := fun k hk => by
   have := h k hk
   by_cases hq : jY s p k
   ·exact hq
   ·rw [iN hq] at this; cases this
  rw [dT this]
  rfl
 ·rw [e]
  have hnq : ¬ jY s p j := fun hq => by rw [iP hq] at hz; cases hz
  rw [iN hnq, sJ] at hz
  have : ¬ ∀ k, k < s.in_.length → jY s p k := fun h => hnq (h j hj)
  rw [dF this, ← hz]
  simp only [bSq, Sum.elim_inr]
  rw [dT (by omega)]
  rfl
def vz (s : ae) (p : aK) : Prop := p.at_.length = s.vars.length ∧ p.keep.length = s.rules.length ∧ 1 ≤ p.cells ∧ p.cells ≤ 6000
instance (s : ae) (p : aK) : Decidable (vz s p) := inferInstanceAs (Decidable (_ ∧ _))
def py (s : ae) (p : aK) : Bool := decide (vz s p ∧ (∀ i, i < s.rules.length → mY s p i) ∧ (∀ k, k < s.in_.length → jY s p k))
theorem ut {s : ae} {p : aK} (h : py s p = true) : sL s p := by
 obtain ⟨⟨h1, h2, h3, h4⟩, h5, h6⟩ := of_decide_eq_true h
 exact ⟨h1, h2, ⟨h3, h4⟩, h5, h6⟩
theorem xo {s : ae} {p : aK} (g : iR s) : lg s p = some (py s p) := by
 unfold lg py
 by_cases h : vz s p
 ·obtain ⟨h1, h2, h3, h4⟩ := h
  rw [iN (by omega), iN (by omega), iN (by omega), iN (by omega)]
  rw [bo s.rules.length (fun i => if mY s p i then none else some false) () (fun i hi => by
   rw [u9 g h1 h2 ⟨h3, h4⟩ hi]; split <;> rfl) (by unfold hM; rw [iN (be _)])]
  rw [pP (q := fun i => mY s p i) (fun _ _ => rfl)]
  by_cases hr : ∀ i, i < s.rules.length → mY s p i
  ·rw [iP hr]
   simp only [bSq, Sum.elim_inl]
   rw [xn g h1 ⟨h3, h4⟩]
   congr 1
   rw [decide_eq_decide]
   exact ⟨fun x => ⟨⟨h1, h2, h3, h4⟩, hr, x⟩, fun x => x.2.2⟩
  ·rw [iN hr, dF (fun x => hr x.2.1)]
   rfl
 ·rw [dF (fun x => h x.1)]
  by_cases h1 : ¬ (p.at_.length : Int) = (s.vars.length : Int)
  ·rw [iP h1]
  ·rw [iN h1]
   by_cases h2 : ¬ (p.keep.length : Int) = (s.rules.length : Int)
   ·rw [iP h2]
   ·rw [iN h2]
    by_cases h3 : p.cells < 1
    ·rw [iP h3]
    ·rw [iN h3, iP (Classical.byContradiction fun h4 => h ⟨by omega, by omega, by omega, by omega⟩)]
theorem xp {s : ae} {p : aK} (g : iR s) : jL s p = some (py s p) := by
 have hn := g.h.ni
 unfold jL py
 by_cases h : vz s p
 ·obtain ⟨h1, h2, h3, h4⟩ := h
  rw [iN (by omega), iN (by omega), iN (by omega), iN (by omega)]
  rw [bo s.in_.length (fun i => if jY s p i then none else some false) () (fun k hk => by
   have gi := mq g hk
   have gn := (aT g.h.v gi).2
   unfold inV at gi
   unfold gV
   rw [iP (ltI hk)]
   simp only [tN, h1, cn]
   rw [iP ⟨inI hk, gi, gi⟩, tu (s := s) ⟨h3, h4⟩ gn, wrs k (by omega)]
   simp only [bSq]
   show (if decide (jY s p k) = true then _ else _) = _
   by_cases h : jY s p k
   ·rw [dT h, iP h]; rfl
   ·rw [dF h, iN h]; rfl) (by unfold gV; rw [iN (be _)])]
  rw [pP (q := fun i => jY s p i) (fun _ _ => rfl)]
  by_cases hr : ∀ i, i < s.in_.length → jY s p i
  ·rw [iP hr]
   simp only [bSq, Sum.elim_inl]
   unfold eY
   rw [bo s.rules.length (fun i => if mY s p i then none else some false) () (fun i hi => by
    rw [va g h1 h2 ⟨h3, h4⟩ hi]; split <;> rfl) (by unfold eX; rw [iN (be _)])]
   rw [pP (q := fun i => mY s p i) (fun _ _ => rfl)]
   by_cases hq : ∀ i, i < s.rules.length → mY s p i
   ·rw [iP hq, dT ⟨⟨h1, h2, h3, h4⟩, hq, hr⟩]
    rfl
   ·rw [iN hq, dF (fun x => hq x.2.1)]
    rfl
  ·rw [iN hr, dF (fun x => hr x.2.2)]
   rfl
 ·rw [dF (fun x => h x.1)]
  by_cases h1 : ¬ (p.at_.length : Int) = (s.vars.length : Int)
  ·rw [iP h1]
  ·rw [iN h1]
   by_cases h2 : ¬ (p.keep.length : Int) = (s.rules.length : Int)
   ·rw [iP h2]
   ·rw [iN h2]
    by_cases h3 : p.cells < 1
    ·rw [iP h3]
    ·rw [iN h3, iP (Classical.byContradiction fun h4 => h ⟨by omega, by omega, by omega, by omega⟩)]
def mr (s : ae) (p : aK) (i : Nat) : Option (List av) :=
 if (s.rules.getD i default).op = 14 then some [jS (atV p (s.rules.getD i default).out_) (vOf s (s.rules.getD i default).out_).n ((s.rules.getD i default).e.map (ee s p (vOf s (s.rules.getD i default).out_).n))]
 else if (s.rules.getD i default).op = 15 then some [⟨3, (s.rules.getD i default).k, (s.rules.getD i default).n, atV p (s.rules.getD i default).out_, [⟨2, 0, atV p ((s.rules.getD i default).a.getD 0 default), 0⟩], (s.rules.getD i default).e.map (ee s p (s.rules.getD i default).n)⟩]
 else if (s.rules.getD i default).op = 16 then some [⟨4, (s.rules.getD i default).k, (vOf s (s.rules.getD i default).out_).n, atV p (s.rules.getD i default).out_, [⟨2, 0, atV p ((s.rules.getD i default).a.getD 0 default), 0⟩], (s.rules.getD i default).e.map (ee s p (vOf s (s.rules.getD i default).out_).n)⟩]
 else if (s.rules.getD i default).op = 12 then some [jS (atV p (s.rules.getD i default).out_) (vOf s ((s.rules.getD i default).a.getD 0 default)).n [atP (atV p ((s.rules.getD i default).a.getD 0 default)) (vOf s ((s.rules.getD i default).a.getD 0 default)).n],
  jS (IntKind.wrap .i64 (atV p (s.rules.getD i default).out_ + (vOf s ((s.rules.getD i default).a.getD 0 default)).n)) (vOf s ((s.rules.getD i default).a.getD 1 default)).n [atP (atV p ((s.rules.getD i default).a.getD 1 default)) (vOf s ((s.rules.getD i default).a.getD 1 default)).n]]
 else if (s.rules.getD i default).op = 13 then some [jS (atV p (s.rules.getD i default).out_) (vOf s (s.rules.getD i default).out_).n [⟨2, 0, 0, 0⟩, atP (p.keep.getD i default) (vOf s (s.rules.getD i default).out_).n, atP (atV p ((s.rules.getD i default).a.getD 0 default)) (vOf s (s.rules.getD i default).out_).n, ⟨7, 0, 0, 0⟩]]
 else none
def rF (s : ae) (p : aK) (i : Nat) : List av :=
 if (s.rules.getD i default).op = 13 then [jS (p.keep.getD i default) (vOf s (s.rules.getD i default).out_).n [atP (atV p ((s.rules.getD i default).a.getD 1 default)) (vOf s (s.rules.getD i default).out_).n]] else []
theorem xq {l : List Int} (h : l.length = 1) : ∃ x, l = [x] := by
 match l, h with
 | [x], _ => exact ⟨x, rfl⟩
theorem zx {l : List Int} (h : l.length = 2) : ∃ x y, l = [x, y] := by
 match l, h with
 | [x, y], _ => exact ⟨x, y, rfl⟩
structure xr (s : ae) (r : ah) : Prop where
 o : inV s r.out_
 a : ∀ x ∈ r.a, inV s x
 u : ∀ q ∈ r.e, 14 ≤ r.op → lq s q
 e : r.e.length ≤ 24
 op : ∀ q ∈ r.e, 14 ≤ r.op → 1 ≤ q.op ∧ q.op ≤ 8
 l15 : r.op = 15 ∨ r.op = 16 → r.a.length = 1
 l12 : r.op = 12 ∨ r.op = 13 → r.a.length = 2
 c : r.op = 12 → (vOf s (r.a.getD 0 default)).n + (vOf s (r.a.getD 1 default)).n = (vOf s r.out_).n
theorem iR.norm {s : ae} (g : iR s) {i : Nat} (hi : i < s.rules.length) : xr s (s.rules.getD i default) := by
 obtain ⟨gr, hu, ha, _, hp, hl, hf⟩ := lu (g.r i hi)
 have hv := g.h.v
 revert gr hu ha hp hl hf
 generalize s.rules.getD i default = r
 intro gr hu ha hp hl hf
 have hop : 1 ≤ r.op ∧ r.op ≤ 16 := by
  unfold bG at hp
  by_cases h : 1 ≤ r.op ∧ r.op ≤ 16
  ·exact h
  ·rw [iN h] at hp; omega
 obtain ⟨op, k, o, n, a, e⟩ := r
 simp only at hop hl ⊢
 have L : ∀ m : Int, (([0,0,1,1,2,3,2,2,1,3,3,1,2,2,0,1,1] : List Int).getD op.toNat 0 = m) → (a.length : Int) = m := fun m h => by
  rw [hl]
  unfold bG
  rw [iP hop]
  exact h
 refine ⟨gr.o, gr.a, fun q hq ho => gr.u ho q hq, gr.e, ?_, ?_, ?_, ?_⟩
 ·intro q hq ho
  simp only at hq ho
  have : op = 14 ∨ op = 15 ∨ op = 16 := by omega
  rcases this with rfl | rfl | rfl
  ·have h0 := L 0 rfl
   have : a = [] := List.eq_nil_of_length_eq_zero (by omega)
   subst this
   exact wi hv gr hf q hq
  ·have h0 := L 1 rfl
   obtain ⟨x, rfl⟩ := xq (l := a) (by omega)
   exact wj hv gr hf q hq
  ·have h0 := L 1 rfl
   obtain ⟨x, rfl⟩ := xq (l := a) (by omega)
   exact wk hv gr hf q hq
 ·rintro (h | h) <;> (simp only at h; subst h; have := L 1 rfl; simp only; omega)
 ·rintro (h | h) <;> (simp only at h; subst h; have := L 2 rfl; simp only; omega)
 ·intro h
  simp only at h
  subst h
  have h0 := L 2 rfl
  obtain ⟨x, y, rfl⟩ := zx (l := a) (by omega)
  exact yn hv gr hf
theorem xt {s : ae} {p : aK} (g : iR s) (f : sL s p) {i : Nat} (hi : i < s.rules.length) (l : List av) (hl : l.length ≤ 90000) :
  eF (i : Int) (s.rules.getD i default) s.vars s.in_ s.out_ s.rules p.at_ p.keep p.cells l [] = some (match mr s p i with | some x => (true, l ++ x) | none => (false, l)) := by
 have N := g.norm hi
 have hat := f.at_
 have hk := f.keep
 have gv := g.h.v
 unfold eF mr
 revert N
 generalize s.rules.getD i default = r
 intro N
 have ho := N.o
 have go := (aT gv ho).2
 unfold inV at ho
 have hr : cb (l.length + 1) 80 := ks (by omega) (by omega)
 rw [hat]
 simp only [cn]
 rw [iP ⟨ho, ho⟩]
 by_cases h14 : r.op = 14
 ·rw [iP h14, iP h14, rD hat (fun q hq => N.op q hq (by omega)) (fun q hq => N.u q hq (by omega)) (by have := N.e; omega)]
  simp only [bSq]
  rw [ur _ _ _ _ (by omega)]
  rfl
 rw [iN h14, iN h14]
 by_cases h15 : r.op = 15
 ·have hl1 := N.l15 (.inl h15)
  have hx := N.a _ (bb (l := r.a) (i := 0) (by omega))
  unfold inV at hx
  rw [iP h15, iP h15, iP ⟨⟨by omega, by omega⟩, hx⟩, nD]
  simp only [bSq]
  rw [rD hat (fun q hq => N.op q hq (by omega)) (fun q hq => N.u q hq (by omega)) (by have := N.e; omega)]
  simp only [bSq]
  rw [iP hr]
  rfl
 rw [iN h15, iN h15]
 by_cases h16 : r.op = 16
 ·have hl1 := N.l15 (.inr h16)
  have hx := N.a _ (bb (l := r.a) (i := 0) (by omega))
  unfold inV at hx
  rw [iP h16, iP h16, iP ⟨⟨by omega, by omega⟩, hx⟩, nD]
  simp only [bSq]
  rw [rD hat (fun q hq => N.op q hq (by omega)) (fun q hq => N.u q hq (by omega)) (by have := N.e; omega)]
  simp only [bSq]
  rw [iP hr]
  rfl
 rw [iN h16, iN h16]
 by_cases h12 : r.op = 12
 ·have hl2 := N.l12 (.inl h12)
  have hx := N.a _ (bb (l := r.a) (i := 0) (by omega))
  have hy := N.a _ (bb (l := r.a) (i := 1) (by omega))
  have gx := (aT gv hx).2
  have gy := (aT gv hy).2
  have hc := N.c h12
  unfold inV at hx hy
  have hw : IntKind.wrap .i64 ((vOf s r.out_).n - (vOf s (r.a.getD 0 default)).n) = (vOf s (r.a.getD 1 default)).n := by
   rw [wr (by omega) (by omega)]; omega
  rw [iP h12, iP h12, iP ⟨⟨by omega, by omega⟩, hx⟩, iP hx, nD]
  simp only [bSq]
  rw [nS _ _ _ _ (by omega)]
  simp only [bSq]
  rw [iP ⟨⟨by omega, by omega⟩, hy⟩, hw, nD]
  simp only [bSq]
  rw [nS _ _ _ _ (by rw [List.length_append]; simp; omega)]
  simp only [bSq, List.append_assoc]
  rfl
 rw [iN h12, iN h12]
 by_cases h13 : r.op = 13
 ·have hl2 := N.l12 (.inr h13)
  have hx := N.a _ (bb (l := r.a) (i := 0) (by omega))
  unfold inV at hx
  rw [iP h13, iP h13, nD]
  simp only [bSq]
  rw [iP (show 0 ≤ (i : Int) ∧ (i : Int) < (p.keep.length : Int) from by omega), nD]
  simp only [bSq]
  rw [iP ⟨⟨by omega, by omega⟩, hx⟩, nD]
  simp only [bSq]
  rw [nS _ _ _ _ (by omega)]
  rfl
 rw [iN h13, iN h13]
theorem zy {s : ae} {p : aK} (hat : p.at_.length = s.vars.length) {i : Nat} {r : ah} (hr : s.rules.getD i default = r) (N : xr s r) (h12 : r.op = 12) (a l : List av) (hl : l.length ≤ 90000) (to : Int) :
  bf (fun (x : List av × Int × Int) => cC s p a (i : Int) x.1 x.2.1 x.2.2) (l, to, 0) = some (a, l ++ [jS to (vOf s (r.a.getD 0 default)).n [atP (atV p (r.a.getD 0 default)) (vOf s (r.a.getD 0 default)).n],
   jS (IntKind.wrap .i64 (to + (vOf s (r.a.getD 0 default)).n)) (vOf s (r.a.getD 1 default)).n [atP (atV p (r.a.getD 1 default)) (vOf s (r.a.getD 1 default)).n]]) := by
 have hl2 := N.l12 (.inl h12)
 have hx := N.a _ (bb (l := r.a) (i := 0) (by omega))
 have hy := N.a _ (bb (l := r.a) (i := 1) (by omega))
 unfold inV at hx hy
 have b0 : cC s p a (i : Int) l to 0 = some (.inl (l ++ [jS to (vOf s (r.a.getD 0 default)).n [atP (atV p (r.a.getD 0 default)) (vOf s (r.a.getD 0 default)).n]], IntKind.wrap .i64 (to + (vOf s (r.a.getD 0 default)).n), 1)) := by
  unfold cC
  simp only [tN, hr, Int.toNat_zero, cn, hat]
  rw [iP (by omega), iP ⟨⟨by omega, by omega⟩, hx⟩, iP hx, rC]
  simp only [bSq]
  rw [mo]
  simp only [bSq]
  rw [iP (ks (by omega) (by omega)), show IntKind.wrap .i64 (0 + 1) = 1 from rfl]
  rfl
 have b1 : ∀ (l' : List av) (to' : Int), l'.length ≤ 100000 → cC s p a (i : Int) l' to' 1 = some (.inl (l' ++ [jS to' (vOf s (r.a.getD 1 default)).n [atP (atV p (r.a.getD 1 default)) (vOf s (r.a.getD 1 default)).n]], IntKind.wrap .i64 (to' + (vOf s (r.a.getD 1 default)).n), 2)) := by
  intro l' to' hl'
  unfold cC
  simp only [tN, hr, Int.toNat_one, cn, hat]
  rw [iP (by omega), iP ⟨⟨by omega, by omega⟩, hy⟩, iP hy, rC]
  simp only [bSq]
  rw [mo]
  simp only [bSq]
  rw [iP (ks (by omega) (by omega)), show IntKind.wrap .i64 (1 + 1) = 2 from rfl]
  rfl
 refine (ji (body := fun (x : List av × Int × Int) => cC s p a (i : Int) x.1 x.2.1 x.2.2) (s := (l, to, 0)) b0).trans ?_
 refine (ji (body := fun (x : List av × Int × Int) => cC s p a (i : Int) x.1 x.2.1 x.2.2) (b1 _ _ (by rw [List.length_append]; simp; omega))).trans (hL ?_)
 show cC s p a (i : Int) _ _ 2 = _
 unfold cC
 rw [iN (by omega), List.append_assoc]
 rfl
theorem xu {s : ae} {p : aK} (g : iR s) (f : sL s p) {i : Nat} (hi : i < s.rules.length) (a l : List av) (ha : a.length ≤ 90000) (hl : l.length ≤ 90000) :
  dz s p a l (i : Int) = some (match mr s p i with | some x => .inl (a ++ rF s p i, l ++ x, ((i + 1 : Nat) : Int)) | none => .inr (.inr (bq.mk 0 [] [] [], [], ay.mk 4 (i : Int)))) := by
 have N := g.norm hi
 have hat := f.at_
 have hk := f.keep
 have gv := g.h.v
 have hn := g.h.nr
 have hw := wrs i (by omega)
 have hcat := fun (r : ah) (hr : s.rules.getD i default = r) (N : xr s r) (h12 : r.op = 12) => zy hat hr N h12 a l hl
 unfold dz iO iM eg mr rF
 rw [iP (ltI hi), iP (inI hi)]
 simp only [tN]
 revert N hcat
 generalize s.rules.getD i default = r
 intro N hcat
 have ho := N.o
 unfold inV at ho
 have hr : cb (l.length + 1) 80 := ks (by omega) (by omega)
 simp only [cn, hat, hw]
 rw [iP ⟨ho, ho⟩]
 by_cases h14 : r.op = 14
 ·rw [iP h14, iP h14, iN (show ¬ r.op = 13 from by omega), rE hat (fun q hq => N.op q hq (by omega)) (fun q hq => N.u q hq (by omega)) (by have := N.e; omega)]
  simp only [bSq]
  rw [mo]
  simp only [bSq]
  rw [iP hr, List.append_nil]
  rfl
 rw [iN h14, iN h14]
 by_cases h15 : r.op = 15
 ·have hl1 := N.l15 (.inl h15)
  have hx := N.a _ (bb (l := r.a) (i := 0) (by omega))
  unfold inV at hx
  rw [iP h15, iP h15, eQ h15, iP rfl, iN (show ¬ r.op = 16 from by omega), iN (show ¬ r.op = 13 from by omega), iP ⟨⟨by omega, by omega⟩, hx⟩]
  rw [rE hat (fun q hq => N.op q hq (by omega)) (fun q hq => N.u q hq (by omega)) (by have := N.e; omega)]
  simp only [bSq]
  rw [iP hr, List.append_nil]
  rfl
 rw [iN h15, iN h15]
 by_cases h16 : r.op = 16
 ·have hl1 := N.l15 (.inr h16)
  have hx := N.a _ (bb (l := r.a) (i := 0) (by omega))
  unfold inV at hx
  rw [eQ h16, iP rfl, iP h16, iP h16, iN (show ¬ r.op = 13 from by omega), iP ⟨⟨by omega, by omega⟩, hx⟩]
  rw [rE hat (fun q hq => N.op q hq (by omega)) (fun q hq => N.u q hq (by omega)) (by have := N.e; omega)]
  simp only [bSq]
  rw [iP hr, List.append_nil]
  rfl
 rw [nB h16, iN (by decide), iN h16]
 by_cases h12 : r.op = 12
 ·have hl2 := N.l12 (.inl h12)
  have hx := N.a _ (bb (l := r.a) (i := 0) (by omega))
  have hy := N.a _ (bb (l := r.a) (i := 1) (by omega))
  unfold inV at hx hy
  rw [iP h12, iP h12, iN (show ¬ r.op = 13 from by omega), List.append_nil]
  show (bf (fun (x : List av × Int × Int) => cC s p a (i : Int) x.1 x.2.1 x.2.2) (l, atV p r.out_, 0)).bind _ = _
  rw [hcat r rfl N h12]
  rfl
 rw [iN h12, iN h12]
 by_cases h13 : r.op = 13
 ·have hl2 := N.l12 (.inr h13)
  have hx := N.a _ (bb (l := r.a) (i := 0) (by omega))
  have hy := N.a _ (bb (l := r.a) (i := 1) (by omega))
  unfold inV at hx hy
  rw [iP h13, iP h13, iP h13, iP (show 0 ≤ (i : Int) ∧ (i : Int) < (p.keep.length : Int) from by omega), rC]
  simp only [bSq]
  rw [iP ⟨⟨by omega, by omega⟩, hx⟩, rC]
  simp only [bSq]
  rw [mo]
  simp only [bSq]
  rw [iP hr, iP ⟨⟨by omega, by omega⟩, hy⟩, rC]
  simp only [bSq]
  rw [mo]
  simp only [bSq]
  rw [iP (ks (by omega) (by omega))]
  rfl
 rw [iN h13, iN h13, ul]
 rfl
def lM (s : ae) (p : aK) : Nat → List av
 | 0 => []
 | i + 1 => lM s p i ++ (mr s p i).getD []
def iS (s : ae) (p : aK) : Nat → List av
 | 0 => []
 | i + 1 => iS s p i ++ rF s p i
theorem wl {s : ae} {p : aK} {i : Nat} : ((mr s p i).getD []).length ≤ 2 := by
 unfold mr
 repeat' split
 all_goals simp
theorem wm {s : ae} {p : aK} {i : Nat} : (rF s p i).length ≤ 1 := by
 unfold rF
 split <;> simp
theorem mt {s : ae} {p : aK} : ∀ i, (lM s p i).length ≤ 2 * i
 | 0 => Nat.le_refl _
 | i + 1 => by
  rw [lM, List.length_append]
  have := mt (s := s) (p := p) i
  have := wl (s := s) (p := p) (i := i)
  omega
theorem kT {s : ae} {p : aK} : ∀ i, (iS s p i).length ≤ i
 | 0 => Nat.le_refl _
 | i + 1 => by
  rw [iS, List.length_append]
  have := kT (s := s) (p := p) i
  have := wm (s := s) (p := p) (i := i)
  omega
def noL : bq := bq.mk 0 [] [] []
def nE (s : ae) (p : aK) (i : Nat) : Option (bq × List Int × ay) := match mr s p i with | some _ => none | none => some (noL, [], ay.mk 4 (i : Int))
theorem zz {s : ae} {p : aK} (g : iR s) (f : sL s p) : bf (fun (x : List av × Int) => dl s p x.1 x.2) ([], 0) = some (dA s.rules.length (nE s p) (lM s p s.rules.length)) := by
 have hn := g.h.nr
 have := pr (S := List av × Int) (T := List av) (Z := bq × List Int × ay) (fun i => (lM s p i, (i : Int))) (body := fun x => dl s p x.1 x.2) s.rules.length (nE s p) (lM s p s.rules.length)
  (by
   intro i hi
   show dl s p (lM s p i) (i : Int) = _
   have hl := mt (s := s) (p := p) i
   unfold dl
   rw [iP (ltI hi), iP (inI hi), tN, xt g f hi _ (by omega), wrs i (by omega)]
   simp only [bSq]
   unfold nE
   rw [lM]
   cases mr s p i <;> rfl)
  (by
   show dl s p (lM s p s.rules.length) (s.rules.length : Int) = _
   unfold dl
   rw [iN (be _)])
 exact this
theorem zA {s : ae} {p : aK} (g : iR s) (f : sL s p) : bf (fun (x : List av × List av × Int) => dz s p x.1 x.2.1 x.2.2) ([], [], 0) = some (dA s.rules.length (nE s p) (iS s p s.rules.length, lM s p s.rules.length)) := by
 have hn := g.h.nr
 have := pr (S := List av × List av × Int) (T := List av × List av) (Z := bq × List Int × ay) (fun i => (iS s p i, lM s p i, (i : Int))) (body := fun x => dz s p x.1 x.2.1 x.2.2) s.rules.length (nE s p) (iS s p s.rules.length, lM s p s.rules.length)
  (by
   intro i hi
   show dz s p (iS s p i) (lM s p i) (i : Int) = _
   have hl := mt (s := s) (p := p) i
   have hl2 := kT (s := s) (p := p) i
   rw [xu g f hi _ _ (by omega) (by omega)]
   unfold nE
   rw [lM, iS]
   cases mr s p i <;> rfl)
  (by
   show dz s p (iS s p s.rules.length) (lM s p s.rules.length) (s.rules.length : Int) = _
   unfold dz
   rw [iN (be _)])
 exact this
theorem zB {s : ae} {p : aK} (g : iR s) (f : sL s p) (l : List av) (hl : l.length ≤ 5000) : bf (fun (x : List av × Int) => dk s p x.1 x.2) (l, 0) = some (l ++ iS s p s.rules.length) := by
 have hn := g.h.nr
 have hat := f.at_
 have hk := f.keep
 have := fZ (S := List av × Int) (T := List av) (fun i => (l ++ iS s p i, (i : Int))) (body := fun x => dk s p x.1 x.2) s.rules.length (l ++ iS s p s.rules.length)
  (by
   intro i hi
   show dk s p (l ++ iS s p i) (i : Int) = _
   have hl2 := kT (s := s) (p := p) i
   have N := g.norm hi
   have ho := N.o
   unfold inV at ho
   unfold dk
   rw [iS]
   unfold rF
   rw [iP (ltI hi), iP (inI hi)]
   simp only [tN, cn, hat]
   rw [iP ho, wrs i (by omega)]
   by_cases h13 : (s.rules.getD i default).op = 13
   ·have hl2 := N.l12 (.inr h13)
    have hy := N.a _ (bb (l := (s.rules.getD i default).a) (i := 1) (by omega))
    unfold inV at hy
    rw [iP h13, iP h13, iP ⟨by omega, ⟨by omega, by omega⟩, hy⟩, nD]
    simp only [bSq]
    rw [nS _ _ _ _ (by rw [List.length_append]; omega)]
    simp only [bSq, List.append_assoc]
    rfl
   ·rw [iN h13, iN h13, List.append_nil])
  (by
   show dk s p (l ++ iS s p s.rules.length) (s.rules.length : Int) = _
   unfold dk
   rw [iN (be _)])
 rw [show ((0 : Nat) : Int) = 0 from rfl, show l ++ iS s p 0 = l from by simp [iS]] at this
 exact this
def spr (s : ae) (p : aK) (v : Int) (k : Nat) : List Int := (List.range k).map (fun (j : Nat) => IntKind.wrap .i64 (atV p v + (j : Int)))
def xv (s : ae) (p : aK) (v : Int) : List Int := spr s p v (co (vOf s v).n).toNat
def ie (s : ae) (p : aK) (l : List Int) : List Int := l.flatMap (xv s p)
theorem tv {s : ae} {p : aK} {v : Int} {k : Nat} : (spr s p v k).length = k := by unfold spr; simp
theorem uu {s : ae} {p : aK} {v : Int} {k : Nat} : spr s p v (k + 1) = spr s p v k ++ [IntKind.wrap .i64 (atV p v + (k : Int))] := by unfold spr; rw [List.range_succ, List.map_append]; rfl
theorem tw {s : ae} (hv : dW s) {v : Int} (h : inV s v) : ((co (vOf s v).n).toNat : Int) = co (vOf s v).n ∧ (co (vOf s v).n).toNat ≤ 300 := by
 have := (aT hv h).2
 unfold co
 split <;> omega
theorem kt {s : ae} {p : aK} (hv : dW s) : ∀ {l : List Int}, (∀ v ∈ l, inV s v) → (ie s p l).length ≤ 300 * l.length
 | [], _ => Nat.le_refl _
 | v :: l, h => by
  have h1 := kt (p := p) hv (l := l) (fun x hx => h x (by simp [hx]))
  have h2 := (tw hv (h v (by simp))).2
  unfold ie xv at h1 ⊢
  rw [List.flatMap_cons, List.length_append, tv, List.length_cons]
  omega
theorem sN {s : ae} {p : aK} {l : List Int} {i : Nat} (hi : i < l.length) : ie s p (l.take (i + 1)) = ie s p (l.take i) ++ xv s p (l.getD i default) := by
 unfold ie
 rw [cQ _ hi, List.flatMap_append]
 simp
theorem rG {s : ae} {p : aK} (hv : dW s) (hat : p.at_.length = s.vars.length) {l : List Int} (h : ∀ v ∈ l, inV s v) (hl : l.length ≤ 500) : iL s p l = some (ie s p l) := by
 unfold iL
 have := fZ (S := List Int × Int) (T := List Int) (fun i => (ie s p (l.take i), (i : Int))) (body := fun x => cW s p l x.1 x.2) l.length (ie s p l)
  (by
   intro i hi
   show cW s p l (ie s p (l.take i)) (i : Int) = _
   have hx := h _ (bb hi)
   obtain ⟨c1, c2⟩ := tw hv hx
   have hx' := hx
   unfold inV at hx'
   have hsl := kt (p := p) hv (l := l.take i) (fun v hv' => h v (List.mem_of_mem_take hv'))
   rw [List.length_take] at hsl
   have inner := fZ (S := List Int × Int) (T := List Int) (fun k => (ie s p (l.take i) ++ spr s p (l.getD i default) k, (k : Int))) (body := fun x => cV p l (i : Int) (co (vOf s (l.getD i default)).n) x.1 x.2) (co (vOf s (l.getD i default)).n).toNat (ie s p (l.take i) ++ xv s p (l.getD i default))
    (by
     intro k hk
     show cV p l (i : Int) (co (vOf s (l.getD i default)).n) (ie s p (l.take i) ++ spr s p (l.getD i default) k) (k : Int) = _
     have hsl2 := tv (s := s) (p := p) (v := l.getD i default) (k := k)
     unfold cV
     simp only [tN, hat]
     rw [iP (by omega), iP ⟨hx', ks (by rw [List.length_append]; omega) (by omega)⟩, wrs k (by omega), uu, List.append_assoc]
     rfl)
    (by
     show cV p l (i : Int) (co (vOf s (l.getD i default)).n) (ie s p (l.take i) ++ spr s p (l.getD i default) (co (vOf s (l.getD i default)).n).toNat) (((co (vOf s (l.getD i default)).n).toNat : Nat) : Int) = _
     unfold cV
     rw [iN (by omega)]
     rfl)
   rw [show ((0 : Nat) : Int) = 0 from rfl, show ie s p (l.take i) ++ spr s p (l.getD i default) 0 = ie s p (l.take i) from by simp [spr]] at inner
   unfold cW
   rw [iP (ltI hi), iP (inI hi)]
   simp only [tN, cn]
   rw [iP hx', sM]
   simp only [bSq]
   show (bf (fun (x : List Int × Int) => cV p l (i : Int) (co (vOf s (l.getD i default)).n) x.1 x.2) (ie s p (l.take i), 0)).bind _ = _
   rw [inner]
   simp only [bSq]
   unfold eM
   rw [wrs i (by omega), sN hi])
  (by
   show cW s p l (ie s p (l.take l.length)) (l.length : Int) = _
   unfold cW
   rw [iN (be _), List.take_length])
 rw [show ((0 : Nat) : Int) = 0 from rfl, show ie s p (l.take 0) = [] from rfl] at this
 show (bf (fun (x : List Int × Int) => cW s p l x.1 x.2) ([], 0)).bind _ = _
 rw [this]
 rfl
theorem qe {s : ae} {p : aK} (hv : dW s) (hat : p.at_.length = s.vars.length) {l : List Int} (h : ∀ v ∈ l, inV s v) (hl : l.length ≤ 500) : iA s p l = some (ie s p l) := rG hv hat h hl
theorem oL {s : ae} {p : aK} (hv : dW s) (hat : p.at_.length = s.vars.length) {l : List Int} (h : ∀ v ∈ l, inV s v) (hl : l.length ≤ 500) : gH s p l = some (ie s p l) := by
 unfold gH
 have := fZ (S := List Int × Int) (T := List Int) (fun i => (ie s p (l.take i), (i : Int))) (body := fun x => cZ s p l x.1 x.2) l.length (ie s p l)
  (by
   intro i hi
   show cZ s p l (ie s p (l.take i)) (i : Int) = _
   have hx := h _ (bb hi)
   obtain ⟨c1, c2⟩ := tw hv hx
   have hx' := hx
   unfold inV at hx'
   have hsl := kt (p := p) hv (l := l.take i) (fun v hv' => h v (List.mem_of_mem_take hv'))
   rw [List.length_take] at hsl
   have inner := fZ (S := List Int × Int) (T := List Int) (fun k => (ie s p (l.take i) ++ spr s p (l.getD i default) k, (k : Int))) (body := fun x => cY s p l (i : Int) x.1 x.2) (co (vOf s (l.getD i default)).n).toNat (ie s p (l.take i) ++ xv s p (l.getD i default))
    (by
     intro k hk
     show cY s p l (i : Int) (ie s p (l.take i) ++ spr s p (l.getD i default) k) (k : Int) = _
     have hsl2 := tv (s := s) (p := p) (v := l.getD i default) (k := k)
     unfold cY
     simp only [tN, hat, cn]
     rw [iP ⟨inI hi, hx'⟩, dD]
     simp only [bSq]
     rw [iP (by omega), iP ⟨hx', ks (by rw [List.length_append]; omega) (by omega)⟩, wrs k (by omega), uu, List.append_assoc]
     rfl)
    (by
     show cY s p l (i : Int) (ie s p (l.take i) ++ spr s p (l.getD i default) (co (vOf s (l.getD i default)).n).toNat) (((co (vOf s (l.getD i default)).n).toNat : Nat) : Int) = _
     unfold cY
     simp only [tN, cn]
     rw [iP ⟨inI hi, hx'⟩, dD]
     simp only [bSq]
     rw [iN (by omega)]
     rfl)
   rw [show ((0 : Nat) : Int) = 0 from rfl, show ie s p (l.take i) ++ spr s p (l.getD i default) 0 = ie s p (l.take i) from by simp [spr]] at inner
   unfold cZ
   rw [iP (ltI hi)]
   show (bf (fun (x : List Int × Int) => cY s p l (i : Int) x.1 x.2) (ie s p (l.take i), 0)).bind _ = _
   rw [inner]
   simp only [bSq]
   unfold eZ
   rw [wrs i (by omega), sN hi])
  (by
   show cZ s p l (ie s p (l.take l.length)) (l.length : Int) = _
   unfold cZ
   rw [iN (be _), List.take_length])
 rw [show ((0 : Nat) : Int) = 0 from rfl, show ie s p (l.take 0) = [] from rfl] at this
 show (bf (fun (x : List Int × Int) => cZ s p l x.1 x.2) ([], 0)).bind _ = _
 rw [this]
 rfl
def ku (s : ae) (p : aK) : Nat → List Int
 | 0 => []
 | i + 1 => ku s p i ++ (if (vOf s (s.in_.getD i default)).elem = 98 then ie s p [s.in_.getD i default] else [])
theorem nT {s : ae} {p : aK} (g : iR s) : ∀ i, i ≤ s.in_.length → (ku s p i).length ≤ 300 * i
 | 0, _ => Nat.le_refl _
 | i + 1, h => by
  have h1 := nT (p := p) g i (by omega)
  have h2 := kt (p := p) g.h.v (l := [s.in_.getD i default]) (fun v hv => by simp only [List.mem_singleton] at hv; subst hv; exact mq g (by omega))
  rw [ku, List.length_append]
  split
  ·simp only [List.length_cons, List.length_nil] at h2
   omega
  ·simp only [List.length_nil]; omega
theorem xw {s : ae} {p : aK} (g : iR s) (hat : p.at_.length = s.vars.length) : bf (fun (x : List Int × Int) => dj s p x.1 x.2) ([], 0) = some (ku s p s.in_.length) := by
 have hn := g.h.ni
 have := fZ (S := List Int × Int) (T := List Int) (fun i => (ku s p i, (i : Int))) (body := fun x => dj s p x.1 x.2) s.in_.length (ku s p s.in_.length)
  (by
   intro i hi
   show dj s p (ku s p i) (i : Int) = _
   have hx := mq g hi
   have hx' := hx
   unfold inV at hx'
   have hbl := nT (p := p) g i (by omega)
   have h1 : ∀ v ∈ [s.in_.getD i default], inV s v := fun v hv => by simp only [List.mem_singleton] at hv; subst hv; exact hx
   have hsl := kt (p := p) g.h.v h1
   simp only [List.length_cons, List.length_nil] at hsl
   unfold dj
   rw [iP (ltI hi), iP (inI hi)]
   simp only [tN, cn]
   rw [iP hx', wrs i (by omega), ku]
   by_cases h98 : (vOf s (s.in_.getD i default)).elem = 98
   ·rw [iP h98, iP h98]
    show (iL s p [s.in_.getD i default]).bind _ = _
    rw [rG g.h.v hat h1 (by simp)]
    simp only [bSq]
    rw [iP (ks (by omega) (by omega))]
   ·rw [iN h98, iN h98, List.append_nil])
  (by
   show dj s p (ku s p s.in_.length) (s.in_.length : Int) = _
   unfold dj
   rw [iN (be _)])
 exact this
theorem xx {s : ae} {p : aK} (g : iR s) (hat : p.at_.length = s.vars.length) : bf (fun (x : List Int × Int) => dP s p x.1 x.2) ([], 0) = some (ku s p s.in_.length) := by
 have hn := g.h.ni
 have := fZ (S := List Int × Int) (T := List Int) (fun i => (ku s p i, (i : Int))) (body := fun x => dP s p x.1 x.2) s.in_.length (ku s p s.in_.length)
  (by
   intro i hi
   show dP s p (ku s p i) (i : Int) = _
   have hx := mq g hi
   have hx' := hx
   unfold inV at hx'
   have hbl := nT (p := p) g i (by omega)
   have h1 : ∀ v ∈ [s.in_.getD i default], inV s v := fun v hv => by simp only [List.mem_singleton] at hv; subst hv; exact hx
   have hsl := kt (p := p) g.h.v h1
   simp only [List.length_cons, List.length_nil] at hsl
   unfold dP
   rw [iP (ltI hi)]
   simp only [tN, cn, wrs i (show i < 9223372036854775807 from by omega)]
   rw [iP ⟨inI hi, hx'⟩, ku]
   by_cases h98 : (vOf s (s.in_.getD i default)).elem = 98
   ·have et : (s.in_.take (i + 1)).drop i = [s.in_.getD i default] := by
     rw [cQ _ hi, List.drop_append_of_le_length (by rw [List.length_take]; omega), List.drop_of_length_le (by rw [List.length_take]; omega)]
     rfl
    rw [iP h98, iP h98, iP (by omega), et, oL g.h.v hat h1 (by simp)]
    simp only [bSq]
    rw [iP (ks (by omega) (by omega))]
   ·rw [iN h98, iN h98, List.append_nil])
  (by
   show dP s p (ku s p s.in_.length) (s.in_.length : Int) = _
   unfold dP
   rw [iN (be _)])
 exact this
def zC : av := jS 0 0 [⟨1, 0, 0, 1⟩]
def xy (s : ae) (p : aK) : bq × List Int × ay :=
 (bq.mk p.cells (ie s p s.in_) (ie s p s.out_) (lM s p s.rules.length ++ iS s p s.rules.length ++ [zC]), ku s p s.in_.length, ay.mk 0 0)
noncomputable def oj (s : ae) (p : aK) : bq × List Int × ay :=
 if ¬ (je s).code = 0 then (noL, [], je s)
 else if ¬ j7 s then (noL, [], ay.mk 15 (-1))
 else if ¬ py s p = true then (noL, [], ay.mk 16 (-1))
 else match dA s.rules.length (nE s p) () with
  | .inr z => z
  | .inl _ => xy s p
theorem xz {T Z : Type} {n : Nat} {f : Nat → Option Z} {t : T} : dA n f t = match dA n f () with | .inl _ => .inl t | .inr z => .inr z := by
 unfold dA
 cases (List.range n).findSome? f <;> rfl
theorem uv (s : ae) (p : aK) : jd s p = some (oj s p) := by
 unfold jd oj
 rw [um]
 simp only [bSq]
 by_cases hc : (je s).code = 0
 ·obtain ⟨g, _⟩ := oK hc
  have hn := g.h.nr
  rw [iN (by simpa using hc), iN (by simpa using hc), wh g]
  simp only [bSq]
  by_cases hs : j7 s
  ·rw [iP (dT hs), iN (by simpa using hs), xo g]
   simp only [bSq]
   by_cases hf : py s p = true
   ·have f := ut hf
    have hal := mt (s := s) (p := p) s.rules.length
    have hla := kT (s := s) (p := p) s.rules.length
    rw [iP hf, iN (by simpa using hf)]
    show (bf (fun (x : List av × Int) => dl s p x.1 x.2) ([], 0)).bind _ = _
    rw [zz g f, xz]
    simp only [bSq]
    cases dA s.rules.length (nE s p) () with
    | inr z => rfl
    | inl u =>
     simp only [Sum.elim_inl]
     unfold hP
     show (bf (fun (x : List av × Int) => dk s p x.1 x.2) (lM s p s.rules.length, 0)).bind _ = _
     rw [zB g f _ (by omega)]
     simp only [bSq]
     unfold hO
     rw [ur _ _ _ _ (by rw [List.length_append]; omega)]
     simp only [bSq]
     show (bf (fun (x : List Int × Int) => dj s p x.1 x.2) ([], 0)).bind _ = _
     rw [xw g f.at_]
     simp only [bSq]
     unfold hN
     rw [qe g.h.v f.at_ g.h.i (by have := g.h.ni; omega)]
     simp only [bSq]
     rw [qe g.h.v f.at_ g.h.o (by have := g.h.no; omega)]
     rfl
   ·rw [iN hf, iP (by simpa using hf)]
    rfl
  ·rw [iN (by simpa using hs), iP hs]
   rfl
 ·rw [iP hc, iP hc]
  rfl
theorem wn (s : ae) (p : aK) : mh s p = some (oj s p) := by
 unfold mh oj
 rw [un]
 simp only [bSq]
 by_cases hc : (je s).code = 0
 ·obtain ⟨g, _⟩ := oK hc
  have hn := g.h.nr
  rw [iN (by simpa using hc), iN (by simpa using hc), tq g]
  simp only [bSq]
  by_cases hs : j7 s
  ·rw [iP (dT hs), iN (by simpa using hs), xp g]
   simp only [bSq]
   by_cases hf : py s p = true
   ·have f := ut hf
    have hal := mt (s := s) (p := p) s.rules.length
    have hla := kT (s := s) (p := p) s.rules.length
    rw [iP hf, iN (by simpa using hf)]
    show (bf (fun (x : List av × List av × Int) => dz s p x.1 x.2.1 x.2.2) ([], [], 0)).bind _ = _
    rw [zA g f, xz]
    simp only [bSq]
    cases dA s.rules.length (nE s p) () with
    | inr z => rfl
    | inl u =>
     simp only [Sum.elim_inl]
     show gI s p (iS s p s.rules.length) (lM s p s.rules.length) = _
     unfold gI
     rw [iP (ks (by omega) (by omega)), mo]
     simp only [bSq]
     rw [iP (ks (by omega) (by omega)), oL g.h.v f.at_ g.h.i (by have := g.h.ni; omega)]
     simp only [bSq]
     rw [oL g.h.v f.at_ g.h.o (by have := g.h.no; omega)]
     simp only [bSq]
     show (bf (fun (x : List Int × Int) => dP s p x.1 x.2) ([], 0)).bind _ = _
     rw [xx g f.at_]
     rfl
   ·rw [iN hf, iP (by simpa using hf), ul]
    rfl
  ·rw [iN (by simpa using hs), iP hs, ul]
   rfl
 ·rw [iP hc, iP hc]
  rfl
end Pam
namespace Pam
open Go
theorem xA {s : ae} (h0 : (mX s).code = 0) (hr : ∀ i, i < s.rules.length → jX s (bx s i) (s.rules.getD i default) = 0)
  (hu : ∀ i, i < s.rules.length → ∀ x ∈ cx (s.rules.getD i default), x ∈ bx s s.rules.length) (ho : ∀ x ∈ s.out_, x ∈ bx s s.rules.length) : je s = ay.mk 0 0 := by
 unfold je
 simp only [h0, not_true_eq_false, if_false]
 rw [hY (fun i hi => by unfold jq; simp only [iP (hr i hi)])]
 simp only
 rw [hY (fun i hi => by unfold kH; rw [iN (fun ⟨x, h1, h2⟩ => h2 (hu i hi x h1))])]
 simp only
 rw [hY (fun i hi => by unfold pJ; rw [iP (ho _ (bb hi))])]
theorem eu (l : List Int) (hl : l.length ≤ 9000000) : cT l l = some true := by
 unfold cT
 rw [iN (by simp)]
 rw [bo l.length (fun _ => none) () (fun i hi => by
  simp only [gM, tN]
  rw [iP (ltI hi), iP ⟨inI hi, inI hi⟩, iN (by simp), wrs i (by omega)]) (by simp [gM]), hY (fun _ _ => rfl)]
 rfl
theorem lN (l : List aj) (hl : l.length ≤ 9000000) : gJ l l = some true := by
 unfold gJ
 rw [iN (by simp), bo l.length (fun _ => none) ()]
 ·rw [hY (fun _ _ => rfl)]; rfl
 ·intro i hi
  unfold gY
  rw [iP (ltI hi), iP ⟨inI hi, inI hi⟩, iP (by simp), wrs i (by omega)]
 ·unfold gY; rw [iN (be _)]
theorem rY (r : ah) (h : r.a.length ≤ 100 ∧ r.e.length ≤ 1000) : jN r r = some true := by
 unfold jN
 rw [iP rfl, iP rfl, iP rfl, iP rfl, eu _ (by omega)]
 simp only [bSq, if_true]
 rw [lN _ (by omega)]
 rfl
theorem tx {s : ae} {m : Nat} (h : pw s m) (hm : m ≤ 100000) : iE s s = some true := by
 have h1 := h.nv
 have h2 := h.nr
 have h3 := h.ni
 have h4 := h.no
 unfold iE
 rw [iN (by simp), iN (by simp), eu _ (by omega)]
 simp only [bSq, if_true]
 rw [eu _ (by omega)]
 simp only [bSq, if_true]
 rw [bo s.vars.length (fun _ => none) () (fun i hi => by
  unfold fE
  rw [iP (ltI hi), iP ⟨inI hi, inI hi⟩, iP ⟨rfl, rfl⟩, wrs i (by omega)]) (by unfold fE; rw [iN (be _)]), hY (fun _ _ => rfl)]
 simp only [bSq, Sum.elim_inl]
 unfold d3
 rw [bo s.rules.length (fun _ => none) () (fun i hi => by
  unfold fD
  rw [iP (ltI hi), iP ⟨inI hi, inI hi⟩]
  simp only [tN]
  rw [rY _ (h.r _ (bb hi)), wrs i (by omega)]
  rfl) (by unfold fD; rw [iN (be _)]), hY (fun _ _ => rfl)]
 rfl
def rB : ah := ah.mk 14 0 1 0 [] (lit ([(aj.mk 3 0 0 1)] : List aj))
def sB : ae := ae.mk (lit ([(ap.mk 105 8), (ap.mk 105 3)] : List ap)) (lit ([0] : List Int)) (lit ([1] : List Int)) (lit ([rB] : List ah))
def pB : aK := aK.mk (lit ([1, 9] : List Int)) (lit ([(-1)] : List Int)) 12
instance (x : Int) : Decidable (okE x) := inferInstanceAs (Decidable (_ ∨ _))
instance (s : ae) (q : aj) : Decidable (lq s q) := inferInstanceAs (Decidable (_ → _))
theorem yp : dW sB := ⟨by decide, by decide⟩
theorem zD : aE sB rB = some true := by
 rw [cl (by decide) (by decide) (by decide)]
 have ht := (lr (s := sB) (c := 0) (r := rB) (o := ap.mk 105 3) (n := 3) yp (by decide) (by decide) (by decide) (by decide)).2
 unfold aO
 rw [ci]
 simp only [bSq]
 have hn : ∀ m : Int, rB.op = m ∨ ¬ rB.op = m := fun m => Classical.em _
 rw [iN (by decide), iN (by decide), iN (by decide), iN (by decide), iN (by decide), iN (by decide), iN (by decide), iN (by decide), iN (by decide), iN (by decide), iN (by decide), iN (by decide), iN (by decide)]
 rw [iP (by decide), dD]
 simp only [bSq]
 show (jF sB rB.e 3).bind _ = _
 rw [ht]
 rfl
theorem xB : je sB = ay.mk 0 0 := by
 refine xA (by rfl) (fun i hi => ?_) (fun i hi => ?_) (by decide)
 ·have : i = 0 := by have : sB.rules.length = 1 := rfl; omega
  subst this
  show jX sB (bx sB 0) rB = 0
  unfold jX
  rw [iN (by decide), iN (by decide), iN (by decide), iN (by decide), iN (by decide), iP zD]
 ·have : i = 0 := by have : sB.rules.length = 1 := rfl; omega
  subst this
  decide
theorem qr : iB = some true := by
 unfold iB
 show (jd sB pB).bind _ = _
 rw [uv]
 simp only [bSq]
 have e : oj sB pB = xy sB pB := by
  unfold oj
  rw [xB, iN (by decide), iN (by decide), iN (by decide), hY (fun i hi => by
   have : i = 0 := by have : sB.rules.length = 1 := rfl; omega
   subst this
   rfl)]
 rw [e]
 rfl
theorem nF {l : bq} (h1 : l.put.length ≤ 9000000) (h2 : l.get.length ≤ 9000000) (h3 : l.steps.length ≤ 9000000) (h4 : ∀ x ∈ l.steps, x.e.length ≤ 1000 ∧ x.f.length ≤ 1000) : fM l l = some true := by
 unfold fM
 rw [iN (by simp), eu _ h1]
 simp only [bSq, if_true]
 rw [eu _ h2]
 simp only [bSq, if_true]
 rw [iN (by simp), bo l.steps.length (fun _ => none) () (fun i hi => by
  obtain ⟨he, hf⟩ := h4 _ (bb hi)
  unfold fY
  rw [iP (ltI hi), iP ⟨inI hi, inI hi⟩]
  simp only [tN, not_true_eq_false, if_false]
  rw [lN _ (by omega)]
  simp only [bSq, if_true]
  rw [lN _ (by omega)]
  simp only [bSq, if_true]
  rw [wrs i (by omega)]) (by unfold fY; rw [iN (be _)]), hY (fun _ _ => rfl)]
 rfl
theorem kv {to n : Int} {e : List aj} (h : e.length ≤ 1000) : (jS to n e).e.length ≤ 1000 ∧ (jS to n e).f.length ≤ 1000 := by
 unfold jS
 split <;> exact ⟨h, Nat.zero_le _⟩
theorem uw {s : ae} {p : aK} {i : Nat} (he : (s.rules.getD i default).e.length ≤ 1000) : ∀ x ∈ (mr s p i).getD [], x.e.length ≤ 1000 ∧ x.f.length ≤ 1000 := by
 intro x hx
 unfold mr at hx
 repeat' split at hx
 all_goals simp only [Option.getD_some, Option.getD_none, List.mem_cons, List.not_mem_nil, or_false] at hx
 ·subst hx; exact kv (by rw [List.length_map]; exact he)
 ·subst hx; exact ⟨by simp only [List.length_map]; exact he, by simp⟩
 ·subst hx; exact ⟨by simp only [List.length_map]; exact he, by simp⟩
 ·rcases hx with rfl | rfl <;> exact kv (by simp)
 ·subst hx; exact kv (by simp)
theorem rH {s : ae} {p : aK} (h : ∀ r ∈ s.rules, r.e.length ≤ 1000) : ∀ i, i ≤ s.rules.length → ∀ x ∈ lM s p i, x.e.length ≤ 1000 ∧ x.f.length ≤ 1000
 | 0, _, x, hx => by cases hx
 | i + 1, hi, x, hx => by
  rcases List.mem_append.1 hx with hx | hx
  ·exact rH h i (by omega) x hx
  ·exact uw (h _ (bb (by omega))) x hx
theorem qf {s : ae} {p : aK} : ∀ i, ∀ x ∈ iS s p i, x.e.length ≤ 1000 ∧ x.f.length ≤ 1000
 | 0, x, hx => by cases hx
 | i + 1, x, hx => by
  rcases List.mem_append.1 hx with hx | hx
  ·exact qf i x hx
  ·unfold rF at hx
   split at hx
   ·simp only [List.mem_singleton] at hx; subst hx; exact kv (by simp)
   ·cases hx
theorem vc {s : ae} {m : Nat} (h : pw s m) (p : aK) : fM (oj s p).1 (oj s p).1 = some true ∧ (oj s p).2.1.length ≤ 9000000 := by
 have no : fM noL noL = some true := nF (Nat.zero_le _) (Nat.zero_le _) (Nat.zero_le _) (fun x hx => by cases hx)
 unfold oj
 by_cases hc : (je s).code = 0
 ·obtain ⟨g, _⟩ := oK hc
  rw [iN (by simpa using hc)]
  by_cases hs : j7 s
  ·rw [iN (by simpa using hs)]
   by_cases hf : py s p = true
   ·rw [iN (by simpa using hf)]
    rcases cm s.rules.length (nE s p) () with ⟨e, _⟩ | ⟨j, z, hj, hz, e⟩
    ·rw [e]
     have hni := g.h.ni
     have hno := g.h.no
     have hnr := g.h.nr
     have l1 := kt (p := p) g.h.v g.h.i
     have l2 := kt (p := p) g.h.v g.h.o
     have l3 := mt (s := s) (p := p) s.rules.length
     have l4 := kT (s := s) (p := p) s.rules.length
     have l5 := nT (p := p) g s.in_.length (Nat.le_refl _)
     refine ⟨nF ?_ ?_ ?_ ?_, ?_⟩
     ·show (ie s p s.in_).length ≤ _; omega
     ·show (ie s p s.out_).length ≤ _; omega
     ·show (lM s p s.rules.length ++ iS s p s.rules.length ++ [zC]).length ≤ _
      rw [List.length_append, List.length_append]
      simp only [List.length_cons, List.length_nil]
      omega
     ·intro x hx
      have hx : x ∈ lM s p s.rules.length ++ iS s p s.rules.length ++ [zC] := hx
      rcases List.mem_append.1 hx with hx | hx
      ·rcases List.mem_append.1 hx with hx | hx
       ·exact rH (fun r hr => (h.r r hr).2) _ (Nat.le_refl _) x hx
       ·exact qf _ x hx
      ·simp only [List.mem_singleton] at hx
       subst hx
       exact kv (by simp)
     ·show (ku s p s.in_.length).length ≤ _; omega
    ·rw [e]
     unfold nE at hz
     cases hr : mr s p j with
     | some x => rw [hr] at hz; cases hz
     | none =>
      rw [hr] at hz
      simp only [sJ] at hz
      subst hz
      exact ⟨no, Nat.zero_le _⟩
   ·rw [iP (by simpa using hf)]
    exact ⟨no, Nat.zero_le _⟩
  ·rw [iP hs]
   exact ⟨no, Nat.zero_le _⟩
 ·rw [iP hc]
  exact ⟨no, Nat.zero_le _⟩
theorem n5 (s : ae) (p : aK) (_ : s.ok) (_ : p.ok) (_ : s.sz + p.sz ≤ 1048576) : jO s p = some true := by
 unfold jO
 rw [qr]
 simp only [bSq, if_true]
 obtain ⟨b, hb, hf⟩ := xm s 150 (by omega)
 rw [show ((150 : Nat) : Int) = 150 from rfl] at hb
 rw [hb]
 cases b
 ·have hng := hf rfl
  simp only [bSq, Bool.false_eq_true, if_false]
  by_cases ha : (p.at_.length : Int) > 1000
  ·rw [iP ha]
  by_cases hk : (p.keep.length : Int) > 1000
  ·rw [iN ha, iP hk]
  rw [iN ha, iN hk, yo hng (by omega)]
  simp only [bSq]
  rw [iP (ks (by omega) (by omega)), iP (ks (by omega) (by omega)), uv, wn]
  simp only [bSq]
  obtain ⟨m1, m2⟩ := vc hng p
  rw [iP (by exact ⟨by trivial, by trivial⟩), m1]
  simp only [bSq, if_true]
  rw [eu _ m2]
  simp only [bSq, if_true]
  rw [tx hng (by omega)]
  simp only [bSq, if_true]
  unfold kL
  rw [iP rfl, eu _ (by omega)]
  simp only [bSq, if_true]
  rw [eu _ (by omega)]
  rfl
 ·rfl
end Pam
