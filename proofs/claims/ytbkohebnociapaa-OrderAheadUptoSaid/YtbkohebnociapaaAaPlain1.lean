/- The fault of all of a system but its rules: the program and the document tell the same. -/
import Derived.Test.YtbkohebnociapaaAaFun1
import Derived.Test.YtbkohebnociapaaAWide1
import Derived.Test.YtbkohebnociapaaABase3
set_option linter.all false
namespace Pam
open Go
theorem rt (v : Int) (j : aw) : eI v j = some (decide (0 ≤ v ∧ v < (j.system.vars.length : Int))) := by
 unfold eI
 by_cases h : v ≥ 0
 ·rw [if_pos h]; congr 1; rw [decide_eq_decide]; omega
 ·rw [if_neg h]; congr 1; symm; rw [decide_eq_false_iff_not]; omega
theorem pB (l : List Int) (v : Int) (hl : l.length ≤ 9000000) : ∃ k, dL l v = some k ∧ (decide (k ≥ 0)) = l.contains v := by
 unfold dL
 rw [bI l.length (fun i => if l.getD i default = v then some (i : Int) else none) () (fun i hi => by
  unfold cY
  rw [if_pos (ltI hi), if_pos (inI hi)]
  simp only [Int.toNat_natCast]
  by_cases h : l.getD i default = v
  ·rw [if_pos h.symm, if_pos h]
  ·rw [if_neg (fun e => h e.symm), if_neg h, wrs i (by omega)]) (by unfold cY; rw [if_neg (bm _)])]
 rcases cI l.length (fun i => if l.getD i default = v then some (i : Int) else none) () with ⟨e, h⟩ | ⟨j, z, hj, hf, e⟩
 ·rw [e]
  refine ⟨-1, rfl, ?_⟩
  have : ¬ v ∈ l := by
   intro hm
   obtain ⟨i, hi, rfl⟩ := List.mem_iff_getElem.1 hm
   have := h i hi
   simp [List.getD, hi] at this
  simp [this]
 ·rw [e]
  refine ⟨z, rfl, ?_⟩
  by_cases hh : l.getD j default = v
  ·rw [if_pos hh] at hf
   simp only [Option.some.injEq] at hf
   subst hf
   have : v ∈ l := by rw [← hh]; exact bi hj
   simp [this]
  ·rw [if_neg hh] at hf; cases hf
theorem rY (l : List Int) (v : Int) (hl : l.length ≤ 9000000) : cZ l v = some (l.contains v) := by
 unfold cZ
 obtain ⟨k, h1, h2⟩ := pB l v hl
 rw [h1]
 simp only [Option.bind_some, h2]
theorem jR (l : List Int) (v : Int) (hl : l.length ≤ 9000000) : jJ l v = some (l.contains v) := by
 unfold jJ
 rw [bI l.length (fun i => if l.getD i default = v then some true else none) () (fun i hi => by
  unfold kq
  rw [if_pos (ltI hi), if_pos (inI hi)]
  simp only [Int.toNat_natCast]
  by_cases h : l.getD i default = v
  ·rw [if_pos h, if_pos h]
  ·rw [if_neg h, if_neg h, wrs i (by omega)]) (by unfold kq; rw [if_neg (bm _)])]
 rcases cI l.length (fun i => if l.getD i default = v then some true else none) () with ⟨e, h⟩ | ⟨j, z, hj, hf, e⟩
 ·rw [e]
  have : ¬ v ∈ l := by
   intro hm
   obtain ⟨i, hi, rfl⟩ := List.mem_iff_getElem.1 hm
   have := h i hi
   simp [List.getD, hi] at this
  show some false = _
  simp [this]
 ·rw [e]
  by_cases hh : l.getD j default = v
  ·rw [if_pos hh] at hf
   simp only [Option.some.injEq] at hf
   subst hf
   have : v ∈ l := by rw [← hh]; exact bi hj
   show some true = _
   simp [this]
  ·rw [if_neg hh] at hf; cases hf
def inV (s : ag) (v : Int) : Prop := 0 ≤ v ∧ v < (s.vars.length : Int)
instance (s : ag) (v : Int) : Decidable (inV s v) := inferInstanceAs (Decidable (_ ∧ _))
def tW (x : ai) (i : Nat) : Option ar :=
 if ¬ x.elem = 105 ∧ ¬ x.elem = 98 then some (ar.mk 10 (-2 - i)) else if x.n < 0 ∨ x.n > 300 then some (ar.mk 13 (-2 - i)) else none
def nX (s : ag) (i : Nat) : Option ar := tW (s.vars.getD i default) i
def inF (s : ag) (i : Nat) : Option ar :=
 if ¬ inV s (s.in_.getD i default) then some (ar.mk 16 (-1)) else if (s.in_.take i).contains (s.in_.getD i default) then some (ar.mk 8 (-1)) else none
def ml (s : ag) (i : Nat) : Option ar := if ¬ inV s (s.out_.getD i default) then some (ar.mk 16 (-1)) else none
def jj (s : ag) : ar :=
 if (s.vars.length : Int) > 400 ∨ (s.rules.length : Int) > 400 ∨ (s.in_.length : Int) > 400 ∨ (s.out_.length : Int) > 400 then ar.mk 7 (-1)
 else match dW s.vars.length (nX s) () with
  | .inr z => z
  | .inl _ => match dW s.in_.length (inF s) () with
   | .inr z => z
   | .inl _ => match dW s.out_.length (ml s) () with
    | .inr z => z
    | .inl _ => ar.mk 0 0
theorem wr2 (i : Nat) (h : i < 1000000) : IntKind.wrap .i64 (-2 - (i : Int)) = -2 - i := wr (by omega) (by omega)
theorem sS (s : ag) (c : Int) : gh (aw.mk s c) = some (jj s) := by
 have out : s.out_.length ≤ 400 → de (aw.mk s c) = some (match dW s.out_.length (ml s) () with | .inr z => z | .inl _ => ar.mk 0 0) := by
  intro hl
  unfold de
  rw [bI s.out_.length (ml s) () (fun i hi => by
   unfold eM ml inV
   rw [if_pos (ltI hi), if_pos (inI hi)]
   simp only [Int.toNat_natCast]
   rw [rt]
   simp only [Option.bind_some]
   by_cases h : 0 ≤ s.out_.getD i default ∧ s.out_.getD i default < (s.vars.length : Int)
   ·rw [if_pos (by simpa using h), if_neg (by simpa using h), wrs i (by omega)]
   ·rw [if_neg (by simpa using h), if_pos h]) (by unfold eM; rw [if_neg (bm _)])]
  cases dW s.out_.length (ml s) () <;> rfl
 have inn : s.in_.length ≤ 400 → s.out_.length ≤ 400 → cJ (aw.mk s c) = some (match dW s.in_.length (inF s) () with
   | .inr z => z
   | .inl _ => match dW s.out_.length (ml s) () with | .inr z => z | .inl _ => ar.mk 0 0) := by
  intro hl ho
  unfold cJ
  rw [bI s.in_.length (inF s) () (fun i hi => by
   unfold eN inF inV
   rw [if_pos (ltI hi), if_pos (inI hi)]
   simp only [Int.toNat_natCast]
   rw [rt]
   simp only [Option.bind_some]
   by_cases h : 0 ≤ s.in_.getD i default ∧ s.in_.getD i default < (s.vars.length : Int)
   ·rw [if_pos (by simpa using h), if_pos ⟨by omega, by omega⟩, rY _ _ (by simp; omega), if_neg (by simpa using h)]
    simp only [Option.bind_some]
    split
    ·rfl
    ·rw [wrs i (by omega)]
   ·rw [if_neg (by simpa using h), if_pos h]) (by unfold eN; rw [if_neg (bm _)])]
  cases dW s.in_.length (inF s) () with
  | inr z => rfl
  | inl _ => exact out ho
 have main : s.vars.length ≤ 400 → s.in_.length ≤ 400 → s.out_.length ≤ 400 → (bb (fun x14 => dO (aw.mk s c) x14) 0).bind (Sum.elim (fun _ => cJ (aw.mk s c)) (fun z15 => some z15)) = some (match dW s.vars.length (nX s) () with
   | .inr z => z
   | .inl _ => match dW s.in_.length (inF s) () with
    | .inr z => z
    | .inl _ => match dW s.out_.length (ml s) () with | .inr z => z | .inl _ => ar.mk 0 0) := by
  intro hv hl ho
  rw [bI s.vars.length (nX s) () (fun i hi => by
   unfold dO nX
   rw [if_pos (ltI hi), if_pos (inI hi)]
   simp only [Int.toNat_natCast]
   obtain ⟨x, hx⟩ : ∃ x, s.vars.getD i default = x := ⟨_, rfl⟩
   simp only [hx]
   unfold tW
   have tail : df (aw.mk s c) (i : Int) = some (match (if x.n < 0 ∨ x.n > 300 then some (ar.mk 13 (-2 - (i : Int))) else none) with | some z => .inr (.inr z) | none => .inl ((i + 1 : Nat) : Int)) := by
    unfold df
    simp only [Int.toNat_natCast, hx]
    by_cases h1 : x.n < 0
    ·rw [if_pos h1, if_pos (.inl h1), wr2 i (by omega)]
    ·rw [if_neg h1]
     by_cases h2 : x.n > 300
     ·rw [if_pos h2, if_pos (.inr h2), wr2 i (by omega)]
     ·rw [if_neg h2, if_neg (by omega), wrs i (by omega)]
   by_cases h1 : x.elem = 105
   ·rw [if_neg (by simpa using h1), if_neg (by simp [h1])]; rw [tail]; generalize (if x.n < 0 ∨ x.n > 300 then some (ar.mk 13 (-2 - (i : Int))) else none) = q; cases q <;> rfl
   ·rw [if_pos h1]
    by_cases h2 : x.elem = 98
    ·rw [if_neg (by simpa using h2), if_neg (by simp [h2])]; rw [tail]; generalize (if x.n < 0 ∨ x.n > 300 then some (ar.mk 13 (-2 - (i : Int))) else none) = q; cases q <;> rfl
    ·rw [if_pos h2, if_pos ⟨h1, h2⟩, wr2 i (by omega)]) (by unfold dO; rw [if_neg (bm _)])]
  cases dW s.vars.length (nX s) () with
  | inr z => rfl
  | inl _ => exact inn hl ho
 unfold gh jj
 by_cases h1 : (s.vars.length : Int) > 400
 ·rw [if_pos h1, if_pos (.inl h1)]
 rw [if_neg h1]
 by_cases h2 : (s.rules.length : Int) > 400
 ·rw [if_pos h2, if_pos (.inr (.inl h2))]
 rw [if_neg h2]
 by_cases h3 : (s.in_.length : Int) > 400
 ·rw [if_pos h3, if_pos (.inr (.inr (.inl h3)))]
 rw [if_neg h3]
 by_cases h4 : (s.out_.length : Int) > 400
 ·rw [if_pos h4, if_pos (.inr (.inr (.inr h4)))]
 rw [if_neg h4, if_neg (by omega)]
 exact main (by omega) (by omega) (by omega)
theorem sT (s : ag) : jK s = some (jj s) := by
 have hF : ∀ a b, eR a b = some (ar.mk a b) := fun _ _ => rfl
 have out : s.out_.length ≤ 400 → fa s = some (match dW s.out_.length (ml s) () with | .inr z => z | .inl _ => ar.mk 0 0) := by
  intro hl
  unfold fa
  rw [bI s.out_.length (ml s) () (fun i hi => by
   unfold gT ml inV
   rw [if_pos (ltI hi), if_pos (inI hi)]
   simp only [Int.toNat_natCast]
   by_cases h1 : s.out_.getD i default < 0
   ·rw [if_pos h1, if_pos (by omega), hF]; rfl
   ·rw [if_neg h1]
    by_cases h2 : s.out_.getD i default ≥ (s.vars.length : Int)
    ·rw [if_pos h2, if_pos (by omega), hF]; rfl
    ·rw [if_neg h2, if_neg (by omega), wrs i (by omega)]) (by unfold gT; rw [if_neg (bm _)])]
  cases dW s.out_.length (ml s) () <;> rfl
 have inn : s.in_.length ≤ 400 → s.out_.length ≤ 400 → d5 s = some (match dW s.in_.length (inF s) () with
   | .inr z => z
   | .inl _ => match dW s.out_.length (ml s) () with | .inr z => z | .inl _ => ar.mk 0 0) := by
  intro hl ho
  unfold d5
  rw [bI s.in_.length (inF s) () (fun i hi => by
   unfold gU inF inV
   rw [if_pos (ltI hi), if_pos (inI hi)]
   simp only [Int.toNat_natCast]
   by_cases h1 : s.in_.getD i default < 0
   ·rw [if_pos h1, if_pos (by omega), hF]; rfl
   ·rw [if_neg h1]
    by_cases h2 : s.in_.getD i default ≥ (s.vars.length : Int)
    ·rw [if_pos h2, if_pos (by omega), hF]; rfl
    ·rw [if_neg h2, if_pos ⟨by omega, by omega⟩, if_neg (by omega), jR _ _ (by simp; omega)]
     simp only [Option.bind_some, hF]
     split
     ·rfl
     ·rw [wrs i (by omega)]) (by unfold gU; rw [if_neg (bm _)])]
  cases dW s.in_.length (inF s) () with
  | inr z => rfl
  | inl _ => exact out ho
 have main : s.vars.length ≤ 400 → s.in_.length ≤ 400 → s.out_.length ≤ 400 → (bb (fun x21 => fS s x21) 0).bind (Sum.elim (fun _ => d5 s) (fun z25 => some z25)) = some (match dW s.vars.length (nX s) () with
   | .inr z => z
   | .inl _ => match dW s.in_.length (inF s) () with
    | .inr z => z
    | .inl _ => match dW s.out_.length (ml s) () with | .inr z => z | .inl _ => ar.mk 0 0) := by
  intro hv hl ho
  rw [bI s.vars.length (nX s) () (fun i hi => by
   unfold fS nX
   rw [if_pos (ltI hi), if_pos (inI hi)]
   simp only [Int.toNat_natCast]
   obtain ⟨x, hx⟩ : ∃ x, s.vars.getD i default = x := ⟨_, rfl⟩
   simp only [hx]
   unfold tW
   have tail : fb s (i : Int) = some (match (if x.n < 0 ∨ x.n > 300 then some (ar.mk 13 (-2 - (i : Int))) else none) with | some z => .inr (.inr z) | none => .inl ((i + 1 : Nat) : Int)) := by
    unfold fb
    rw [if_pos (inI hi)]
    simp only [Int.toNat_natCast, hx]
    by_cases h1 : x.n < 0
    ·rw [if_pos h1, if_pos (.inl h1), wr2 i (by omega), hF]; rfl
    ·rw [if_neg h1]
     by_cases h2 : x.n > 300
     ·rw [if_pos h2, if_pos (.inr h2), wr2 i (by omega), hF]; rfl
     ·rw [if_neg h2, if_neg (by omega), wrs i (by omega)]
   by_cases h1 : x.elem = 105
   ·rw [if_neg (by simpa using h1), if_neg (by simp [h1])]; rw [tail]; generalize (if x.n < 0 ∨ x.n > 300 then some (ar.mk 13 (-2 - (i : Int))) else none) = q; cases q <;> rfl
   ·rw [if_pos h1]
    by_cases h2 : x.elem = 98
    ·rw [if_neg (by simpa using h2), if_neg (by simp [h2])]; rw [tail]; generalize (if x.n < 0 ∨ x.n > 300 then some (ar.mk 13 (-2 - (i : Int))) else none) = q; cases q <;> rfl
    ·rw [if_pos h2, if_pos ⟨h1, h2⟩, wr2 i (by omega), hF]; rfl) (by unfold fS; rw [if_neg (bm _)])]
  cases dW s.vars.length (nX s) () with
  | inr z => rfl
  | inl _ => exact inn hl ho
 unfold jK jj
 by_cases h1 : (s.vars.length : Int) > 400
 ·rw [if_pos h1, if_pos (.inl h1)]; rfl
 rw [if_neg h1]
 by_cases h3 : (s.in_.length : Int) > 400
 ·rw [if_pos h3, if_pos (.inr (.inr (.inl h3)))]; rfl
 rw [if_neg h3]
 by_cases h4 : (s.out_.length : Int) > 400
 ·rw [if_pos h4, if_pos (.inr (.inr (.inr h4)))]; rfl
 rw [if_neg h4]
 by_cases h2 : (s.rules.length : Int) > 400
 ·rw [if_pos h2, if_pos (.inr (.inl h2))]; rfl
 rw [if_neg h2, if_neg (by omega)]
 exact main (by omega) (by omega) (by omega)
end Pam

namespace Pam
open Go
def opT (k : Int) : Int × Int × Int :=
 if 1 ≤ k ∧ k ≤ 7 then (105, 105, 2) else if k = 8 ∨ k = 9 then (105, 98, 2) else if 10 ≤ k ∧ k ≤ 12 then (98, 98, 2) else if k = 13 then (105, 105, 1) else if k = 14 then (98, 98, 1) else (0, 0, 0)
theorem fH (k : Int) : i4 k = some (opT k) := by
 unfold i4 opT
 repeat' split
 all_goals first
  | rfl
  | (exfalso; omega)
theorem cB (k : Int) : i8 k = some (opT k) := by
 unfold i8
 by_cases h1 : k < 1
 ·rw [if_pos h1]; unfold opT
  rw [if_neg (by omega), if_neg (by omega), if_neg (by omega), if_neg (by omega), if_neg (by omega)]
 rw [if_neg h1]
 by_cases h2 : k > 14
 ·rw [if_pos h2]; unfold opT
  rw [if_neg (by omega), if_neg (by omega), if_neg (by omega), if_neg (by omega), if_neg (by omega)]
 rw [if_neg h2]
 have : k = 1 ∨ k = 2 ∨ k = 3 ∨ k = 4 ∨ k = 5 ∨ k = 6 ∨ k = 7 ∨ k = 8 ∨ k = 9 ∨ k = 10 ∨ k = 11 ∨ k = 12 ∨ k = 13 ∨ k = 14 := by omega
 rcases this with rfl | rfl | rfl | rfl | rfl | rfl | rfl | rfl | rfl | rfl | rfl | rfl | rfl | rfl <;> rfl
theorem uY (k : Int) : (opT k).2.2 = 0 ∨ ((opT k).1 = 105 ∨ (opT k).1 = 98) ∧ ((opT k).2.1 = 105 ∨ (opT k).2.1 = 98) := by
 unfold opT
 repeat' split
 all_goals simp
def d7 (s : ag) (n : Int) (p : aD) (rs : List Int) : Option (List Int) :=
 if p.op = 1 then (if p.k = 0 then some (105 :: rs) else if p.k = 1 ∧ (p.n = 0 ∨ p.n = 1) then some (98 :: rs) else none)
 else if p.op = 2 then (if (s.vars.getD p.v.toNat default).n = 0 then some ((s.vars.getD p.v.toNat default).elem :: rs) else none)
 else if p.op = 3 then (if (s.vars.getD p.v.toNat default).n > 0 ∧ p.n ≥ 0 ∧ p.n ≤ (s.vars.getD p.v.toNat default).n - n then some ((s.vars.getD p.v.toNat default).elem :: rs) else none)
 else if p.op = 4 then (if p.n ≥ -1000000 ∧ p.n ≤ 1000000 then some (105 :: rs) else none)
 else if p.op = 5 then (match rs with
  | a :: r => if (opT p.k).2.2 = 1 ∧ a = (opT p.k).1 then some ((opT p.k).2.1 :: r) else none
  | [] => none)
 else if p.op = 6 then (match rs with
  | a :: b :: r => if (opT p.k).2.2 = 2 ∧ a = (opT p.k).1 ∧ b = (opT p.k).1 then some ((opT p.k).2.1 :: r) else none
  | _ => none)
 else if p.op = 7 then (match rs with
  | a :: b :: c :: r => if c = 98 ∧ b = a then some (a :: r) else none
  | _ => none)
 else if p.op = 8 then (match rs with
  | a :: b :: r => if (s.vars.getD p.v.toNat default).n > 0 ∧ b = 105 ∧ a = (s.vars.getD p.v.toNat default).elem then some ((s.vars.getD p.v.toNat default).elem :: r) else none
  | _ => none)
 else none
def okE (x : Int) : Prop := x = 105 ∨ x = 98
def okS (rs : List Int) : Prop := ∀ x ∈ rs, okE x
structure fP (s : ag) : Prop where
 e : ∀ v ∈ s.vars, okE v.elem
 n : ∀ v ∈ s.vars, 0 ≤ v.n ∧ v.n ≤ 300
def pC (s : ag) (p : aD) : Prop := (p.op = 2 ∨ p.op = 3 ∨ p.op = 8) → inV s p.v
theorem uZ {s : ag} {n : Int} {p : aD} {rs rs' : List Int} (hv : fP s) (hu : pC s p) (hs : okS rs) (h : d7 s n p rs = some rs') : okS rs' ∧ rs'.length ≤ rs.length + 1 := by
 have hel : p.op = 2 ∨ p.op = 3 ∨ p.op = 8 → okE (s.vars.getD p.v.toNat default).elem := fun ho => hv.e _ (bi (by have := hu ho; unfold inV at this; omega))
 have cons : ∀ {x : Int} {r : List Int}, okE x → okS r → okS (x :: r) := fun h1 h2 y hy => by
  rcases List.mem_cons.1 hy with rfl | hy
  ·exact h1
  ·exact h2 y hy
 have tl : ∀ {x : Int} {r : List Int}, okS (x :: r) → okS r := fun h1 y hy => h1 y (by simp [hy])
 have hk : ∀ m : Int, (opT p.k).2.2 = m → m ≠ 0 → okE (opT p.k).2.1 := fun m h1 h2 => by
  rcases uY p.k with h | h
  ·exact absurd (h1.symm.trans h) h2
  ·exact h.2
 unfold d7 at h
 by_cases h1 : p.op = 1
 ·rw [if_pos h1] at h
  split at h
  ·simp only [Option.some.injEq] at h; subst h; exact ⟨cons (.inl rfl) hs, by simp⟩
  ·split at h
   ·simp only [Option.some.injEq] at h; subst h; exact ⟨cons (.inr rfl) hs, by simp⟩
   ·cases h
 rw [if_neg h1] at h
 by_cases h2 : p.op = 2
 ·rw [if_pos h2] at h
  split at h
  ·simp only [Option.some.injEq] at h; subst h; exact ⟨cons (hel (.inl h2)) hs, by simp⟩
  ·cases h
 rw [if_neg h2] at h
 by_cases h3 : p.op = 3
 ·rw [if_pos h3] at h
  split at h
  ·simp only [Option.some.injEq] at h; subst h; exact ⟨cons (hel (.inr (.inl h3))) hs, by simp⟩
  ·cases h
 rw [if_neg h3] at h
 by_cases h4 : p.op = 4
 ·rw [if_pos h4] at h
  split at h
  ·simp only [Option.some.injEq] at h; subst h; exact ⟨cons (.inl rfl) hs, by simp⟩
  ·cases h
 rw [if_neg h4] at h
 by_cases h5 : p.op = 5
 ·rw [if_pos h5] at h
  split at h
  ·split at h
   ·rename_i hc
    simp only [Option.some.injEq] at h; subst h; exact ⟨cons (hk 1 hc.1 (by decide)) (tl hs), by simp⟩
   ·cases h
  ·cases h
 rw [if_neg h5] at h
 by_cases h6 : p.op = 6
 ·rw [if_pos h6] at h
  split at h
  ·split at h
   ·rename_i hc
    simp only [Option.some.injEq] at h; subst h; exact ⟨cons (hk 2 hc.1 (by decide)) (tl (tl hs)), by simp⟩
   ·cases h
  ·cases h
 rw [if_neg h6] at h
 by_cases h7 : p.op = 7
 ·rw [if_pos h7] at h
  split at h
  ·split at h
   ·simp only [Option.some.injEq] at h; subst h; exact ⟨cons (hs _ (by simp)) (tl (tl (tl hs))), by simp⟩
   ·cases h
  ·cases h
 rw [if_neg h7] at h
 by_cases h8 : p.op = 8
 ·rw [if_pos h8] at h
  split at h
  ·split at h
   ·simp only [Option.some.injEq] at h; subst h; exact ⟨cons (hel (.inr (.inr h8))) (tl (tl hs)), by simp⟩
   ·cases h
  ·cases h
 rw [if_neg h8] at h
 cases h
theorem pD (n : Nat) (h : n ≤ 1000000) : d3 n 1 := by
 unfold d3
 have : maxLen = 9223372036854775807 := rfl
 omega
theorem fd (l : List Int) : l.reverse.length = l.length := by simp
theorem rv1 (a : Int) (r : List Int) : ((a :: r).reverse).getD r.length default = a ∧ ((a :: r).reverse).take r.length = r.reverse := by
 constructor
 ·simp [List.getD]
 ·simp
theorem rv2 (a b : Int) (r : List Int) : ((a :: b :: r).reverse).getD r.length default = b ∧ ((a :: b :: r).reverse).getD (r.length + 1) default = a ∧ ((a :: b :: r).reverse).take r.length = r.reverse := by
 refine ⟨?_, ?_, ?_⟩
 ·simp [List.getD]
 ·have := (rv1 a (b :: r)).1
  simpa using this
 ·simp
theorem rv3 (a b c : Int) (r : List Int) : ((a :: b :: c :: r).reverse).getD r.length default = c ∧ ((a :: b :: c :: r).reverse).getD (r.length + 1) default = b ∧ ((a :: b :: c :: r).reverse).getD (r.length + 2) default = a ∧ ((a :: b :: c :: r).reverse).take r.length = r.reverse := by
 refine ⟨?_, ?_, ?_, ?_⟩
 ·simp [List.getD]
 ·have := (rv2 a b (c :: r)).1
  simpa using this
 ·have := (rv1 a (b :: c :: r)).1
  simpa using this
 ·simp
def gO (k : Nat) (rs : List Int) : Int := rs.getD (k - 1) 0
theorem sU (k : Nat) (rs : List Int) (hk : 1 ≤ k ∧ k ≤ 3) (hl : rs.length ≤ 1000) : bl (k : Int) rs.reverse = some (gO k rs) := by
 unfold bl gO
 rw [fd]
 by_cases h : (k : Int) > (rs.length : Int)
 ·rw [if_pos h]
  have : rs.length ≤ k - 1 := by omega
  simp [List.getD, List.getElem?_eq_none this]
 ·rw [if_neg h, wr (by omega) (by omega), if_pos (by omega)]
  congr 1
  have e : ((rs.length : Int) - (k : Int)).toNat = rs.length - k := by omega
  rw [e]
  have h1 : rs.length - k < rs.reverse.length := by simp; omega
  have h2 : k - 1 < rs.length := by omega
  simp only [List.getD, List.getElem?_eq_getElem h1, List.getElem?_eq_getElem h2, Option.getD_some, List.getElem_reverse]
  congr 1
  omega
end Pam

namespace Pam
open Go
theorem vW {e : List aD} {n : Int} {j : aw} {l : List Int} {i : Nat} {t m : Int} (hi : i < e.length) (h : aK (e.getD i default) n j l = some (t, m, false)) :
  a8 e n j l (i : Int) = some (.inr (.inr (0, false))) := by
 unfold a8
 rw [if_pos (ltI hi), if_pos (inI hi)]
 simp only [Int.toNat_natCast]
 rw [h]
 rfl
theorem wy {e : List aD} {n : Int} {j : aw} {l : List Int} {i : Nat} {m : Int} (k : Nat) (hi : i < e.length) (h : aK (e.getD i default) n j l = some ((k : Int), m, true)) (hl : k ≤ l.length) (hb : l.length ≤ 1000) (hi' : i < 100000) :
  a8 e n j l (i : Int) = some (.inl (l.take (l.length - k) ++ [m], ((i + 1 : Nat) : Int))) := by
 unfold a8
 rw [if_pos (ltI hi), if_pos (inI hi)]
 simp only [Int.toNat_natCast]
 rw [h]
 simp only [Option.bind_some, if_true]
 rw [if_neg (by omega), wr (by omega) (by omega), if_pos ⟨by omega, pD _ (by omega)⟩, wrs i (by omega)]
 have : ((l.length : Int) - (k : Int)).toNat = l.length - k := by omega
 rw [this]
 rfl
theorem vX (l : List Int) (x : Int) : l.reverse.take (l.reverse.length - 0) ++ [x] = (x :: l).reverse := by
 rw [Nat.sub_zero, List.take_length]; simp
theorem u3 {k m : Int} (h : (opT k).2.2 = m) (hm : m ≠ 0) : (opT k).1 ≠ 0 := by
 rcases uY k with h' | h'
 ·exact absurd (h.symm.trans h') hm
 ·rcases h'.1 with h | h <;> omega
def yv {Z : Type} (z : Z) (i : Nat) : Option (List Int) → (List Int × Int) ⊕ (List Int ⊕ Z)
 | some rs' => .inl (rs'.reverse, ((i + 1 : Nat) : Int))
 | none => .inr (.inr z)
theorem vY {s : ag} {c : Int} {e : List aD} {n : Int} {rs : List Int} {i : Nat} (hv : fP s) (hu : pC s (e.getD i default)) (hs : okS rs) (hn : 1 ≤ n ∧ n ≤ 300) (hl : rs.length ≤ 900) (hi : i < e.length) (hi' : i < 100000) :
  a8 e n (aw.mk s c) rs.reverse (i : Int) = some (yv (0, false) i (d7 s n (e.getD i default) rs)) := by
 have hb : rs.reverse.length ≤ 1000 := by simp; omega
 have ok0 : ∀ m, aK (e.getD i default) n (aw.mk s c) rs.reverse = some (0, m, true) → a8 e n (aw.mk s c) rs.reverse (i : Int) = some (.inl ((m :: rs).reverse, ((i + 1 : Nat) : Int))) := fun m h => by
  rw [wy 0 hi h (by omega) hb hi', vX]
 have fail : ∀ t m, aK (e.getD i default) n (aw.mk s c) rs.reverse = some (t, m, false) → a8 e n (aw.mk s c) rs.reverse (i : Int) = some (.inr (.inr (0, false))) := fun t m h => vW hi h
 have okk : ∀ (k : Nat) (m : Int) (r : List Int), aK (e.getD i default) n (aw.mk s c) rs.reverse = some ((k : Int), m, true) → rs.length = r.length + k → rs.reverse.take r.length = r.reverse →
   a8 e n (aw.mk s c) rs.reverse (i : Int) = some (.inl ((m :: r).reverse, ((i + 1 : Nat) : Int))) := fun k m r h h1 h2 => by
  rw [wy k hi h (by rw [fd]; omega) hb hi', fd, show rs.length - k = r.length by omega, h2]
  simp
 have t1 := sU 1 rs (by omega) (by omega)
 have t2 := sU 2 rs (by omega) (by omega)
 have t3 := sU 3 rs (by omega) (by omega)
 simp only [Int.natCast_one, Int.cast_ofNat_Int] at t1 t2 t3
 generalize hp : e.getD i default = p at *
 have hvar : p.op = 2 ∨ p.op = 3 ∨ p.op = 8 → (0 ≤ p.v ∧ p.v < (s.vars.length : Int)) ∧ (0 ≤ (s.vars.getD p.v.toNat default).n ∧ (s.vars.getD p.v.toNat default).n ≤ 300) ∧ okE (s.vars.getD p.v.toNat default).elem := fun ho => by
  have h := hu ho
  have hm : s.vars.getD p.v.toNat default ∈ s.vars := bi (by unfold inV at h; omega)
  exact ⟨h, hv.n _ hm, hv.e _ hm⟩
 by_cases h1 : p.op = 1
 ·have hst : aK p n (aw.mk s c) rs.reverse = if p.k = 1 then (if p.n = 0 then some (0, 98, true) else some (0, 98, p.n == 1)) else some (0, 105, p.k == 0) := by
   unfold aK; rw [if_pos h1]
  unfold d7; rw [if_pos h1]
  by_cases k0 : p.k = 0
  ·rw [if_pos k0]; exact ok0 105 (by rw [hst, if_neg (by omega), k0]; rfl)
  ·rw [if_neg k0]
   by_cases k1 : p.k = 1
   ·by_cases n0 : p.n = 0
    ·rw [if_pos ⟨k1, .inl n0⟩]; exact ok0 98 (by rw [hst, if_pos k1, if_pos n0])
    ·by_cases n1 : p.n = 1
     ·rw [if_pos ⟨k1, .inr n1⟩]; exact ok0 98 (by rw [hst, if_pos k1, if_neg n0, n1]; rfl)
     ·rw [if_neg (by omega)]; exact fail 0 98 (by rw [hst, if_pos k1, if_neg n0, beq_eq_false_iff_ne.2 n1])
   ·rw [if_neg (by omega)]; exact fail 0 105 (by rw [hst, if_neg k1, beq_eq_false_iff_ne.2 k0])
 by_cases h2 : p.op = 2
 ·obtain ⟨q1, q2, q3⟩ := hvar (.inl h2)
  have hst : aK p n (aw.mk s c) rs.reverse = some (0, (s.vars.getD p.v.toNat default).elem, (s.vars.getD p.v.toNat default).n == 0) := by
   unfold aK; rw [if_neg h1, if_pos h2, if_pos q1]
  unfold d7; rw [if_neg h1, if_pos h2]
  by_cases n0 : (s.vars.getD p.v.toNat default).n = 0
  ·rw [if_pos n0]; exact ok0 _ (by rw [hst, n0]; rfl)
  ·rw [if_neg n0]; exact fail _ _ (by rw [hst, beq_eq_false_iff_ne.2 n0])
 by_cases h3 : p.op = 3
 ·obtain ⟨q1, q2, q3⟩ := hvar (.inr (.inl h3))
  have hst : aK p n (aw.mk s c) rs.reverse = some (0, (s.vars.getD p.v.toNat default).elem, decide ((s.vars.getD p.v.toNat default).n > 0 ∧ p.n ≥ 0 ∧ p.n ≤ (s.vars.getD p.v.toNat default).n - n)) := by
   unfold aK; rw [if_neg h1, if_neg h2, if_pos h3, if_pos q1]
   simp only
   rw [wr (by omega) (by omega)]
   by_cases a : (s.vars.getD p.v.toNat default).n > 0
   ·rw [if_pos a]
    by_cases b : p.n ≥ 0
    ·rw [if_pos b]; congr 3; rw [decide_eq_decide]; exact ⟨fun h => ⟨a, b, h⟩, fun h => h.2.2⟩
    ·rw [if_neg b, decide_eq_false (fun h => b h.2.1)]
   ·rw [if_neg a, decide_eq_false (fun h => a h.1)]
  unfold d7; rw [if_neg h1, if_neg h2, if_pos h3]
  by_cases a : (s.vars.getD p.v.toNat default).n > 0 ∧ p.n ≥ 0 ∧ p.n ≤ (s.vars.getD p.v.toNat default).n - n
  ·rw [if_pos a]; exact ok0 _ (by rw [hst, decide_eq_true a])
  ·rw [if_neg a]; exact fail _ _ (by rw [hst, decide_eq_false a])
 by_cases h4 : p.op = 4
 ·have hst : aK p n (aw.mk s c) rs.reverse = some (0, 105, decide (p.n ≥ -1000000 ∧ p.n ≤ 1000000)) := by
   unfold aK; rw [if_neg h1, if_neg h2, if_neg h3, if_pos h4]
   by_cases a : p.n ≥ -1000000
   ·rw [if_pos a]; simp [a]
   ·rw [if_neg a]; simp [a]
  unfold d7; rw [if_neg h1, if_neg h2, if_neg h3, if_pos h4]
  by_cases a : p.n ≥ -1000000 ∧ p.n ≤ 1000000
  ·rw [if_pos a]; exact ok0 _ (by rw [hst, decide_eq_true a])
  ·rw [if_neg a]; exact fail _ _ (by rw [hst, decide_eq_false a])
 have w5 : IntKind.wrap .i64 (IntKind.wrap .i64 ((5 : Int) - 5) + 1) = 1 := by decide
 have w6 : IntKind.wrap .i64 (IntKind.wrap .i64 ((6 : Int) - 5) + 1) = 2 := by decide
 by_cases h5 : p.op = 5
 ·have hst : aK p n (aw.mk s c) rs.reverse = if (opT p.k).2.2 = 1 then (if gO 1 rs = (opT p.k).1 then some ((opT p.k).2.2, (opT p.k).2.1, true) else some ((opT p.k).2.2, (opT p.k).2.1, false)) else some ((opT p.k).2.2, (opT p.k).2.1, false) := by
   unfold aK; rw [if_neg h1, if_neg h2, if_neg h3, if_neg h4, if_pos h5, show (p.op == 5) = true by simp [h5]]
   unfold bC
   rw [if_pos rfl, fH]
   simp only [Option.bind_some]
   rw [h5, w5, t1]
   simp only [Option.bind_some]
   by_cases a : (opT p.k).2.2 = 1
   ·rw [if_pos a, if_pos a, if_pos a]
   ·rw [if_neg a, if_neg a]
  unfold d7; rw [if_neg h1, if_neg h2, if_neg h3, if_neg h4, if_pos h5]
  by_cases a : (opT p.k).2.2 = 1
  ·rw [if_pos a] at hst
   have nz := u3 a (by decide)
   cases rs with
   | nil =>
    rw [if_neg (by show ¬ (0 : Int) = _; omega)] at hst
    exact fail _ _ hst
   | cons x r =>
    by_cases b : x = (opT p.k).1
    ·rw [if_pos (show gO 1 (x :: r) = _ from b), a] at hst
     simp only
     rw [if_pos ⟨a, b⟩]
     exact okk 1 _ r hst (by simp) (rv1 x r).2
    ·rw [if_neg (show ¬ gO 1 (x :: r) = _ from b)] at hst
     simp only
     rw [if_neg (fun h => b h.2)]
     exact fail _ _ hst
  ·rw [if_neg a] at hst
   have f := fail _ _ hst
   cases rs with
   | nil => exact f
   | cons x r => simp only; rw [if_neg (fun h => a h.1)]; exact f
 by_cases h6 : p.op = 6
 ·have hst : aK p n (aw.mk s c) rs.reverse = if (opT p.k).2.2 = 2 then (if gO 1 rs = (opT p.k).1 then some ((opT p.k).2.2, (opT p.k).2.1, gO 2 rs == (opT p.k).1) else some ((opT p.k).2.2, (opT p.k).2.1, false)) else some ((opT p.k).2.2, (opT p.k).2.1, false) := by
   unfold aK; rw [if_neg h1, if_neg h2, if_neg h3, if_neg h4, if_neg h5, show (p.op == 6) = true by simp [h6]]
   unfold bC
   rw [if_pos rfl, fH]
   simp only [Option.bind_some]
   rw [h6, w6, t1]
   simp only [Option.bind_some]
   by_cases a : (opT p.k).2.2 = 2
   ·rw [if_pos a, if_pos a, if_neg (by omega : ¬ (opT p.k).2.2 = 1), t2]
    simp only [Option.bind_some]
   ·rw [if_neg a, if_neg a]
  unfold d7; rw [if_neg h1, if_neg h2, if_neg h3, if_neg h4, if_neg h5, if_pos h6]
  by_cases a : (opT p.k).2.2 = 2
  ·rw [if_pos a] at hst
   have nz := u3 a (by decide)
   match rs, hst, okk, fail with
   | [], hst, _, fail =>
    rw [if_neg (by show ¬ (0 : Int) = _; omega)] at hst
    exact fail _ _ hst
   | [x], hst, _, fail =>
    have : (gO 2 [x] == (opT p.k).1) = false := beq_eq_false_iff_ne.2 (by show (0 : Int) ≠ _; omega)
    rw [this] at hst
    exact fail _ _ (by rw [hst]; split <;> rfl)
   | x :: y :: r, hst, okk, fail =>
    simp only
    by_cases b : x = (opT p.k).1
    ·rw [if_pos (show gO 1 (x :: y :: r) = _ from b), a] at hst
     by_cases d : y = (opT p.k).1
     ·rw [show (gO 2 (x :: y :: r) == (opT p.k).1) = true from beq_iff_eq.2 d] at hst
      rw [if_pos ⟨a, b, d⟩]
      exact okk 2 _ r hst (by simp) (rv2 x y r).2.2
     ·rw [show (gO 2 (x :: y :: r) == (opT p.k).1) = false from beq_eq_false_iff_ne.2 d] at hst
      rw [if_neg (fun h => d h.2.2)]
      exact fail _ _ hst
    ·rw [if_neg (show ¬ gO 1 (x :: y :: r) = _ from b)] at hst
     rw [if_neg (fun h => b h.2.1)]
     exact fail _ _ hst
  ·rw [if_neg a] at hst
   have f := fail _ _ hst
   match rs, f with
   | [], f => exact f
   | [x], f => exact f
   | x :: y :: r, f => simp only; rw [if_neg (fun h => a h.1)]; exact f
 by_cases h7 : p.op = 7
 ·have hst : aK p n (aw.mk s c) rs.reverse = if gO 3 rs = 98 then (if gO 1 rs = gO 2 rs then some (3, gO 1 rs, gO 1 rs != 0) else some (3, gO 1 rs, false)) else some (3, gO 1 rs, false) := by
   unfold aK; rw [if_neg h1, if_neg h2, if_neg h3, if_neg h4, if_neg h5, show (p.op == 6) = false by simp [h6]]
   unfold bC
   rw [if_neg (by decide), if_pos h7, t1, t3]
   simp only [Option.bind_some]
   rw [t2]
   simp only [Option.bind_some]
  unfold d7; rw [if_neg h1, if_neg h2, if_neg h3, if_neg h4, if_neg h5, if_neg h6, if_pos h7]
  match rs, hst, okk, fail, hs with
  | [], hst, _, fail, _ => rw [if_neg (by show ¬ (0 : Int) = _; omega)] at hst; exact fail _ _ hst
  | [x], hst, _, fail, _ => rw [if_neg (by show ¬ (0 : Int) = _; omega)] at hst; exact fail _ _ hst
  | [x, y], hst, _, fail, _ => rw [if_neg (by show ¬ (0 : Int) = _; omega)] at hst; exact fail _ _ hst
  | x :: y :: z :: r, hst, okk, fail, hs =>
   simp only
   by_cases b : z = 98
   ·rw [if_pos (show gO 3 (x :: y :: z :: r) = 98 from b)] at hst
    by_cases d : y = x
    ·have hx : x ≠ 0 := by rcases hs x (by simp) with h | h <;> omega
     rw [if_pos (show gO 1 (x :: y :: z :: r) = gO 2 (x :: y :: z :: r) from d.symm), show (gO 1 (x :: y :: z :: r) != 0) = true from bne_iff_ne.2 hx] at hst
     rw [if_pos ⟨b, d⟩]
     exact okk 3 x r hst (by simp) (rv3 x y z r).2.2.2
    ·rw [if_neg (show ¬ gO 1 (x :: y :: z :: r) = gO 2 (x :: y :: z :: r) from fun h => d h.symm)] at hst
     rw [if_neg (fun h => d h.2)]
     exact fail _ _ hst
   ·rw [if_neg (show ¬ gO 3 (x :: y :: z :: r) = 98 from b)] at hst
    rw [if_neg (fun h => b h.1)]
    exact fail _ _ hst
 by_cases h8 : p.op = 8
 ·obtain ⟨q1, q2, q3⟩ := hvar (.inr (.inr h8))
  have hst : aK p n (aw.mk s c) rs.reverse = if (s.vars.getD p.v.toNat default).n > 0 then (if gO 1 rs = (s.vars.getD p.v.toNat default).elem then some (2, (s.vars.getD p.v.toNat default).elem, gO 2 rs == 105) else some (2, (s.vars.getD p.v.toNat default).elem, false)) else some (2, (s.vars.getD p.v.toNat default).elem, false) := by
   unfold aK; rw [if_neg h1, if_neg h2, if_neg h3, if_neg h4, if_neg h5, show (p.op == 6) = false by simp [h6]]
   unfold bC
   rw [if_neg (by decide), if_neg h7, if_pos h8, if_pos q1, t1]
   simp only [Option.bind_some]
   rw [t2]
   simp only [Option.bind_some]
  unfold d7; rw [if_neg h1, if_neg h2, if_neg h3, if_neg h4, if_neg h5, if_neg h6, if_neg h7, if_pos h8]
  match rs, hst, okk, fail with
  | [], hst, _, fail =>
   by_cases a : (s.vars.getD p.v.toNat default).n > 0
   ·rw [if_pos a, if_neg (by show ¬ (0 : Int) = _; rcases q3 with h | h <;> omega)] at hst; exact fail _ _ hst
   ·rw [if_neg a] at hst; exact fail _ _ hst
  | [x], hst, _, fail =>
   rw [show (gO 2 [x] == 105) = false from rfl] at hst
   exact fail _ _ (by rw [hst]; split <;> (try split) <;> rfl)
  | x :: y :: r, hst, okk, fail =>
   simp only
   by_cases a : (s.vars.getD p.v.toNat default).n > 0
   ·rw [if_pos a] at hst
    by_cases b : x = (s.vars.getD p.v.toNat default).elem
    ·rw [if_pos (show gO 1 (x :: y :: r) = _ from b)] at hst
     by_cases d : y = 105
     ·rw [show (gO 2 (x :: y :: r) == 105) = true from beq_iff_eq.2 d] at hst
      rw [if_pos ⟨a, d, b⟩]
      exact okk 2 _ r hst (by simp) (rv2 x y r).2.2
     ·rw [show (gO 2 (x :: y :: r) == 105) = false from beq_eq_false_iff_ne.2 d] at hst
      rw [if_neg (fun h => d h.2.1)]
      exact fail _ _ hst
    ·rw [if_neg (show ¬ gO 1 (x :: y :: r) = _ from b)] at hst
     rw [if_neg (fun h => b h.2.2)]
     exact fail _ _ hst
   ·rw [if_neg a] at hst
    rw [if_neg (fun h => a h.1)]
    exact fail _ _ hst
 ·have hst : aK p n (aw.mk s c) rs.reverse = some (0, 0, false) := by
   unfold aK; rw [if_neg h1, if_neg h2, if_neg h3, if_neg h4, if_neg h5, show (p.op == 6) = false by simp [h6]]
   unfold bC
   rw [if_neg (by decide), if_neg h7, if_neg h8]
  unfold d7; rw [if_neg h1, if_neg h2, if_neg h3, if_neg h4, if_neg h5, if_neg h6, if_neg h7, if_neg h8]
  exact fail _ _ hst
end Pam

namespace Pam
open Go
theorem xr (x m : Int) (r : List Int) : ((x :: r).reverse).set r.length m = (m :: r).reverse := by simp
theorem wl1 (x : Int) (r : List Int) (h : r.length ≤ 1000) : IntKind.wrap .i64 (((x :: r).reverse.length : Int) - 1) = (r.length : Int) := by
 rw [fd, List.length_cons, wr (by omega) (by omega)]; omega
theorem wl2 (x y : Int) (r : List Int) (h : r.length ≤ 1000) : IntKind.wrap .i64 (((x :: y :: r).reverse.length : Int) - 2) = (r.length : Int) ∧ IntKind.wrap .i64 (((x :: y :: r).reverse.length : Int) - 1) = ((r.length + 1 : Nat) : Int) := by
 rw [fd, List.length_cons, List.length_cons, wr (by omega) (by omega), wr (by omega) (by omega)]; omega
theorem wl3 (x y z : Int) (r : List Int) (h : r.length ≤ 1000) : IntKind.wrap .i64 (((x :: y :: z :: r).reverse.length : Int) - 3) = (r.length : Int) ∧ IntKind.wrap .i64 (((x :: y :: z :: r).reverse.length : Int) - 2) = ((r.length + 1 : Nat) : Int) ∧
  IntKind.wrap .i64 (((x :: y :: z :: r).reverse.length : Int) - 1) = ((r.length + 2 : Nat) : Int) := by
 rw [fd, List.length_cons, List.length_cons, List.length_cons, wr (by omega) (by omega), wr (by omega) (by omega), wr (by omega) (by omega)]; omega
theorem iy (l : List Int) (x : Int) : l.reverse ++ (lit ([x] : List Int)) = (x :: l).reverse := by simp [lit]
theorem tX (n : Int) : jL n = some (decide (n ≥ -1000000 ∧ n ≤ 1000000)) := by
 unfold jL
 by_cases a : n ≥ -1000000
 ·rw [if_pos a]; simp [a]
 ·rw [if_neg a]; simp [a]
theorem vZ {s : ag} {e : List aD} {n : Int} {rs : List Int} {i : Nat} (hv : fP s) (hu : pC s (e.getD i default)) (hn : 1 ≤ n ∧ n ≤ 300) (hl : rs.length ≤ 900) (hi : i < e.length) (hi' : i < 100000) :
  d6 s e n rs.reverse (i : Int) = some (yv (0 : Int) i (d7 s n (e.getD i default) rs)) := by
 unfold d6
 rw [if_pos (ltI hi), if_pos (inI hi)]
 simp only [Int.toNat_natCast]
 rw [wrs i (by omega)]
 obtain ⟨p, hp⟩ : ∃ p, e.getD i default = p := ⟨_, rfl⟩
 simp only [hp]
 rw [hp] at hu
 have hroom : d3 (rs.reverse.length + 1) 1 := pD _ (by simp; omega)
 have hvar : p.op = 2 ∨ p.op = 3 ∨ p.op = 8 → (0 ≤ p.v ∧ p.v < (s.vars.length : Int)) ∧ (0 ≤ (s.vars.getD p.v.toNat default).n ∧ (s.vars.getD p.v.toNat default).n ≤ 300) := fun ho => by
  have h := hu ho
  have hm : s.vars.getD p.v.toNat default ∈ s.vars := bi (by unfold inV at h; omega)
  exact ⟨h, hv.n _ hm⟩
 by_cases h1 : p.op = 1
 ·unfold d7; rw [if_pos h1, if_pos h1]
  by_cases k0 : p.k = 0
  ·rw [if_pos k0, if_pos k0, if_pos hroom, iy]; rfl
  ·rw [if_neg k0, if_neg k0]
   by_cases k1 : p.k = 1
   ·rw [if_pos k1]
    by_cases n0 : p.n = 0
    ·rw [if_pos n0, if_pos hroom, iy, if_pos ⟨k1, .inl n0⟩]; rfl
    ·rw [if_neg n0]
     by_cases n1 : p.n = 1
     ·rw [if_pos n1, if_pos hroom, iy, if_pos ⟨k1, .inr n1⟩]; rfl
     ·rw [if_neg n1, if_neg (by omega)]; rfl
   ·rw [if_neg k1, if_neg (fun h => k1 h.1)]; rfl
 rw [if_neg h1]
 by_cases h2 : p.op = 2
 ·obtain ⟨q1, q2⟩ := hvar (.inl h2)
  unfold d7; rw [if_pos h2, if_neg h1, if_pos h2, if_pos q1]
  by_cases n0 : (s.vars.getD p.v.toNat default).n = 0
  ·rw [if_neg (fun h => h n0), if_pos hroom, iy, if_pos n0]; rfl
  ·rw [if_pos n0, if_neg n0]; rfl
 rw [if_neg h2]
 by_cases h3 : p.op = 3
 ·obtain ⟨q1, q2⟩ := hvar (.inr (.inl h3))
  unfold d7; rw [if_pos h3, if_neg h1, if_neg h2, if_pos h3, if_pos q1]
  by_cases n0 : (s.vars.getD p.v.toNat default).n = 0
  ·rw [if_pos n0, if_neg (by omega)]; rfl
  ·rw [if_neg n0]
   by_cases a : p.n < 0
   ·rw [if_pos a, if_neg (by omega)]; rfl
   ·rw [if_neg a]
    by_cases b : (s.vars.getD p.v.toNat default).n < n
    ·rw [if_pos b, if_neg (by omega)]; rfl
    ·rw [if_neg b, wr (by omega) (by omega)]
     by_cases d : p.n > (s.vars.getD p.v.toNat default).n - n
     ·rw [if_pos d, if_neg (by omega)]; rfl
     ·rw [if_neg d, if_pos hroom, iy, if_pos (by omega)]; rfl
 rw [if_neg h3]
 by_cases h4 : p.op = 4
 ·unfold d7; rw [if_pos h4, if_neg h1, if_neg h2, if_neg h3, if_pos h4, tX]
  simp only [Option.bind_some]
  by_cases a : p.n ≥ -1000000 ∧ p.n ≤ 1000000
  ·rw [if_pos (decide_eq_true a), if_pos hroom, iy, if_pos a]; rfl
  ·rw [if_neg (by simpa using a), if_neg a]; rfl
 rw [if_neg h4]
 by_cases h5 : p.op = 5
 ·unfold d7; rw [if_pos h5, if_neg h1, if_neg h2, if_neg h3, if_neg h4, if_pos h5, cB]
  simp only [Option.bind_some]
  match rs, hl with
  | [], _ =>
   split
   ·rfl
   ·rw [if_pos (by simp)]; rfl
  | x :: r, hl =>
   simp only [List.length_cons] at hl
   simp only
   by_cases a : (opT p.k).2.2 = 1
   ·rw [if_neg (fun h => h a), if_neg (by rw [fd]; simp; omega), wl1 _ _ (by omega), if_pos ⟨by omega, by rw [fd]; simp; omega⟩]
    simp only [Int.toNat_natCast]
    simp only [(rv1 x r).1]
    by_cases b : x = (opT p.k).1
    ·rw [if_neg (fun h => h b), xr, if_pos ⟨a, b⟩]; rfl
    ·rw [if_pos b, if_neg (fun h => b h.2)]; rfl
   ·rw [if_pos a, if_neg (fun h => a h.1)]; rfl
 rw [if_neg h5]
 by_cases h6 : p.op = 6
 ·unfold d7; rw [if_pos h6, if_neg h1, if_neg h2, if_neg h3, if_neg h4, if_neg h5, if_pos h6, cB]
  simp only [Option.bind_some]
  match rs, hl with
  | [], _ =>
   split
   ·rfl
   ·rw [if_pos (by simp)]; rfl
  | [x], _ =>
   split
   ·rfl
   ·rw [if_pos (by simp)]; rfl
  | x :: y :: r, hl =>
   simp only [List.length_cons] at hl
   simp only
   obtain ⟨w2, w1⟩ := wl2 x y r (by omega)
   obtain ⟨g1, g2, g3⟩ := rv2 x y r
   by_cases a : (opT p.k).2.2 = 2
   ·rw [if_neg (fun h => h a), if_neg (by rw [fd]; simp; omega), w1, if_pos ⟨by omega, by rw [fd]; simp; omega⟩]
    simp only [Int.toNat_natCast]
    simp only [g2]
    by_cases b : x = (opT p.k).1
    ·rw [if_neg (fun h => h b), w2, if_pos ⟨by omega, by rw [fd]; simp; omega⟩]
     simp only [Int.toNat_natCast]
     simp only [g1]
     by_cases d : y = (opT p.k).1
     ·rw [if_neg (fun h => h d), if_pos ⟨⟨by omega, by rw [fd]; simp; omega⟩, pD _ (by omega)⟩, g3, iy, if_pos ⟨a, b, d⟩]; rfl
     ·rw [if_pos d, if_neg (fun h => d h.2.2)]; rfl
    ·rw [if_pos b, if_neg (fun h => b h.2.1)]; rfl
   ·rw [if_pos a, if_neg (fun h => a h.1)]; rfl
 rw [if_neg h6]
 by_cases h7 : p.op = 7
 ·unfold d7; rw [if_pos h7, if_neg h1, if_neg h2, if_neg h3, if_neg h4, if_neg h5, if_neg h6, if_pos h7]
  match rs, hl with
  | [], _ => rw [if_pos (by simp)]; rfl
  | [x], _ => rw [if_pos (by simp)]; rfl
  | [x, y], _ => rw [if_pos (by simp)]; rfl
  | x :: y :: z :: r, hl =>
   simp only [List.length_cons] at hl
   simp only
   obtain ⟨w3, w2, w1⟩ := wl3 x y z r (by omega)
   obtain ⟨g1, g2, g3, g4⟩ := rv3 x y z r
   rw [if_neg (by rw [fd]; simp; omega), w3, if_pos ⟨by omega, by rw [fd]; simp; omega⟩]
   simp only [Int.toNat_natCast]
   simp only [g1]
   by_cases b : z = 98
   ·rw [if_neg (fun h => h b), w2, w1, if_pos ⟨⟨by omega, by rw [fd]; simp; omega⟩, by omega, by rw [fd]; simp; omega⟩]
    simp only [Int.toNat_natCast]
    simp only [g2, g3]
    by_cases d : y = x
    ·rw [if_neg (fun h => h d), if_pos ⟨⟨by omega, by rw [fd]; simp; omega⟩, pD _ (by omega)⟩, g4, iy, if_pos ⟨b, d⟩]; rfl
    ·rw [if_pos d, if_neg (fun h => d h.2)]; rfl
   ·rw [if_pos b, if_neg (fun h => b h.1)]; rfl
 rw [if_neg h7]
 by_cases h8 : p.op = 8
 ·obtain ⟨q1, q2⟩ := hvar (.inr (.inr h8))
  unfold d7; rw [if_pos h8, if_neg h1, if_neg h2, if_neg h3, if_neg h4, if_neg h5, if_neg h6, if_neg h7, if_pos h8, if_pos q1]
  match rs, hl with
  | [], _ =>
   split
   ·rfl
   ·rw [if_pos (by simp)]; rfl
  | [x], _ =>
   split
   ·rfl
   ·rw [if_pos (by simp)]; rfl
  | x :: y :: r, hl =>
   simp only [List.length_cons] at hl
   simp only
   obtain ⟨w2, w1⟩ := wl2 x y r (by omega)
   obtain ⟨g1, g2, g3⟩ := rv2 x y r
   by_cases a : (s.vars.getD p.v.toNat default).n = 0
   ·rw [if_pos a, if_neg (by omega)]; rfl
   ·rw [if_neg a, if_neg (by rw [fd]; simp; omega), w2, if_pos ⟨by omega, by rw [fd]; simp; omega⟩]
    simp only [Int.toNat_natCast]
    simp only [g1]
    by_cases b : y = 105
    ·rw [if_neg (fun h => h b), w1, if_pos ⟨by omega, by rw [fd]; simp; omega⟩]
     simp only [Int.toNat_natCast]
     simp only [g2]
     by_cases d : x = (s.vars.getD p.v.toNat default).elem
     ·rw [if_neg (fun h => h d), if_pos ⟨⟨by omega, by rw [fd]; simp; omega⟩, pD _ (by omega)⟩, g3, iy, if_pos ⟨by omega, b, d⟩]; rfl
     ·rw [if_pos d, if_neg (fun h => d h.2.2)]; rfl
    ·rw [if_pos b, if_neg (fun h => b h.2.1)]; rfl
 ·rw [if_neg h8]
  unfold d7; rw [if_neg h1, if_neg h2, if_neg h3, if_neg h4, if_neg h5, if_neg h6, if_neg h7, if_neg h8]; rfl
def rZ (s : ag) (n : Int) : List aD → List Int → Option (List Int)
 | [], rs => some rs
 | p :: e, rs => match d7 s n p rs with | some rs' => rZ s n e rs' | none => none
def qL (s : ag) (n : Int) (e : List aD) : Int := match rZ s n e [] with | some [x] => x | _ => 0
theorem pE {Z : Type} (s : ag) (n : Int) (z : Z) : ∀ (e : List aD) (i : Nat) (rs : List Int), jQ (fun _ a p => match d7 s n p a with | some a' => .inl a' | none => .inr z) i e rs = match rZ s n e rs with | some a => .inl a | none => .inr z
 | [], i, rs => rfl
 | p :: e, i, rs => by
  rw [jQ, rZ]
  cases d7 s n p rs with
  | none => rfl
  | some a => exact pE s n z e (i + 1) a
theorem tY {s : ag} {c : Int} {e : List aD} {n : Int} (hv : fP s) (hu : ∀ p ∈ e, pC s p) (hn : 1 ≤ n ∧ n ≤ 300) (he : e.length ≤ 800) :
  (∃ q : Int × Bool, gn e n (aw.mk s c) = some q ∧ (q.2 = true → q.1 = qL s n e ∧ okE q.1) ∧ (q.2 = false → qL s n e = 0)) ∧ i9 s e n = some (qL s n e) := by
 have I : ∀ (i : Nat) (a : List Int), i < e.length → (okS a ∧ a.length ≤ i) → ∀ a', d7 s n (e.getD i default) a = some a' → okS a' ∧ a'.length ≤ i + 1 := by
  intro i a hi ha a' h
  obtain ⟨k1, k2⟩ := uZ hv (hu _ (bi hi)) ha.1 h
  exact ⟨k1, by omega⟩
 obtain ⟨h1, h2⟩ := kU (A := List Int) (T := aD) (O := List Int) (Z := Int × Bool) (S := List Int × Int) (fun a i => (a.reverse, i)) (body := fun x => a8 e n (aw.mk s c) x.1 x.2) e
  (fun _ a p => match d7 s n p a with | some a' => .inl a' | none => .inr (0, false)) (fun i a => okS a ∧ a.length ≤ i) (fun a => a.reverse) [] ⟨fun x hx => by simp at hx, by simp⟩
  (by
   intro i a hi ha
   refine ⟨?_, ?_⟩
   ·show a8 e n (aw.mk s c) a.reverse (i : Int) = _
    rw [vY hv (hu _ (bi hi)) ha.1 hn (by omega) hi (by omega)]
    cases d7 s n (e.getD i default) a <;> rfl
   ·intro a' h
    cases hx : d7 s n (e.getD i default) a with
    | none => rw [hx] at h; cases h
    | some b =>
     rw [hx] at h
     simp only [Sum.inl.injEq] at h
     subst h
     exact I i a hi ha b hx)
  (by
   intro a _
   show a8 e n (aw.mk s c) a.reverse (e.length : Int) = _
   unfold a8
   rw [if_neg (bm _)])
 obtain ⟨h3, h4⟩ := kU (A := List Int) (T := aD) (O := List Int) (Z := Int) (S := List Int × Int) (fun a i => (a.reverse, i)) (body := fun x => d6 s e n x.1 x.2) e
  (fun _ a p => match d7 s n p a with | some a' => .inl a' | none => .inr 0) (fun i a => okS a ∧ a.length ≤ i) (fun a => a.reverse) [] ⟨fun x hx => by simp at hx, by simp⟩
  (by
   intro i a hi ha
   refine ⟨?_, ?_⟩
   ·show d6 s e n a.reverse (i : Int) = _
    rw [vZ hv (hu _ (bi hi)) hn (by omega) hi (by omega)]
    cases d7 s n (e.getD i default) a <;> rfl
   ·intro a' h
    cases hx : d7 s n (e.getD i default) a with
    | none => rw [hx] at h; cases h
    | some b =>
     rw [hx] at h
     simp only [Sum.inl.injEq] at h
     subst h
     exact I i a hi ha b hx)
  (by
   intro a _
   show d6 s e n a.reverse (e.length : Int) = _
   unfold d6
   rw [if_neg (bm _)])
 rw [pE] at h1 h2 h3
 have e1 : gn e n (aw.mk s c) = (bb (fun x : List Int × Int => a8 e n (aw.mk s c) x.1 x.2) (([] : List Int).reverse, 0)).bind (Sum.elim (fun z => cm z) (fun z => some z)) := rfl
 have e2 : i9 s e n = (bb (fun x : List Int × Int => d6 s e n x.1 x.2) (([] : List Int).reverse, 0)).bind (Sum.elim (fun z => eW z) (fun z => some z)) := rfl
 rw [e1, e2, h1, h3]
 simp only [Option.bind_some]
 unfold qL
 cases ht : rZ s n e [] with
 | none => exact ⟨⟨(0, false), rfl, fun h => (by cases h), fun _ => rfl⟩, rfl⟩
 | some a =>
  have ha := (h2 a (by rw [ht])).1
  simp only [Sum.elim_inl]
  match a, ha with
  | [], _ =>
   refine ⟨⟨(0, false), ?_, fun h => (by cases h), fun _ => rfl⟩, ?_⟩
   ·unfold cm; rw [if_pos (by simp)]
   ·unfold eW; rw [if_pos (by simp)]
  | [x], ha =>
   refine ⟨⟨(x, true), ?_, fun _ => ⟨rfl, ha x (by simp)⟩, fun h => by cases h⟩, ?_⟩
   ·unfold cm; rw [if_neg (by simp), if_pos (by simp)]; rfl
   ·unfold eW; rw [if_neg (by simp), if_pos (by simp)]; rfl
  | x :: y :: r, _ =>
   refine ⟨⟨(0, false), ?_, fun h => (by cases h), fun _ => rfl⟩, ?_⟩
   ·unfold cm; rw [if_pos (by simp; omega)]
   ·unfold eW; rw [if_pos (by simp; omega)]
end Pam

namespace Pam
open Go
def vOf (s : ag) (x : Int) : ai := s.vars.getD x.toNat default
theorem fU (s : ag) (x : Int) : s.vars.getD x.toNat default = vOf s x := by rw [vOf]
def lL (a b : ai) : Bool := a.elem == b.elem && a.n == b.n
def mz (s : ag) (l : List Int) (i : Nat) : Option Bool := if lL (vOf s (l.getD i default)) (vOf s (l.getD 0 default)) then none else some false
theorem qM (s : ag) (l : List Int) : (match dW l.length (mz s l) () with | .inr z => z | .inl _ => true) = l.all (fun x => lL (vOf s x) (vOf s (l.getD 0 default))) := by
 rcases cI l.length (mz s l) () with ⟨e, h⟩ | ⟨j, z, hj, hf, e⟩
 ·rw [e]
  symm
  show _ = true
  rw [List.all_eq_true]
  intro x hx
  obtain ⟨i, hi, rfl⟩ := List.mem_iff_getElem.1 hx
  have := h i hi
  unfold mz at this
  have e2 : l.getD i default = l[i] := by simp [List.getD, hi]
  rw [e2] at this
  split at this
  ·assumption
  ·cases this
 ·rw [e]
  unfold mz at hf
  split at hf
  ·cases hf
  ·rename_i hb
   simp only [Option.some.injEq] at hf
   subst hf
   symm
   show _ = false
   rw [List.all_eq_false]
   exact ⟨_, bi hj, hb⟩
theorem ma (a b : ai) : lL a b = true ↔ a.elem = b.elem ∧ a.n = b.n := by unfold lL; simp
theorem v6 {s : ag} {c : Int} {l : List Int} (hl : 0 < l.length) (hb : l.length ≤ 1000) (hin : ∀ x ∈ l, inV s x) :
  gj l (aw.mk s c) = some (l.all (fun x => lL (vOf s x) (vOf s (l.getD 0 default)))) := by
 unfold gj
 rw [bI l.length (mz s l) () (fun i hi => by
  unfold eP mz
  have g0 := hin _ (bi (l := l) (i := 0) hl)
  have gi := hin _ (bi hi)
  unfold inV at g0 gi
  rw [if_pos (ltI hi), if_pos (inI hi)]
  simp only [Int.toNat_natCast]
  rw [if_pos ⟨gi, by omega, g0⟩, wrs i (by omega)]
  simp only [fU]
  by_cases h : lL (vOf s (l.getD i default)) (vOf s (l.getD 0 default)) = true
  ·rw [if_pos ((ma _ _).1 h), if_pos h]
  ·rw [if_neg (fun h' => h ((ma _ _).2 h')), if_neg h]) (by unfold eP; rw [if_neg (bm _)])]
 rw [← qM]
 cases dW l.length (mz s l) () <;> rfl
theorem sa {s : ag} {c : Int} {l : List Int} (hl : 0 < l.length) (hb : l.length ≤ 1000) (hin : ∀ x ∈ l, inV s x) :
  d8 (aw.mk s c) l = some (l.all (fun x => lL (vOf s x) (vOf s (l.getD 0 default)))) := by
 unfold d8
 rw [bI l.length (mz s l) () (fun i hi => by
  unfold d2 mz
  have g0 := hin _ (bi (l := l) (i := 0) hl)
  have gi := hin _ (bi hi)
  unfold inV at g0 gi
  rw [if_pos (ltI hi), if_pos (inI hi)]
  simp only [Int.toNat_natCast]
  rw [if_pos ⟨gi, by omega, g0⟩, wrs i (by omega)]
  simp only [fU]
  by_cases h : lL (vOf s (l.getD i default)) (vOf s (l.getD 0 default)) = true
  ·rw [if_pos ((ma _ _).1 h), if_pos h]
  ·rw [if_neg (fun h' => h ((ma _ _).2 h')), if_neg h]) (by unfold d2; rw [if_neg (bm _)])]
 rw [← qM]
 cases dW l.length (mz s l) () <;> rfl
def ru (k : Int) : Bool := (opT k).2.2 == 2 && (opT k).1 == (opT k).2.1
theorem dm (k : Int) : gl k = some (ru k) := by
 unfold gl ru
 rw [fH]
 simp only [Option.bind_some]
 split
 ·rename_i h; rw [h]; rfl
 ·rename_i h; rw [beq_eq_false_iff_ne.2 h]; rfl
theorem dp (k : Int) : hZ k = some (ru k) := by
 unfold hZ ru
 rw [cB]
 simp only [Option.bind_some]
 split
 ·rename_i h; rw [h]; rfl
 ·rename_i h; rw [beq_eq_false_iff_ne.2 h]; rfl
def kV (n : Int) : Int := if n < 1 then 1 else n
theorem j8 (n : Int) : jt n = some (kV n) := by
 unfold jt kV; split <;> rfl
theorem xt (n : Int) : (if 1 > n then 1 else n) = kV n := rfl
def iz (s : ag) (a : List Int) : List ai := [if 0 < a.length then vOf s (a.getD 0 default) else ⟨0, 0⟩, if 1 < a.length then vOf s (a.getD 1 default) else ⟨0, 0⟩, if 2 < a.length then vOf s (a.getD 2 default) else ⟨0, 0⟩]
theorem v7 {s : ag} {r : ae} {i : Nat} {l : List ai} (hi : i < r.a.length) (h3 : r.a.length ≤ 3) (hl : l.length = 3) (hin : ∀ x ∈ r.a, inV s x) :
  bU s r l (i : Int) = some (.inl (l.set i (vOf s (r.a.getD i default)), ((i + 1 : Nat) : Int))) := by
 unfold bU
 have gi := hin _ (bi hi)
 unfold inV at gi
 rw [if_pos (ltI hi)]
 simp only [Int.toNat_natCast]
 rw [if_pos ⟨inI hi, gi, by omega, by omega⟩, wrs i (by omega)]
 rfl
theorem u4 {s : ag} {r : ae} (h3 : r.a.length ≤ 3) (hin : ∀ x ∈ r.a, inV s x) :
  bb (fun x : List ai × Int => bU s r x.1 x.2) (List.replicate 3 (ai.mk 0 0), 0) = some (iz s r.a) := by
 have fin : ∀ l, bb (fun x : List ai × Int => bU s r x.1 x.2) (l, (r.a.length : Int)) = some l := fun l => dt (by
  show bU s r l (r.a.length : Int) = _
  unfold bU
  rw [if_neg (bm _)])
 have nx : ∀ (i : Nat) (l : List ai), i < r.a.length → l.length = 3 → bb (fun x : List ai × Int => bU s r x.1 x.2) (l, (i : Int)) = bb (fun x : List ai × Int => bU s r x.1 x.2) (l.set i (vOf s (r.a.getD i default)), ((i + 1 : Nat) : Int)) :=
  fun i l hi hl => dN (v7 hi h3 hl hin)
 have e : r.a.length = 0 ∨ r.a.length = 1 ∨ r.a.length = 2 ∨ r.a.length = 3 := by omega
 unfold iz
 rcases e with e | e | e | e
 ·have := fin (List.replicate 3 (ai.mk 0 0))
  rw [e] at this ⊢
  exact this
 ·have h0 := nx 0 (List.replicate 3 (ai.mk 0 0)) (by omega) rfl
  have := fin ((List.replicate 3 (ai.mk 0 0)).set 0 (vOf s (r.a.getD 0 default)))
  rw [e] at this ⊢
  exact h0.trans this
 ·have h0 := nx 0 (List.replicate 3 (ai.mk 0 0)) (by omega) rfl
  have h1 := nx 1 ((List.replicate 3 (ai.mk 0 0)).set 0 (vOf s (r.a.getD 0 default))) (by omega) rfl
  have := fin (((List.replicate 3 (ai.mk 0 0)).set 0 (vOf s (r.a.getD 0 default))).set 1 (vOf s (r.a.getD 1 default)))
  rw [e] at this ⊢
  exact h0.trans (h1.trans this)
 ·have h0 := nx 0 (List.replicate 3 (ai.mk 0 0)) (by omega) rfl
  have h1 := nx 1 ((List.replicate 3 (ai.mk 0 0)).set 0 (vOf s (r.a.getD 0 default))) (by omega) rfl
  have h2 := nx 2 (((List.replicate 3 (ai.mk 0 0)).set 0 (vOf s (r.a.getD 0 default))).set 1 (vOf s (r.a.getD 1 default))) (by omega) rfl
  have := fin ((((List.replicate 3 (ai.mk 0 0)).set 0 (vOf s (r.a.getD 0 default))).set 1 (vOf s (r.a.getD 1 default))).set 2 (vOf s (r.a.getD 2 default)))
  rw [e] at this ⊢
  exact h0.trans (h1.trans (h2.trans this))
theorem cy {s : ag} {r : ae} (ho : inV s r.out_) (h3 : r.a.length ≤ 3) (hin : ∀ x ∈ r.a, inV s x) : ax s r = aM s r (iz s r.a) := by
 unfold ax
 unfold inV at ho
 rw [if_pos ho]
 show (bb (fun x : List ai × Int => bU s r x.1 x.2) (List.replicate 3 (ai.mk 0 0), 0)).bind (fun z21 => aM s r z21) = _
 rw [u4 h3 hin]
 rfl
end Pam

namespace Pam
open Go
def nmd (p : aD) : Bool := p.op == 2 || p.op == 3 || p.op == 8
def iP (a : List Int) (e : List aD) : List Int := (e.foldl (fun l p => if nmd p then l ++ [p.v] else l) a).foldl ins []
theorem wrN (i : Nat) (h : i < 1000000000) : IntKind.wrap .i64 ((i : Int) + 1) = ((i + 1 : Nat) : Int) := wrs i (by omega)
theorem qN (n : Nat) (h : n ≤ 1000000) : d3 n 8 := by
 unfold d3
 have : maxLen = 9223372036854775807 := rfl
 omega
theorem u5 (l : List Int) (h : l.length ≤ 1000000) : bw l = some l := by
 unfold bw
 by_cases e : l = []
 ·rw [if_pos e, e]
 ·rw [if_neg e, if_pos (qN _ h)]
theorem v8 (l : List Int) (h : l.length ≤ 2000000) : (dY l).bind (fun y6 => (dd l.length y6).bind fun y7 => some y7) = some (l.foldl ins []) := by
 unfold dY dd
 rw [if_pos (by omega)]
 show (if l.length = (li l).length ∧ (li l).length ≤ 140737488355328 then some (Go.Lib.compact (li l)) else none).bind (fun y7 => some y7) = _
 rw [if_pos ⟨(jl l).symm, by rw [jl]; omega⟩, oI]
 rfl
theorem kW (r : ae) (ha : r.a.length ≤ 500000) (he : r.e.length ≤ 500000) : jI r = some (iP r.a r.e) := by
 unfold jI
 rw [u5 _ (by omega)]
 show (bb (fun (x : List Int × Int) => eH r x.1 x.2) (r.a, 0)).bind (fun z26 => hP z26) = _
 obtain ⟨h1, h2⟩ := kw (A := List Int) (T := aD) (O := List Int) (S := List Int × Int) (fun a i => (a, i)) (body := fun x => eH r x.1 x.2) r.e (fun l p => if nmd p then l ++ [p.v] else l)
  (fun i a => a.length ≤ r.a.length + i) (fun a => a) r.a (by omega)
  (by
   intro i a hi hI
   have step : ∀ b : Bool, b = nmd (r.e.getD i default) → ft r a (i : Int) b = some (.inl ((if nmd (r.e.getD i default) then a ++ [(r.e.getD i default).v] else a), ((i + 1 : Nat) : Int))) := by
    intro b hb
    subst hb
    unfold ft
    rw [wrN i (by omega)]
    cases nmd (r.e.getD i default)
    ·rfl
    ·rw [if_pos rfl, if_pos (qN _ (by omega))]; rfl
   refine ⟨?_, ?_⟩
   ·show eH r a (i : Int) = _
    unfold eH
    rw [if_pos (ltI hi), if_pos (inI hi)]
    simp only [Int.toNat_natCast]
    split
    ·rename_i h; exact step _ (by unfold nmd; rw [h]; rfl)
    ·rename_i h
     split
     ·rename_i h'; exact step _ (by unfold nmd; rw [h']; rfl)
     ·rename_i h'; exact step _ (by unfold nmd; rw [beq_eq_false_iff_ne.2 h, beq_eq_false_iff_ne.2 h']; rfl)
   ·split
    ·simp; omega
    ·omega)
  (by
   intro a hI
   show eH r a (r.e.length : Int) = _
   unfold eH
   rw [if_neg (bm _)])
 rw [h1]
 exact v8 _ (by omega)
def kx (n : Int) (s : List Int × Bool) (x : Int) : List Int × Bool :=
 if s.2 then (s.1 ++ [x], true) else if x ≥ n then (if x > n then (s.1 ++ [n] ++ [x], true) else (s.1 ++ [x], true)) else (s.1 ++ [x], false)
theorem qO (n : Int) (l : List Int) : ∀ (a : List Int), l.foldl (kx n) (a, true) = (a ++ l, true) := by
 induction l with
 | nil => intro a; simp
 | cons x l ih => intro a; rw [List.foldl_cons]; show l.foldl (kx n) (a ++ [x], true) = _; rw [ih]; simp
theorem sW (n : Int) (l : List Int) : ∀ (a : List Int), (let s := l.foldl (kx n) (a, false); if s.2 then s.1 else s.1 ++ [n]) = a ++ ins l n := by
 induction l with
 | nil => intro a; simp [ins]
 | cons x l ih =>
  intro a
  rw [List.foldl_cons]
  by_cases h : x ≥ n
  ·by_cases h' : x > n
   ·have e : kx n (a, false) x = (a ++ [n] ++ [x], true) := by simp [kx, h, h']
    rw [e, qO]
    simp [ins, h, h']
   ·have e : kx n (a, false) x = (a ++ [x], true) := by simp [kx, h, h']
    rw [e, qO]
    simp [ins, h, h']
  ·have e : kx n (a, false) x = (a ++ [x], false) := by simp [kx, h]
   rw [e, ih]
   simp [ins, h]
theorem oO (l : List Int) (n : Int) : (ins l n).length ≤ l.length + 1 := by
 induction l with
 | nil => simp [ins]
 | cons x l ih =>
  unfold ins
  split
  ·split <;> simp
  ·simp; omega
theorem nA (l : List Int) (n : Int) (h : l.length ≤ 900000) : iK l n = some (ins l n) := by
 unfold iK
 obtain ⟨h1, h2⟩ := kw (A := List Int × Bool) (T := Int) (O := List Int × Bool) (S := List Int × Bool × Int) (fun a i => (a.1, a.2, i)) (body := fun x => dE l n x.1 x.2.1 x.2.2) l (kx n)
  (fun i a => a.1.length ≤ i + (if a.2 then 1 else 0)) (fun a => a) ([], false) (by simp)
  (by
   intro i a hi hI
   obtain ⟨a, b⟩ := a
   simp only at hI
   have hlen : a.length ≤ i + 1 := by revert hI; cases b <;> simp <;> omega
   have j2 : ∀ (q : List Int) (c : Bool), q.length ≤ 999999 → dD l (i : Int) q c = some (.inl (q ++ [l.getD i default], c, ((i + 1 : Nat) : Int))) := by
    intro q c hq
    unfold dD
    rw [if_pos ⟨inI hi, qN _ (by omega)⟩, wrN i (by omega)]
    rfl
   refine ⟨?_, ?_⟩
   ·show dE l n a b (i : Int) = _
    unfold dE
    rw [if_pos (ltI hi)]
    cases b with
    | true =>
     rw [if_pos rfl, j2 _ _ (by omega)]
     rfl
    | false =>
     rw [if_neg (by decide), if_pos (inI hi)]
     simp only [Int.toNat_natCast]
     by_cases hge : l.getD i default ≥ n
     ·rw [if_pos hge]
      by_cases hgt : l.getD i default > n
      ·rw [if_pos hgt, if_pos (qN _ (by omega)), j2 _ _ (by simp [lit]; omega)]
       have e : kx n (a, false) (l.getD i default) = (a ++ [n] ++ [l.getD i default], true) := by unfold kx; rw [if_neg (by simp), if_pos hge, if_pos hgt]
       rw [e]; rfl
      ·rw [if_neg hgt, j2 _ _ (by omega)]
       have e : kx n (a, false) (l.getD i default) = (a ++ [l.getD i default], true) := by unfold kx; rw [if_neg (by simp), if_pos hge, if_neg hgt]
       rw [e]
     ·rw [if_neg hge, j2 _ _ (by omega)]
      have e : kx n (a, false) (l.getD i default) = (a ++ [l.getD i default], false) := by unfold kx; rw [if_neg (by simp), if_neg hge]
      rw [e]
   ·have gen : ∀ x : Int, (kx n (a, b) x).1.length ≤ i + 1 + (if (kx n (a, b) x).2 = true then 1 else 0) := by
     intro x
     unfold kx
     cases b with
     | true => simp at hI ⊢; omega
     | false =>
      simp at hI
      by_cases hge : x ≥ n
      ·by_cases hgt : x > n
       ·simp only [Bool.false_eq_true, if_false, if_pos hge, if_pos hgt]; simp; omega
       ·simp only [Bool.false_eq_true, if_false, if_pos hge, if_neg hgt]; simp; omega
      ·simp only [Bool.false_eq_true, if_false, if_neg hge]; simp; omega
    exact gen _)
  (by
   intro a hI
   show dE l n a.1 a.2 (l.length : Int) = _
   unfold dE
   rw [if_neg (bm _)])
 show (bb (fun (x : List Int × Bool × Int) => dE l n x.1 x.2.1 x.2.2) ([], false, 0)).bind (fun z => fc n z.1 z.2) = _
 rw [h1]
 have h3 := sW n l []
 simp only [List.nil_append] at h3
 have hl := oO l n
 rw [← h3] at hl ⊢
 simp only [Option.bind_some]
 unfold fc
 cases hs : (l.foldl (kx n) ([], false)).2 with
 | true => simp
 | false =>
  rw [hs] at h2
  simp only [Bool.false_eq_true, if_false, Nat.add_zero] at h2 ⊢
  rw [if_pos (qN _ (by omega))]
  rfl
theorem qq (l a : List Int) : (l.foldl ins a).length ≤ a.length + l.length := by
 induction l generalizing a with
 | nil => simp
 | cons x l ih => rw [List.foldl_cons]; have := ih (ins a x); have := oO a x; simp; omega
theorem pG (r : ae) (ha : r.a.length ≤ 400000) (he : r.e.length ≤ 400000) : lC r = some (iP r.a r.e) := by
 unfold lC
 obtain ⟨h1, h2⟩ := kw (A := List Int) (T := Int) (O := List Int) (S := List Int × Int) (fun a i => (a, i)) (body := fun x => eV r x.1 x.2) r.a ins
  (fun i a => a.length ≤ i) (fun a => a) [] (by simp)
  (by
   intro i a hi hI
   refine ⟨?_, by have := oO a (r.a.getD i default); omega⟩
   show eV r a (i : Int) = _
   unfold eV
   rw [if_pos (ltI hi), if_pos (inI hi)]
   simp only [Int.toNat_natCast]
   rw [nA _ _ (by omega), wrN i (by omega)]
   rfl)
  (by
   intro a hI
   show eV r a (r.a.length : Int) = _
   unfold eV
   rw [if_neg (bm _)])
 show (bb (fun (x : List Int × Int) => eV r x.1 x.2) ([], 0)).bind (fun z => gw r z) = _
 rw [h1]
 simp only [Option.bind_some]
 unfold gw
 obtain ⟨h3, h4⟩ := kw (A := List Int) (T := aD) (O := List Int) (S := List Int × Int) (fun a i => (a, i)) (body := fun x => eU r x.1 x.2) r.e (fun l p => if nmd p then ins l p.v else l)
  (fun i a => a.length ≤ r.a.length + i) (fun a => a) (r.a.foldl ins []) (by simpa using h2)
  (by
   intro i a hi hI
   have hn : ks (r.e.getD i default) = some (nmd (r.e.getD i default)) := by
    unfold ks nmd
    split
    ·rename_i h; rw [h]; rfl
    ·rename_i h
     split
     ·rename_i h'; rw [h']; rfl
     ·rename_i h'; rw [beq_eq_false_iff_ne.2 h, beq_eq_false_iff_ne.2 h']; rfl
   refine ⟨?_, ?_⟩
   ·show eU r a (i : Int) = _
    unfold eU
    rw [if_pos (ltI hi), if_pos (inI hi)]
    simp only [Int.toNat_natCast]
    rw [hn, wrN i (by omega)]
    simp only [Option.bind_some]
    cases nmd (r.e.getD i default)
    ·rfl
    ·simp only [if_true]
     rw [nA _ _ (by omega)]
     rfl
   ·split
    ·have := oO a (r.e.getD i default).v; omega
    ·omega)
  (by
   intro a hI
   show eU r a (r.e.length : Int) = _
   unfold eU
   rw [if_neg (bm _)])
 show (bb (fun (x : List Int × Int) => eU r x.1 x.2) (r.a.foldl ins [], 0)).bind (fun z => hY z) = _
 rw [h3]
 have key : ∀ (e : List aD) (a b : List Int), e.foldl (fun l p => if nmd p then ins l p.v else l) (a.foldl ins b) = (e.foldl (fun l p => if nmd p then l ++ [p.v] else l) a).foldl ins b := by
  intro e
  induction e with
  | nil => intro a b; rfl
  | cons p e ih =>
   intro a b
   rw [List.foldl_cons, List.foldl_cons]
   cases nmd p
   ·simp only [Bool.false_eq_true, if_false]; exact ih a b
   ·simp only [if_true]
    rw [← ih, List.foldl_append]
    rfl
 rw [key]
 rfl
end Pam

namespace Pam
open Go
structure ib (s : ag) (r : ae) : Prop where
 o : inV s r.out_
 a : ∀ x ∈ r.a, inV s x
 u : 14 ≤ r.op → ∀ p ∈ r.e, pC s p
 e : r.e.length ≤ 24
theorem be {s : ag} (hv : fP s) {x : Int} (h : inV s x) : okE (vOf s x).elem ∧ 0 ≤ (vOf s x).n ∧ (vOf s x).n ≤ 300 := by
 have : s.vars.getD x.toNat default ∈ s.vars := bi (by unfold inV at h; omega)
 exact ⟨hv.e _ this, hv.n _ this⟩
theorem c7 (e : Int) : fD e = some (ai.mk e 0) := by unfold fD; rfl
theorem tv {s : ag} {c x : Int} (h : inV s x) : gm x (aw.mk s c) = some (ai.mk (vOf s x).elem 0, decide ((vOf s x).n > 0)) := by
 unfold gm
 unfold inV at h
 rw [if_pos h, c7]
 rfl
theorem wrd {a b : Int} (ha : 0 ≤ a ∧ a ≤ 300) (hb : 0 ≤ b ∧ b ≤ 300) : IntKind.wrap .i64 (a - b) = a - b ∧ IntKind.wrap .i64 (a + b) = a + b := ⟨wr (by omega) (by omega), wr (by omega) (by omega)⟩
theorem pH {s : ag} {c : Int} {r : ae} {o : ai} {n : Int} (hv : fP s) (hu : ∀ p ∈ r.e, pC s p) (he : r.e.length ≤ 24) (ho : okE o.elem) (hn : 1 ≤ n ∧ n ≤ 300) :
  dg r o (aw.mk s c) n = some (qL s n r.e == o.elem) ∧ i9 s r.e n = some (qL s n r.e) := by
 obtain ⟨⟨q, h1, h2, h3⟩, h4⟩ := tY (c := c) hv hu hn (by omega)
 refine ⟨?_, h4⟩
 unfold dg
 rw [h1]
 simp only [Option.bind_some]
 by_cases hq : q.2 = true
 ·rw [if_pos hq, (h2 hq).1]
 ·rw [if_neg hq, h3 (by simpa using hq)]
  congr 1
  symm
  rw [beq_eq_false_iff_ne]
  unfold okE at ho
  omega
theorem yV {s : ag} {c : Int} {k o n : Int} {e : List aD} (hv : fP s) (h : ib s (ae.mk 1 k o n [] e)) :
  aF (ae.mk 1 k o n [] e) (aw.mk s c) = ax s (ae.mk 1 k o n [] e) ∧ ax s (ae.mk 1 k o n [] e) ≠ none := by
 have ho : inV s o := h.o
 rw [cy h.o (by simp) h.a]
 have go := be hv ho
 unfold inV at ho
 simp only [aF, aT, aS, aR, aM, ho, and_self, Option.bind_some, fH, cB, dm, dp, c7, fU, List.length_cons, List.length_nil, List.getD_cons_zero, List.getD_cons_succ, iz, Nat.reduceAdd, Nat.reduceLT, if_true, if_false, reduceCtorEq]
 unfold okE at *
 refine ⟨?_, ?_⟩ <;> grind
theorem yW {s : ag} {c : Int} {k o n x : Int} {e : List aD} (hv : fP s) (h : ib s (ae.mk 2 k o n [x] e)) :
  aF (ae.mk 2 k o n [x] e) (aw.mk s c) = ax s (ae.mk 2 k o n [x] e) ∧ ax s (ae.mk 2 k o n [x] e) ≠ none := by
 have ho : inV s o := h.o
 have hx : inV s x := h.a x (by simp)
 rw [cy h.o (by simp) h.a]
 have go := be hv ho
 have gx := be hv hx
 unfold inV at ho hx
 simp only [aF, aT, aS, aR, aM, ho, hx, and_self, Option.bind_some, fH, cB, dm, dp, c7, fU, List.length_cons, List.length_nil, List.getD_cons_zero, List.getD_cons_succ, iz, Nat.reduceAdd, Nat.reduceLT, if_true, if_false, reduceCtorEq]
 unfold okE at *
 refine ⟨?_, ?_⟩ <;> grind
theorem yX {s : ag} {c : Int} {k o n x : Int} {e : List aD} (hv : fP s) (h : ib s (ae.mk 3 k o n [x] e)) :
  aF (ae.mk 3 k o n [x] e) (aw.mk s c) = ax s (ae.mk 3 k o n [x] e) ∧ ax s (ae.mk 3 k o n [x] e) ≠ none := by
 have ho : inV s o := h.o
 have hx : inV s x := h.a x (by simp)
 rw [cy h.o (by simp) h.a]
 have go := be hv ho
 have gx := be hv hx
 unfold inV at ho hx
 simp only [aF, aT, aS, aR, aM, ho, hx, and_self, Option.bind_some, fH, cB, dm, dp, c7, fU, List.length_cons, List.length_nil, List.getD_cons_zero, List.getD_cons_succ, iz, Nat.reduceAdd, Nat.reduceLT, if_true, if_false, reduceCtorEq]
 unfold okE at *
 refine ⟨?_, ?_⟩ <;> grind
theorem yY {s : ag} {c : Int} {k o n x y : Int} {e : List aD} (hv : fP s) (h : ib s (ae.mk 4 k o n [x, y] e)) :
  aF (ae.mk 4 k o n [x, y] e) (aw.mk s c) = ax s (ae.mk 4 k o n [x, y] e) ∧ ax s (ae.mk 4 k o n [x, y] e) ≠ none := by
 have ho : inV s o := h.o
 have hx : inV s x := h.a x (by simp)
 have hy : inV s y := h.a y (by simp)
 rw [cy h.o (by simp) h.a]
 have go := be hv ho
 have gx := be hv hx
 have gy := be hv hy
 have hs := v6 (s := s) (c := c) (l := [x, y]) (by simp) (by simp) h.a
 simp only [List.getD_cons_zero, List.all_cons, List.all_nil, Bool.and_true] at hs
 unfold inV at ho hx hy
 simp only [aF, aT, aS, aR, aM, ho, hx, hy, and_self, Option.bind_some, fH, cB, dm, dp, c7, fU, List.length_cons, List.length_nil, List.getD_cons_zero, List.getD_cons_succ, iz, Nat.reduceAdd, Nat.reduceLT, if_true, if_false, reduceCtorEq, hs]
 unfold lL
 unfold okE at *
 refine ⟨?_, ?_⟩ <;> grind
theorem yZ {s : ag} {c : Int} {k o n x y z : Int} {e : List aD} (hv : fP s) (h : ib s (ae.mk 5 k o n [x, y, z] e)) :
  aF (ae.mk 5 k o n [x, y, z] e) (aw.mk s c) = ax s (ae.mk 5 k o n [x, y, z] e) ∧ ax s (ae.mk 5 k o n [x, y, z] e) ≠ none := by
 have ho : inV s o := h.o
 have hx : inV s x := h.a x (by simp)
 have hy : inV s y := h.a y (by simp)
 have hz : inV s z := h.a z (by simp)
 rw [cy h.o (by simp) h.a]
 have go := be hv ho
 have gx := be hv hx
 have gy := be hv hy
 have gz := be hv hz
 have hs := sa (s := s) (c := c) (l := [y, z, o]) (by simp) (by simp) (by intro w hw; simp at hw; rcases hw with rfl | rfl | rfl <;> assumption)
 simp only [List.getD_cons_zero, List.all_cons, List.all_nil, Bool.and_true] at hs
 unfold inV at ho hx hy hz
 simp only [aF, aT, aS, aR, aM, ho, hx, hy, hz, and_self, Option.bind_some, fH, cB, dm, dp, c7, fU, List.length_cons, List.length_nil, List.getD_cons_zero, List.getD_cons_succ, iz, Nat.reduceAdd, Nat.reduceLT, if_true, if_false, reduceCtorEq, hs, lit]
 unfold lL
 unfold okE at *
 refine ⟨?_, ?_⟩ <;> grind
theorem za {s : ag} {c : Int} {k o n x y : Int} {e : List aD} (hv : fP s) (h : ib s (ae.mk 6 k o n [x, y] e)) :
  aF (ae.mk 6 k o n [x, y] e) (aw.mk s c) = ax s (ae.mk 6 k o n [x, y] e) ∧ ax s (ae.mk 6 k o n [x, y] e) ≠ none := by
 have ho : inV s o := h.o
 have hx : inV s x := h.a x (by simp)
 have hy : inV s y := h.a y (by simp)
 rw [cy h.o (by simp) h.a]
 have go := be hv ho
 have gx := be hv hx
 have gy := be hv hy
 unfold inV at ho hx hy
 simp only [aF, aT, aS, aR, aM, ho, hx, hy, and_self, Option.bind_some, fH, cB, dm, dp, c7, fU, List.length_cons, List.length_nil, List.getD_cons_zero, List.getD_cons_succ, iz, Nat.reduceAdd, Nat.reduceLT, if_true, if_false, reduceCtorEq]
 unfold okE at *
 refine ⟨?_, ?_⟩ <;> grind
theorem zb {s : ag} {c : Int} {k o n x y : Int} {e : List aD} (hv : fP s) (h : ib s (ae.mk 7 k o n [x, y] e)) :
  aF (ae.mk 7 k o n [x, y] e) (aw.mk s c) = ax s (ae.mk 7 k o n [x, y] e) ∧ ax s (ae.mk 7 k o n [x, y] e) ≠ none := by
 have ho : inV s o := h.o
 have hx : inV s x := h.a x (by simp)
 have hy : inV s y := h.a y (by simp)
 rw [cy h.o (by simp) h.a]
 have go := be hv ho
 have gx := be hv hx
 have gy := be hv hy
 unfold inV at ho hx hy
 simp only [aF, aT, aS, aR, aM, ho, hx, hy, and_self, Option.bind_some, fH, cB, dm, dp, c7, fU, List.length_cons, List.length_nil, List.getD_cons_zero, List.getD_cons_succ, iz, Nat.reduceAdd, Nat.reduceLT, if_true, if_false, reduceCtorEq]
 unfold okE at *
 refine ⟨?_, ?_⟩ <;> grind
theorem zc {s : ag} {c : Int} {k o n x : Int} {e : List aD} (hv : fP s) (h : ib s (ae.mk 8 k o n [x] e)) :
  aF (ae.mk 8 k o n [x] e) (aw.mk s c) = ax s (ae.mk 8 k o n [x] e) ∧ ax s (ae.mk 8 k o n [x] e) ≠ none := by
 have ho : inV s o := h.o
 have hx : inV s x := h.a x (by simp)
 rw [cy h.o (by simp) h.a]
 have go := be hv ho
 have gx := be hv hx
 unfold inV at ho hx
 simp only [aF, aT, aS, aR, aM, ho, hx, and_self, Option.bind_some, fH, cB, dm, dp, c7, fU, List.length_cons, List.length_nil, List.getD_cons_zero, List.getD_cons_succ, iz, Nat.reduceAdd, Nat.reduceLT, if_true, if_false, reduceCtorEq]
 unfold okE at *
 refine ⟨?_, ?_⟩ <;> grind
theorem zd {s : ag} {c : Int} {k o n x y z : Int} {e : List aD} (hv : fP s) (h : ib s (ae.mk 9 k o n [x, y, z] e)) :
  aF (ae.mk 9 k o n [x, y, z] e) (aw.mk s c) = ax s (ae.mk 9 k o n [x, y, z] e) ∧ ax s (ae.mk 9 k o n [x, y, z] e) ≠ none := by
 have ho : inV s o := h.o
 have hx : inV s x := h.a x (by simp)
 have hy : inV s y := h.a y (by simp)
 have hz : inV s z := h.a z (by simp)
 rw [cy h.o (by simp) h.a]
 have go := be hv ho
 have gx := be hv hx
 have gy := be hv hy
 have gz := be hv hz
 have he := tv (c := c) hx
 unfold inV at ho hx hy hz
 simp only [aF, aT, aS, aR, aM, ho, hx, hy, hz, and_self, Option.bind_some, fH, cB, dm, dp, c7, fU, List.length_cons, List.length_nil, List.getD_cons_zero, List.getD_cons_succ, iz, Nat.reduceAdd, Nat.reduceLT, if_true, if_false, reduceCtorEq, he]
 unfold okE at *
 refine ⟨?_, ?_⟩ <;> grind
theorem yw {s : ag} {c : Int} {k o n x y z : Int} {e : List aD} (hv : fP s) (h : ib s (ae.mk 10 k o n [x, y, z] e)) :
  aF (ae.mk 10 k o n [x, y, z] e) (aw.mk s c) = ax s (ae.mk 10 k o n [x, y, z] e) ∧ ax s (ae.mk 10 k o n [x, y, z] e) ≠ none := by
 have ho : inV s o := h.o
 have hx : inV s x := h.a x (by simp)
 have hy : inV s y := h.a y (by simp)
 have hz : inV s z := h.a z (by simp)
 rw [cy h.o (by simp) h.a]
 have go := be hv ho
 have gx := be hv hx
 have gy := be hv hy
 have gz := be hv hz
 have he := tv (c := c) hx
 unfold inV at ho hx hy hz
 simp only [aF, aT, aS, aR, aM, ho, hx, hy, hz, and_self, Option.bind_some, fH, cB, dm, dp, c7, fU, List.length_cons, List.length_nil, List.getD_cons_zero, List.getD_cons_succ, iz, Nat.reduceAdd, Nat.reduceLT, if_true, if_false, reduceCtorEq, he]
 unfold okE at *
 refine ⟨?_, ?_⟩ <;> grind
theorem yx {s : ag} {c : Int} {k o n x : Int} {e : List aD} (hv : fP s) (h : ib s (ae.mk 11 k o n [x] e)) :
  aF (ae.mk 11 k o n [x] e) (aw.mk s c) = ax s (ae.mk 11 k o n [x] e) ∧ ax s (ae.mk 11 k o n [x] e) ≠ none := by
 have ho : inV s o := h.o
 have hx : inV s x := h.a x (by simp)
 rw [cy h.o (by simp) h.a]
 have go := be hv ho
 have gx := be hv hx
 have hw := (wrd gx.2 go.2).1
 unfold inV at ho hx
 simp only [aF, aT, aS, aR, aM, ho, hx, and_self, Option.bind_some, fH, cB, dm, dp, c7, fU, List.length_cons, List.length_nil, List.getD_cons_zero, List.getD_cons_succ, iz, Nat.reduceAdd, Nat.reduceLT, if_true, if_false, reduceCtorEq, hw]
 unfold okE at *
 by_cases hle : (vOf s o).n ≤ (vOf s x).n
 ·refine ⟨?_, ?_⟩ <;> grind
 ·by_cases hn0 : n ≥ 0
  ·have hd : decide (n ≤ (vOf s x).n - (vOf s o).n) = false := by simp; omega
   simp only [hd]
   refine ⟨?_, ?_⟩ <;> grind
  ·refine ⟨?_, ?_⟩ <;> grind
theorem yy {s : ag} {c : Int} {k o n x y : Int} {e : List aD} (hv : fP s) (h : ib s (ae.mk 12 k o n [x, y] e)) :
  aF (ae.mk 12 k o n [x, y] e) (aw.mk s c) = ax s (ae.mk 12 k o n [x, y] e) ∧ ax s (ae.mk 12 k o n [x, y] e) ≠ none := by
 have ho : inV s o := h.o
 have hx : inV s x := h.a x (by simp)
 have hy : inV s y := h.a y (by simp)
 rw [cy h.o (by simp) h.a]
 have go := be hv ho
 have gx := be hv hx
 have gy := be hv hy
 have hw := (wrd gx.2 gy.2).2
 unfold inV at ho hx hy
 simp only [aF, aT, aS, aR, aM, ho, hx, hy, and_self, Option.bind_some, fH, cB, dm, dp, c7, fU, List.length_cons, List.length_nil, List.getD_cons_zero, List.getD_cons_succ, iz, Nat.reduceAdd, Nat.reduceLT, if_true, if_false, reduceCtorEq, hw]
 unfold okE at *
 refine ⟨?_, ?_⟩ <;> grind
theorem yz {s : ag} {c : Int} {k o n x y : Int} {e : List aD} (hv : fP s) (h : ib s (ae.mk 13 k o n [x, y] e)) :
  aF (ae.mk 13 k o n [x, y] e) (aw.mk s c) = ax s (ae.mk 13 k o n [x, y] e) ∧ ax s (ae.mk 13 k o n [x, y] e) ≠ none := by
 have ho : inV s o := h.o
 have hx : inV s x := h.a x (by simp)
 have hy : inV s y := h.a y (by simp)
 rw [cy h.o (by simp) h.a]
 have go := be hv ho
 have gx := be hv hx
 have gy := be hv hy
 have hs := sa (s := s) (c := c) (l := [x, y, o]) (by simp) (by simp) (by intro w hw; simp at hw; rcases hw with rfl | rfl | rfl <;> assumption)
 simp only [List.getD_cons_zero, List.all_cons, List.all_nil, Bool.and_true] at hs
 unfold inV at ho hx hy
 simp only [aF, aT, aS, aR, aM, ho, hx, hy, and_self, Option.bind_some, fH, cB, dm, dp, c7, fU, List.length_cons, List.length_nil, List.getD_cons_zero, List.getD_cons_succ, iz, Nat.reduceAdd, Nat.reduceLT, if_true, if_false, reduceCtorEq, hs, lit]
 unfold lL
 unfold okE at *
 refine ⟨?_, ?_⟩ <;> grind
theorem yA {s : ag} {c : Int} {k o n : Int} {e : List aD} (hv : fP s) (h : ib s (ae.mk 14 k o n [] e)) :
  aF (ae.mk 14 k o n [] e) (aw.mk s c) = ax s (ae.mk 14 k o n [] e) ∧ ax s (ae.mk 14 k o n [] e) ≠ none := by
 have ho : inV s o := h.o
 rw [cy h.o (by simp) h.a]
 have go := be hv ho
 have hc := pH (c := c) (r := ae.mk 14 k o n [] e) (o := vOf s o) (n := kV (vOf s o).n) hv (h.u (by simp)) h.e go.1 (by unfold kV; split <;> omega)
 unfold inV at ho
 simp only [aF, aT, aS, aR, aM, ho, and_self, Option.bind_some, fH, cB, dm, dp, c7, fU, List.length_cons, List.length_nil, List.getD_cons_zero, List.getD_cons_succ, iz, Nat.reduceAdd, Nat.reduceLT, if_true, if_false, reduceCtorEq, fh, cn, j8, xt]
 simp only [hc.1, hc.2]
 refine ⟨?_, ?_⟩ <;> grind
theorem yB {s : ag} {c : Int} {k o n x : Int} {e : List aD} (hv : fP s) (h : ib s (ae.mk 15 k o n [x] e)) :
  aF (ae.mk 15 k o n [x] e) (aw.mk s c) = ax s (ae.mk 15 k o n [x] e) ∧ ax s (ae.mk 15 k o n [x] e) ≠ none := by
 have ho : inV s o := h.o
 have hx : inV s x := h.a x (by simp)
 rw [cy h.o (by simp) h.a]
 have go := be hv ho
 have gx := be hv hx
 have hc := fun (hn : 1 ≤ n ∧ n ≤ 300) => pH (c := c) (r := ae.mk 15 k o n [x] e) (o := vOf s o) (n := n) hv (h.u (by simp)) h.e go.1 hn
 unfold inV at ho hx
 simp only [aF, aT, aS, aR, aM, ho, hx, and_self, Option.bind_some, fH, cB, dm, dp, c7, fU, List.length_cons, List.length_nil, List.getD_cons_zero, List.getD_cons_succ, iz, Nat.reduceAdd, Nat.reduceLT, if_true, if_false, reduceCtorEq, fh, cn, j8, xt]
 by_cases hn : 1 ≤ n ∧ n ≤ 300
 ·simp only [(hc hn).1, (hc hn).2, Option.bind_some]
  unfold okE at *
  refine ⟨?_, ?_⟩ <;> grind
 ·unfold okE at *
  refine ⟨?_, ?_⟩ <;> grind
theorem yC {s : ag} {c : Int} {k o n x : Int} {e : List aD} (hv : fP s) (h : ib s (ae.mk 16 k o n [x] e)) :
  aF (ae.mk 16 k o n [x] e) (aw.mk s c) = ax s (ae.mk 16 k o n [x] e) ∧ ax s (ae.mk 16 k o n [x] e) ≠ none := by
 have ho : inV s o := h.o
 have hx : inV s x := h.a x (by simp)
 rw [cy h.o (by simp) h.a]
 have go := be hv ho
 have gx := be hv hx
 have hc := fun (hn : 1 ≤ (vOf s o).n) => pH (c := c) (r := ae.mk 16 k o n [x] e) (o := vOf s o) (n := (vOf s o).n) hv (h.u (by simp)) h.e go.1 ⟨hn, go.2.2⟩
 unfold inV at ho hx
 simp only [aF, aT, aS, aR, aM, ho, hx, and_self, Option.bind_some, fH, cB, dm, dp, c7, fU, List.length_cons, List.length_nil, List.getD_cons_zero, List.getD_cons_succ, iz, Nat.reduceAdd, Nat.reduceLT, if_true, if_false, reduceCtorEq, fh, cn, j8, xt]
 by_cases hn : 1 ≤ (vOf s o).n
 ·have hcv : kV (vOf s o).n = (vOf s o).n := by unfold kV; rw [if_neg (by omega)]
  simp only [hcv, (hc hn).1, (hc hn).2, Option.bind_some]
  unfold okE at *
  refine ⟨?_, ?_⟩ <;> grind
 ·unfold okE at *
  refine ⟨?_, ?_⟩ <;> grind
end Pam

namespace Pam
open Go
theorem qr (l : List Int) : ∀ (a : List Int) (x : Int), x ∈ l.foldl ins a ↔ x ∈ a ∨ x ∈ l := by
 induction l with
 | nil => intro a x; simp
 | cons y l ih => intro a x; rw [List.foldl_cons, ih, rv]; simp; grind
theorem t6 (e : List aD) : ∀ (a : List Int) (x : Int), x ∈ e.foldl (fun l p => if nmd p then l ++ [p.v] else l) a ↔ x ∈ a ∨ ∃ p ∈ e, nmd p = true ∧ p.v = x := by
 induction e with
 | nil => intro a x; simp
 | cons p e ih =>
  intro a x
  rw [List.foldl_cons, ih]
  by_cases h : nmd p = true
  ·rw [if_pos h]; simp; grind
  ·rw [if_neg h]; simp; grind
theorem kX (a : List Int) (e : List aD) (x : Int) : x ∈ iP a e ↔ x ∈ a ∨ ∃ p ∈ e, nmd p = true ∧ p.v = x := by
 unfold iP
 rw [qr, t6]
 simp
theorem wb (p : aD) : nmd p = true ↔ (p.op = 2 ∨ p.op = 3 ∨ p.op = 8) := by unfold nmd; simp; grind
def cz (r : ae) : List Int := if r.op < 14 then iP r.a [] else iP r.a r.e
theorem ox {r : ae} {x : Int} (h : x ∈ r.a) : x ∈ cz r := by
 unfold cz
 split <;> (rw [kX]; exact .inl h)
theorem wc {s : ag} {r : ae} (h : ∀ x ∈ cz r, inV s x) (ho : 14 ≤ r.op) : ∀ p ∈ r.e, pC s p := by
 intro p hp hn
 refine h _ ?_
 unfold cz
 rw [if_neg (by omega), kX]
 exact .inr ⟨p, hp, (wb p).2 hn, rfl⟩
def bK (op : Int) : Int := if 1 ≤ op ∧ op ≤ 16 then ([0,0,1,1,2,3,2,2,1,3,3,1,2,2,0,1,1] : List Int).getD op.toNat 0 else -1
noncomputable def iB (s : ag) (mk : List Int) (r : ae) : Int :=
 if ¬ inV s r.out_ then 16
 else if mk.contains r.out_ then 8
 else if bK r.op < 0 ∨ ¬ (r.a.length : Int) = bK r.op then 4
 else if (r.e.length : Int) > 24 then 7
 else if ∃ x ∈ cz r, ¬ inV s x then 16
 else if ax s r = some true then 0 else 10
def bH (s : ag) (i : Nat) : List Int := s.in_ ++ (s.rules.take i).map (fun r => r.out_)
theorem pJ (s : ag) {i : Nat} (h : i < s.rules.length) : bH s (i + 1) = bH s i ++ [(s.rules.getD i default).out_] := by
 unfold bH
 rw [cT _ h, List.map_append, List.append_assoc]
 rfl
def aW (s : ag) (l : List Int) : List Bool := (List.range s.vars.length).map (fun (v : Nat) => decide ((v : Int) ∈ l))
theorem dx (s : ag) (l : List Int) : (aW s l).length = s.vars.length := by unfold aW; simp
theorem qP {s : ag} {l : List Int} {v : Int} (h : inV s v) : (aW s l).getD v.toNat default = l.contains v := by
 unfold inV at h
 unfold aW
 have : v.toNat < s.vars.length := by omega
 have e : ((v.toNat : Nat) : Int) = v := by omega
 simp [List.getD, this, e]
theorem ky {s : ag} {l : List Int} {v : Int} (h : inV s v) : (aW s l).set v.toNat true = aW s (l ++ [v]) := by
 unfold inV at h
 have e : ((v.toNat : Nat) : Int) = v := by omega
 apply List.ext_getElem
 ·simp [dx]
 ·intro i h1 h2
  have hi : i < s.vars.length := by simpa [dx] using h2
  rw [List.getElem_set]
  unfold aW
  simp only [List.getElem_map, List.getElem_range, List.mem_append, List.mem_singleton]
  split
  ·rename_i h3
   subst h3
   rw [e]; simp
  ·rename_i h3
   have : ¬ (i : Int) = v := by omega
   simp [this]
noncomputable def ie (s : ag) (i : Nat) : Option ar :=
 let c := iB s (bH s i) (s.rules.getD i default)
 if c = 0 then none else some (ar.mk c (i : Int))
noncomputable def jk (s : ag) (i : Nat) : Option ar :=
 if ∃ x ∈ cz (s.rules.getD i default), ¬ x ∈ bH s s.rules.length then some (ar.mk 9 (i : Int)) else none
def nY (s : ag) (i : Nat) : Option ar :=
 if s.out_.getD i default ∈ bH s s.rules.length then none else some (ar.mk 9 (-1))
noncomputable def eq (s : ag) : ar :=
 if ¬ (jj s).code = 0 then jj s
 else match dW s.rules.length (ie s) () with
  | .inr z => z
  | .inl _ => match dW s.rules.length (jk s) () with
   | .inr z => z
   | .inl _ => match dW s.out_.length (nY s) () with
    | .inr z => z
    | .inl _ => ar.mk 0 0
end Pam

namespace Pam
open Go
theorem sf {s : ag} {c : Int} {r : ae} (hv : fP s) (h : ib s r) (hp : ¬ bK r.op < 0) (hl : (r.a.length : Int) = bK r.op) :
  aF r (aw.mk s c) = ax s r ∧ ax s r ≠ none := by
 obtain ⟨op, k, o, n, a, e⟩ := r
 simp only at hp hl
 have hop : 1 ≤ op ∧ op ≤ 16 := by
  by_cases hc : 1 ≤ op ∧ op ≤ 16
  ·exact hc
  ·unfold bK at hp; rw [if_neg hc] at hp; omega
 have hcs : op = 1 ∨ op = 2 ∨ op = 3 ∨ op = 4 ∨ op = 5 ∨ op = 6 ∨ op = 7 ∨ op = 8 ∨ op = 9 ∨ op = 10 ∨ op = 11 ∨ op = 12 ∨ op = 13 ∨ op = 14 ∨ op = 15 ∨ op = 16 := by omega
 rcases hcs with rfl | rfl | rfl | rfl | rfl | rfl | rfl | rfl | rfl | rfl | rfl | rfl | rfl | rfl | rfl | rfl
 ·have hl' : a.length = 0 := by simpa [bK] using hl
  match a, hl' with | [], _ => exact yV hv h
 ·have hl' : a.length = 1 := by simp [bK] at hl; omega
  match a, hl' with | [x], _ => exact yW hv h
 ·have hl' : a.length = 1 := by simp [bK] at hl; omega
  match a, hl' with | [x], _ => exact yX hv h
 ·have hl' : a.length = 2 := by simp [bK] at hl; omega
  match a, hl' with | [x, y], _ => exact yY hv h
 ·have hl' : a.length = 3 := by simp [bK] at hl; omega
  match a, hl' with | [x, y, z], _ => exact yZ hv h
 ·have hl' : a.length = 2 := by simp [bK] at hl; omega
  match a, hl' with | [x, y], _ => exact za hv h
 ·have hl' : a.length = 2 := by simp [bK] at hl; omega
  match a, hl' with | [x, y], _ => exact zb hv h
 ·have hl' : a.length = 1 := by simp [bK] at hl; omega
  match a, hl' with | [x], _ => exact zc hv h
 ·have hl' : a.length = 3 := by simp [bK] at hl; omega
  match a, hl' with | [x, y, z], _ => exact zd hv h
 ·have hl' : a.length = 3 := by simp [bK] at hl; omega
  match a, hl' with | [x, y, z], _ => exact yw hv h
 ·have hl' : a.length = 1 := by simp [bK] at hl; omega
  match a, hl' with | [x], _ => exact yx hv h
 ·have hl' : a.length = 2 := by simp [bK] at hl; omega
  match a, hl' with | [x, y], _ => exact yy hv h
 ·have hl' : a.length = 2 := by simp [bK] at hl; omega
  match a, hl' with | [x, y], _ => exact yz hv h
 ·have hl' : a.length = 0 := by simpa [bK] using hl
  match a, hl' with | [], _ => exact yA hv h
 ·have hl' : a.length = 1 := by simp [bK] at hl; omega
  match a, hl' with | [x], _ => exact yB hv h
 ·have hl' : a.length = 1 := by simp [bK] at hl; omega
  match a, hl' with | [x], _ => exact yC hv h
theorem nZ (op : Int) : bK op ≤ 3 := by
 unfold bK
 split
 ·rename_i h
  have hcs : op = 1 ∨ op = 2 ∨ op = 3 ∨ op = 4 ∨ op = 5 ∨ op = 6 ∨ op = 7 ∨ op = 8 ∨ op = 9 ∨ op = 10 ∨ op = 11 ∨ op = 12 ∨ op = 13 ∨ op = 14 ∨ op = 15 ∨ op = 16 := by omega
  rcases hcs with rfl | rfl | rfl | rfl | rfl | rfl | rfl | rfl | rfl | rfl | rfl | rfl | rfl | rfl | rfl | rfl <;> decide
 ·decide
theorem sg (op : Int) : jr op = some (bK op) := by
 unfold jr bK
 by_cases h : 1 ≤ op ∧ op ≤ 16
 ·rw [if_neg (by omega), if_neg (by omega), if_pos (by omega), if_pos h]; rfl
 ·rw [if_neg h]
  by_cases h1 : op < 1
  ·rw [if_pos h1]
  ·rw [if_neg h1, if_pos (by omega)]
theorem sh (op : Int) : hU op = some (bK op) := by
 unfold hU bK
 by_cases h : 1 ≤ op ∧ op ≤ 16
 ·rw [if_neg (by omega), if_neg (by omega), if_pos (by omega), if_pos h]
  have hcs : op = 1 ∨ op = 2 ∨ op = 3 ∨ op = 4 ∨ op = 5 ∨ op = 6 ∨ op = 7 ∨ op = 8 ∨ op = 9 ∨ op = 10 ∨ op = 11 ∨ op = 12 ∨ op = 13 ∨ op = 14 ∨ op = 15 ∨ op = 16 := by omega
  rcases hcs with rfl | rfl | rfl | rfl | rfl | rfl | rfl | rfl | rfl | rfl | rfl | rfl | rfl | rfl | rfl | rfl <;> rfl
 ·rw [if_neg h]
  by_cases h1 : op < 0
  ·rw [if_pos h1]
  ·rw [if_neg h1]
   by_cases h2 : op ≥ 17
   ·rw [if_pos h2]
   ·rw [if_neg h2]
    have : op = 0 := by omega
    subst this
    rfl
theorem we (b : Bool) (c k : Int) (s : ag) : br b c (aw.mk s k) = some (if b = true ∧ k = 0 then c else k) := by
 unfold br
 cases b
 ·simp
 ·by_cases h : k = 0 <;> simp [h]
theorem pK (b : Bool) (c : Int) (s : ag) : br b c (aw.mk s 0) = some (if b = true then c else 0) := by
 unfold br
 cases b <;> rfl
theorem pL {b : Bool} {c k : Int} {s : ag} (h : k ≠ 0) : br b c (aw.mk s k) = some k := by
 unfold br
 cases b
 ·rfl
 ·simp [h]
theorem sX {s : ag} {r : ae} {c x : Int} (h : x ≠ 0) : cK r (aw.mk s c) x = some (x, x) := by
 unfold cK
 rw [pL h]
 simp only [Option.bind_some]
 rw [if_pos h]
theorem u7 {s : ag} {r : ae} {c x : Int} (h : x ≠ 0) : cL r (aw.mk s c) x = some (x, x) := by
 unfold cL
 rw [sg]
 simp only [Option.bind_some, pL h]
 rw [sX h]
 split <;> rfl
theorem sY (s : ag) (l : List Int) : ∀ a : Int, l.foldl (fun a x => if ¬ inV s x ∧ a = 0 then 16 else a) a = if (∃ x ∈ l, ¬ inV s x) ∧ a = 0 then 16 else a := by
 induction l with
 | nil => intro a; simp
 | cons y l ih =>
  intro a
  rw [List.foldl_cons, ih]
  by_cases ha : a = 0
  ·subst ha
   by_cases hy : inV s y
   ·simp [hy]
   ·simp [hy]
  ·simp [ha]
theorem sZ {s : ag} {c : Int} {l : List Int} (hl : l.length ≤ 1000) :
  bb (fun (x : Int × Int) => bV (aw.mk s c) l x.1 x.2) (0, 0) = some (if ∃ x ∈ l, ¬ inV s x then 16 else 0) := by
 obtain ⟨h1, _⟩ := kw (A := Int) (T := Int) (O := Int) (S := Int × Int) (fun a i => (a, i)) (body := fun x => bV (aw.mk s c) l x.1 x.2) l (fun a x => if ¬ inV s x ∧ a = 0 then 16 else a)
  (fun _ _ => True) (fun a => a) 0 trivial
  (by
   intro i a hi _
   refine ⟨?_, trivial⟩
   show bV (aw.mk s c) l a (i : Int) = _
   unfold bV
   rw [if_pos (ltI hi), if_pos (inI hi)]
   simp only [Int.toNat_natCast]
   rw [rt]
   simp only [Option.bind_some, we]
   rw [wrs i (by omega)]
   have : ((!decide (0 ≤ l.getD i default ∧ l.getD i default < (s.vars.length : Int))) = true ∧ a = 0) ↔ (¬ inV s (l.getD i default) ∧ a = 0) := by unfold inV; simp; omega
   simp only [this])
  (by
   intro a _
   show bV (aw.mk s c) l a (l.length : Int) = _
   unfold bV
   rw [if_neg (bm _)])
 rw [sY] at h1
 rw [h1]
 simp
theorem kY (a : List Int) (e : List aD) : (iP a e).length ≤ a.length + e.length := by
 have k : ∀ (e : List aD) (a : List Int), (e.foldl (fun l p => if nmd p then l ++ [p.v] else l) a).length ≤ a.length + e.length := by
  intro e
  induction e with
  | nil => intro a; simp
  | cons p e ih =>
   intro a
   rw [List.foldl_cons]
   have := ih (if nmd p then a ++ [p.v] else a)
   have h2 : (if nmd p then a ++ [p.v] else a).length ≤ a.length + 1 := by split <;> simp
   simp only [List.length_cons]
   omega
 unfold iP
 have := qq (e.foldl (fun l p => if nmd p then l ++ [p.v] else l) a) []
 have := k e a
 simp at *
 omega
theorem pM {s : ag} {r : ae} (h1 : inV s r.out_) (h2 : ¬ (r.e.length : Int) > 24) (h3 : ¬ ∃ x ∈ cz r, ¬ inV s x) : ib s r := by
 have h4 : ∀ x ∈ cz r, inV s x := fun x hx => Classical.byContradiction (fun hc => h3 ⟨x, hx, hc⟩)
 exact ⟨h1, fun x hx => h4 x (ox hx), fun ho => wc h4 ho, by omega⟩
theorem wg {s : ag} {c : Int} {r : ae} {l : List Int} (hv : fP s) : gp r (aw.mk s c) (aW s l) = some (iB s l r, iB s l r) := by
 unfold gp iB
 rw [rt]
 simp only [Option.bind_some, pK]
 by_cases h1 : inV s r.out_
 ·have h1' : 0 ≤ r.out_ ∧ r.out_ < (s.vars.length : Int) := h1
  simp only [h1', and_self, decide_true, Bool.not_true, Bool.false_eq_true, if_false, if_true, dx, qP h1, not_true_eq_false, h1]
  rw [pK]
  simp only [Option.bind_some]
  by_cases h2 : l.contains r.out_ = true
  ·rw [if_pos h2, if_pos h2, u7 (by decide)]
  ·rw [if_neg h2, if_neg h2]
   unfold cL
   rw [sg]
   simp only [Option.bind_some, pK]
   by_cases h3 : bK r.op < 0
   ·rw [if_pos h3, if_pos trivial, if_pos (.inl h3), sX (by decide)]
   ·rw [if_neg h3]
    by_cases h4 : (r.a.length : Int) = bK r.op
    ·rw [if_neg (by simpa using h4), if_neg (fun hc => hc.elim h3 (fun h => h h4))]
     unfold cK
     rw [pK]
     simp only [Option.bind_some]
     by_cases h5 : (r.e.length : Int) > 24
     ·have e5 : decide ((r.e.length : Int) > 24) = true := by simpa using h5
      simp only [e5, if_true]
      rw [if_pos (by decide), if_pos h5]
     ·have e5 : decide ((r.e.length : Int) > 24) = false := by simpa using h5
      simp only [e5, Bool.false_eq_true, if_false, not_true_eq_false]
      rw [if_neg h5]
      have hle := nZ r.op
      have hj : ∀ l' : List Int, (∀ x, x ∈ l' ↔ x ∈ cz r) → l'.length ≤ 1000 → dh r (aw.mk s c) 0 l' =
        some (if ∃ x ∈ cz r, ¬ inV s x then 16 else if ax s r = some true then 0 else 10, if ∃ x ∈ cz r, ¬ inV s x then 16 else if ax s r = some true then 0 else 10) := by
       intro l' hm hl
       unfold dh
       show (bb (fun (x : Int × Int) => bV (aw.mk s c) l' x.1 x.2) (0, 0)).bind _ = _
       rw [sZ hl]
       simp only [Option.bind_some, hm]
       unfold dP
       by_cases h6 : ∃ x ∈ cz r, ¬ inV s x
       ·simp only [if_pos h6]
        rw [if_neg (by decide)]
       ·simp only [if_neg h6]
        rw [if_pos trivial]
        obtain ⟨f1, f2⟩ := sf (c := 0) hv (pM h1 h5 h6) h3 h4
        simp only [pK]
        rw [f1]
        cases hf : ax s r with
        | none => exact absurd hf f2
        | some b => cases b <;> simp
      by_cases h7 : r.op ≥ 14
      ·rw [if_pos h7, kW _ (by omega) (by omega)]
       simp only [Option.bind_some]
       have hu : cz r = iP r.a r.e := by unfold cz; rw [if_neg (by omega)]
       have := kY r.a r.e
       exact hj _ (fun x => by rw [hu]) (by omega)
      ·rw [if_neg h7]
       have hu : cz r = iP r.a [] := by unfold cz; rw [if_pos (by omega)]
       exact hj _ (fun x => by rw [hu, kX]; simp) (by omega)
    ·rw [if_pos (by simpa using h4), if_pos (.inr h4), sX (by decide)]
 ·have h1' : ¬ (0 ≤ r.out_ ∧ r.out_ < (s.vars.length : Int)) := h1
  simp only [h1', decide_false, Bool.not_false, if_true, h1, not_false_eq_true]
  rw [if_neg (by decide), pL (by decide)]
  simp only [Option.bind_some]
  rw [u7 (by decide)]
end Pam

namespace Pam
open Go
theorem pN {T Z : Type} (l : List Int) (p : Int → Prop) [DecidablePred p] (z : Z) (t : T) :
  dW l.length (fun k => if p (l.getD k default) then none else some z) t = if ∃ x ∈ l, ¬ p x then .inr z else .inl t := by
 rcases cI l.length (fun k => if p (l.getD k default) then none else some z) t with ⟨e, h⟩ | ⟨j, z', hj, hf, e⟩
 ·rw [e, if_neg]
  rintro ⟨x, hx, hp⟩
  obtain ⟨i, hi, rfl⟩ := List.mem_iff_getElem.1 hx
  have := h i hi
  have e2 : l.getD i default = l[i] := by simp [List.getD, hi]
  simp only [e2, if_neg hp] at this
  cases this
 ·rw [e, if_pos]
  ·split at hf
   ·cases hf
   ·simp only [Option.some.injEq] at hf; rw [hf]
  ·split at hf
   ·cases hf
   ·rename_i hp; exact ⟨_, bi hj, hp⟩
theorem u9 (a b : Int) : eR a b = some (ar.mk a b) := by unfold eR; rfl
structure nC (s : ag) : Prop where
 v : fP s
 nv : s.vars.length ≤ 400
 nr : s.rules.length ≤ 400
 ni : s.in_.length ≤ 400
 no : s.out_.length ≤ 400
 i : ∀ x ∈ s.in_, inV s x
 o : ∀ x ∈ s.out_, inV s x
theorem n4 {s : ag} (h : (jj s).code = 0) : nC s := by
 unfold jj at h
 split at h
 ·cases h
 ·rename_i hl
  rcases cI s.vars.length (nX s) () with ⟨e1, h1⟩ | ⟨j, z, hj, hf, e⟩
  ·rw [e1] at h
   rcases cI s.in_.length (inF s) () with ⟨e2, h2⟩ | ⟨j, z, hj, hf, e⟩
   ·simp only [e2] at h
    rcases cI s.out_.length (ml s) () with ⟨e3, h3⟩ | ⟨j, z, hj, hf, e⟩
    ·refine ⟨⟨fun v hv => ?_, fun v hv => ?_⟩, by omega, by omega, by omega, by omega, fun x hx => ?_, fun x hx => ?_⟩
     ·obtain ⟨i, hi, rfl⟩ := List.mem_iff_getElem.1 hv
      have := h1 i hi
      have e2 : s.vars.getD i default = s.vars[i] := by simp [List.getD, hi]
      unfold nX tW at this
      rw [e2] at this
      split at this
      ·cases this
      ·unfold okE; omega
     ·obtain ⟨i, hi, rfl⟩ := List.mem_iff_getElem.1 hv
      have := h1 i hi
      have e2 : s.vars.getD i default = s.vars[i] := by simp [List.getD, hi]
      unfold nX tW at this
      rw [e2] at this
      split at this
      ·cases this
      ·split at this
       ·cases this
       ·omega
     ·obtain ⟨i, hi, rfl⟩ := List.mem_iff_getElem.1 hx
      have := h2 i hi
      have e2 : s.in_.getD i default = s.in_[i] := by simp [List.getD, hi]
      unfold inF at this
      rw [e2] at this
      by_cases hh : inV s s.in_[i]
      ·exact hh
      ·rw [if_pos hh] at this; cases this
     ·obtain ⟨i, hi, rfl⟩ := List.mem_iff_getElem.1 hx
      have := h3 i hi
      have e2 : s.out_.getD i default = s.out_[i] := by simp [List.getD, hi]
      unfold ml at this
      rw [e2] at this
      by_cases hh : inV s s.out_[i]
      ·exact hh
      ·rw [if_pos hh] at this; cases this
    ·simp only [e] at h
     unfold ml at hf
     split at hf
     ·simp only [Option.some.injEq] at hf; subst hf; cases h
     ·cases hf
   ·simp only [e] at h
    unfold inF at hf
    split at hf
    ·simp only [Option.some.injEq] at hf; subst hf; cases h
    ·split at hf
     ·simp only [Option.some.injEq] at hf; subst hf; cases h
     ·cases hf
  ·simp only [e] at h
   unfold nX tW at hf
   split at hf
   ·simp only [Option.some.injEq] at hf; subst hf; cases h
   ·split at hf
    ·simp only [Option.some.injEq] at hf; subst hf; cases h
    ·cases hf
theorem kZ {s : ag} {l : List Int} {r : ae} (h : iB s l r = 0) : ib s r ∧ (∀ x ∈ cz r, inV s x) ∧ r.a.length ≤ 3 ∧ ¬ l.contains r.out_ = true ∧ ¬ bK r.op < 0 ∧ (r.a.length : Int) = bK r.op ∧ ax s r = some true := by
 unfold iB at h
 by_cases h1 : inV s r.out_
 ·rw [if_neg (by simpa using h1)] at h
  by_cases h2 : l.contains r.out_ = true
  ·rw [if_pos h2] at h; cases h
  ·rw [if_neg h2] at h
   by_cases h3 : bK r.op < 0 ∨ ¬ (r.a.length : Int) = bK r.op
   ·rw [if_pos h3] at h; cases h
   ·rw [if_neg h3] at h
    by_cases h5 : (r.e.length : Int) > 24
    ·rw [if_pos h5] at h; cases h
    ·rw [if_neg h5] at h
     by_cases h6 : ∃ x ∈ cz r, ¬ inV s x
     ·rw [if_pos h6] at h; cases h
     ·rw [if_neg h6] at h
      have hle := nZ r.op
      refine ⟨pM h1 h5 h6, fun x hx => Classical.byContradiction (fun hc => h6 ⟨x, hx, hc⟩), by omega, h2, fun hc => h3 (.inl hc), Classical.byContradiction (fun hc => h3 (.inr hc)), ?_⟩
      by_cases h7 : ax s r = some true
      ·exact h7
      ·rw [if_neg h7] at h; cases h
 ·rw [if_pos h1] at h; cases h
theorem fT {s : ag} {l : List Int} {v : Int} (h : inV s v) : (aW s l).getD v.toNat default = true ↔ v ∈ l := by rw [qP h]; simp
theorem qQ (s : ag) : List.replicate s.vars.length false = aW s [] := by
 apply List.ext_getElem
 ·simp [dx]
 ·intro i h1 h2; simp [aW]
theorem wh {s : ag} (g : nC s) : bb (fun (x : List Bool × Int) => dC s x.1 x.2) (aW s [], 0) = some (aW s s.in_) := by
 have := iA (S := List Bool × Int) (T := List Bool) (fun i => (aW s (s.in_.take i), (i : Int))) (body := fun x => dC s x.1 x.2) s.in_.length (aW s s.in_)
  (by
   intro i hi
   show dC s (aW s (s.in_.take i)) (i : Int) = _
   have gi := g.i _ (bi hi)
   have gi' := gi
   unfold inV at gi'
   unfold dC
   rw [if_pos (ltI hi), if_pos (inI hi)]
   simp only [Int.toNat_natCast]
   rw [dx, if_pos gi', ky gi, wrs i (by have := g.ni; omega), cT _ hi])
  (by
   show dC s (aW s (s.in_.take s.in_.length)) (s.in_.length : Int) = _
   unfold dC
   rw [if_neg (bm _), List.take_length])
 exact this
theorem s6 {s : ag} (g : nC s) : bb (fun (x : Int × List Bool × Int) => dB s x.1 x.2.1 x.2.2) (0, aW s s.in_, 0) = some (dW s.rules.length (ie s) (0, aW s (bH s s.rules.length))) := by
 have e0 : bH s 0 = s.in_ := by simp [bH]
 have := wa (S := Int × List Bool × Int) (T := Int × List Bool) (Z := ar) (fun i => (0, aW s (bH s i), (i : Int))) (body := fun x => dB s x.1 x.2.1 x.2.2) s.rules.length (ie s) (0, aW s (bH s s.rules.length))
  (by
   intro i hi
   show dB s 0 (aW s (bH s i)) (i : Int) = _
   unfold dB
   rw [if_pos (ltI hi), if_pos (inI hi)]
   simp only [Int.toNat_natCast]
   rw [wg g.v]
   simp only [Option.bind_some]
   unfold ie
   by_cases h : iB s (bH s i) (s.rules.getD i default) = 0
   ·obtain ⟨gr, _⟩ := kZ h
    have go := gr.o
    have go' := go
    unfold inV at go'
    simp only [h, not_true_eq_false, if_false, if_true]
    rw [dx, if_pos go', ky go, wrs i (by have := g.nr; omega), pJ s hi]
   ·simp only [h, not_false_eq_true, if_true, if_false])
  (by
   show dB s 0 (aW s (bH s s.rules.length)) (s.rules.length : Int) = _
   unfold dB
   rw [if_neg (bm _)])
 rw [e0] at this
 exact this
theorem t7 {s : ag} (g : nC s) (hr : ∀ i, i < s.rules.length → ie s i = none) :
  bb (fun x => gK s (aW s (bH s s.rules.length)) x) 0 = some (dW s.rules.length (jk s) ()) := by
 refine bI s.rules.length (jk s) () (fun i hi => ?_) ?_
 ·have h0 := hr i hi
  unfold ie at h0
  have h0' : iB s (bH s i) (s.rules.getD i default) = 0 := by
   by_cases h : iB s (bH s i) (s.rules.getD i default) = 0
   ·exact h
   ·simp only [if_neg h] at h0; cases h0
  obtain ⟨gr, hu, ha, _⟩ := kZ h0'
  have he := gr.e
  unfold gK
  rw [if_pos (ltI hi), if_pos (inI hi)]
  simp only [Int.toNat_natCast]
  generalize hR : s.rules.getD i default = r at *
  have hj : ∀ l : List Int, (∀ x, x ∈ l ↔ x ∈ cz r) → l.length ≤ 1000 → fE (aW s (bH s s.rules.length)) (i : Int) l = some (match jk s i with | some z => .inr (.inr z) | none => .inl ((i + 1 : Nat) : Int)) := by
   intro l hm hl
   unfold fE
   rw [bI l.length (fun k => if l.getD k default ∈ bH s s.rules.length then none else some (ar.mk 9 (i : Int))) () (fun k hk => by
    have gk := hu _ ((hm _).1 (bi hk))
    have gk' := gk
    unfold inV at gk'
    unfold ir
    rw [if_pos (ltI hk), if_pos (inI hk)]
    simp only [Int.toNat_natCast]
    rw [dx, if_pos gk', wrs k (by omega)]
    by_cases hc : l.getD k default ∈ bH s s.rules.length
    ·rw [if_pos ((fT gk).2 hc), if_pos hc]
    ·rw [if_neg (fun h => hc ((fT gk).1 h)), if_neg hc]) (by unfold ir; rw [if_neg (bm _)])]
   rw [pN l (fun x => x ∈ bH s s.rules.length)]
   unfold jk
   rw [hR]
   simp only [hm]
   by_cases h9 : ∃ x ∈ cz r, ¬ x ∈ bH s s.rules.length
   ·simp only [if_pos h9]; rfl
   ·simp only [if_neg h9, Option.bind_some, Sum.elim_inl]
    unfold gJ
    rw [wrs i (by have := g.nr; omega)]
  by_cases h7 : r.op ≥ 14
  ·rw [if_pos h7, kW _ (by omega) (by omega)]
   simp only [Option.bind_some]
   have hu' : cz r = iP r.a r.e := by unfold cz; rw [if_neg (by omega)]
   have := kY r.a r.e
   rw [hj (iP r.a r.e) (fun x => by rw [hu']) (by omega)]
   cases jk s i <;> rfl
  ·rw [if_neg h7]
   have hu' : cz r = iP r.a [] := by unfold cz; rw [if_pos (by omega)]
   rw [hj r.a (fun x => by rw [hu', kX]; simp) (by omega)]
   cases jk s i <;> rfl
 ·unfold gK; rw [if_neg (bm _)]
theorem va {s : ag} (g : nC s) : bb (fun x => gH s (aW s (bH s s.rules.length)) x) 0 = some (dW s.out_.length (nY s) ()) := by
 refine bI s.out_.length (nY s) () (fun i hi => ?_) ?_
 ·have gk := g.o _ (bi hi)
  have gk' := gk
  unfold inV at gk'
  unfold gH nY
  rw [if_pos (ltI hi), if_pos (inI hi)]
  simp only [Int.toNat_natCast]
  rw [dx, if_pos gk', wrs i (by have := g.no; omega)]
  by_cases hc : s.out_.getD i default ∈ bH s s.rules.length
  ·rw [if_pos ((fT gk).2 hc), if_pos hc]
  ·rw [if_neg (fun h => hc ((fT gk).1 h)), if_neg hc]
 ·unfold gH; rw [if_neg (bm _)]
theorem oy (s : ag) : js s = some (eq s) := by
 unfold js eq
 rw [sS]
 simp only [Option.bind_some]
 by_cases h : (jj s).code = 0
 ·have g := n4 h
  simp only [h, not_true_eq_false, if_false]
  rw [if_pos ⟨by omega, pD _ (by have := g.nv; omega)⟩]
  rw [qQ]
  show (bb (fun (x : List Bool × Int) => dC s x.1 x.2) (aW s [], 0)).bind (fun z46 => fG s z46) = _
  rw [wh g]
  simp only [Option.bind_some]
  unfold fG
  show (bb (fun (x : Int × List Bool × Int) => dB s x.1 x.2.1 x.2.2) (0, aW s s.in_, 0)).bind (Sum.elim (fun z => fF s z.1 z.2) (fun z36 => some z36)) = _
  rw [s6 g]
  simp only [Option.bind_some]
  rcases cI s.rules.length (ie s) ((0 : Int), aW s (bH s s.rules.length)) with ⟨e, h1⟩ | ⟨j, z, hj, hf, e⟩
  ·rw [e, iO h1]
   simp only [Sum.elim_inl]
   unfold fF
   rw [t7 g h1]
   simp only [Option.bind_some]
   cases dW s.rules.length (jk s) () with
   | inr z => rfl
   | inl u =>
    simp only [Sum.elim_inl]
    unfold gI
    rw [va g]
    simp only [Option.bind_some]
    cases dW s.out_.length (nY s) () <;> rfl
  ·rw [e]
   rcases cI s.rules.length (ie s) () with ⟨e', h1⟩ | ⟨j', z', hj', hf', e'⟩
   ·rw [h1 j hj] at hf; cases hf
   ·have : z = z' := by
     unfold dW at e e'
     cases hq : (List.range s.rules.length).findSome? (ie s) with
     | none => rw [hq] at e; cases e
     | some q => rw [hq] at e e'; simp at e e'; rw [← e, ← e']
    rw [e', this]; rfl
 ·simp only [h, not_false_eq_true, if_true]
end Pam

namespace Pam
open Go
def gL (s : ag) (i : Nat) : List Int := (s.rules.take i).map (fun r => r.out_)
theorem mb (s : ag) {i : Nat} (h : i ≤ s.rules.length) : (gL s i).length = i := by unfold gL; simp [h]
theorem iR (s : ag) (i : Nat) : bH s i = s.in_ ++ gL s i := rfl
theorem pO {s : ag} {n : Nat} (hn : n ≤ s.rules.length) (hb : s.rules.length ≤ 100000) : kr s (n : Int) = some (gL s n) := by
 unfold kr
 have := iA (S := List Int × Int) (T := List Int) (fun i => (gL s i, (i : Int))) (body := fun x => eT s (n : Int) x.1 x.2) n (gL s n)
  (by
   intro i hi
   show eT s (n : Int) (gL s i) (i : Int) = _
   unfold eT
   rw [if_pos (ltI hi), if_pos ⟨inI (by omega), qN _ (by rw [mb s (by omega)]; omega)⟩, wrs i (by omega)]
   simp only [Int.toNat_natCast]
   have : gL s (i + 1) = gL s i ++ [(s.rules.getD i default).out_] := by unfold gL; rw [cT _ (by omega), List.map_append]; rfl
   rw [this]
   rfl)
  (by
   show eT s (n : Int) (gL s n) (n : Int) = _
   unfold eT
   rw [if_neg (bm _)])
 have e0 : gL s 0 = [] := rfl
 rw [e0] at this
 show (bb (fun x => eT s (n : Int) x.1 x.2) ([], 0)).bind _ = _
 rw [show ((0 : Nat) : Int) = 0 from rfl] at this
 rw [this]
 rfl
theorem pP (r : ae) (ha : r.a.length ≤ 100000) (he : r.e.length ≤ 100000) : kt r = some (cz r) := by
 unfold kt cz
 by_cases h : r.op < 14
 ·rw [if_pos h, if_pos h]
  unfold gA
  rw [pG _ (by simp only; omega) (by simp)]
  rfl
 ·rw [if_neg h, if_neg h]
  unfold gA
  rw [pG _ (by simp only; omega) (by simp only; omega)]
  rfl
theorem n5 (r : ae) : (cz r).length ≤ r.a.length + r.e.length := by
 unfold cz
 split
 ·have := kY r.a []; simp at this; omega
 ·exact kY _ _
theorem oz (s : ag) (x : Int) : ¬ inV s x ↔ x < 0 ∨ x ≥ (s.vars.length : Int) := by unfold inV; omega
theorem vc {s : ag} (g : nC s) {i : Nat} (hi : i < s.rules.length) : ez s (i : Int) = some (match ie s i with | some z => .inr (.inr z) | none => .inl ((i + 1 : Nat) : Int)) := by
 unfold ez ie iB
 rw [if_pos (ltI hi), if_pos (inI hi)]
 simp only [Int.toNat_natCast, u9, Option.bind_some]
 have hnr := g.nr
 generalize hR : s.rules.getD i default = r
 by_cases h1 : inV s r.out_
 ·have h1' := h1
  unfold inV at h1'
  rw [if_neg (by omega), if_neg (by omega)]
  rw [jR _ _ (by have := g.ni; omega)]
  simp only [Option.bind_some, h1, not_true_eq_false, if_false]
  by_cases h2 : s.in_.contains r.out_ = true
  ·rw [if_pos h2]
   have : (bH s i).contains r.out_ = true := by rw [iR]; simp at h2 ⊢; exact .inl h2
   simp only [this, if_true]
   rfl
  ·rw [if_neg h2, pO (by omega) (by omega)]
   simp only [Option.bind_some]
   rw [jR _ _ (by rw [mb s (by omega)]; omega)]
   simp only [Option.bind_some]
   by_cases h3 : (gL s i).contains r.out_ = true
   ·rw [if_pos h3]
    have : (bH s i).contains r.out_ = true := by rw [iR]; simp at h3 ⊢; exact .inr h3
    simp only [this, if_true]
    rfl
   ·rw [if_neg h3]
    have : (bH s i).contains r.out_ = false := by rw [iR]; simp at h2 h3 ⊢; exact ⟨h2, h3⟩
    simp only [this, Bool.false_eq_true, if_false, sh, Option.bind_some]
    by_cases h4 : bK r.op < 0
    ·rw [if_pos h4]
     simp only [h4, true_or, if_true]
     rfl
    ·rw [if_neg h4]
     by_cases h5 : (r.a.length : Int) = bK r.op
     ·rw [if_neg (fun hc => hc h5.symm)]
      have h45 : ¬ (bK r.op < 0 ∨ ¬ (r.a.length : Int) = bK r.op) := fun hc => hc.elim h4 (fun h => h h5)
      simp only [if_neg h45]
      have hle := nZ r.op
      by_cases h6 : (r.e.length : Int) > 24
      ·rw [if_pos h6]
       simp only [if_pos h6]
       rfl
      ·rw [if_neg h6]
       simp only [if_neg h6]
       rw [pP r (by omega) (by omega)]
       simp only [Option.bind_some]
       have hul := n5 r
       rw [bI (cz r).length (fun k => if inV s ((cz r).getD k default) then none else some (ar.mk 16 (i : Int))) () (fun k hk => by
        unfold fO
        rw [if_pos (ltI hk), if_pos (inI hk)]
        simp only [Int.toNat_natCast, u9, Option.bind_some]
        rw [wrs k (by omega)]
        by_cases hc : inV s ((cz r).getD k default)
        ·have hc' := hc
         unfold inV at hc'
         rw [if_neg (by omega), if_neg (by omega), if_pos hc]
        ·rw [if_neg hc]
         rcases (oz s _).1 hc with h | h
         ·rw [if_pos h]
         ·by_cases h' : (cz r).getD k default < 0
          ·rw [if_pos h']
          ·rw [if_neg h', if_pos h]) (by unfold fO; rw [if_neg (bm _)])]
       rw [pN (cz r) (fun x => inV s x)]
       by_cases h7 : ∃ x ∈ cz r, ¬ inV s x
       ·simp only [if_pos h7]; rfl
       ·simp only [if_neg h7, Option.bind_some, Sum.elim_inl]
        unfold ey
        simp only [Int.toNat_natCast, hR]
        obtain ⟨_, f2⟩ := sf (c := 0) g.v (pM h1 h6 h7) h4 h5
        cases hf : ax s r with
        | none => exact absurd hf f2
        | some b =>
         cases b
         ·simp only [Option.bind_some, u9]; rfl
         ·simp only [Option.bind_some, if_true]
          unfold fN
          rw [wrs i (by omega)]
     ·rw [if_pos (fun hc => h5 hc.symm)]
      have h45 : bK r.op < 0 ∨ ¬ (r.a.length : Int) = bK r.op := .inr h5
      simp only [if_pos h45]
      rfl
 ·simp only [h1, not_false_eq_true, if_true]
  rcases (oz s _).1 h1 with h | h
  ·rw [if_pos h]; rfl
  ·by_cases h' : r.out_ < 0
   ·rw [if_pos h']; rfl
   ·rw [if_neg h', if_pos h]; rfl
theorem vd {s : ag} (g : nC s) (hr : ∀ i, i < s.rules.length → ie s i = none) :
  bb (fun x => ew s (gL s s.rules.length) x) 0 = some (dW s.rules.length (jk s) ()) := by
 have hnr := g.nr
 refine bI s.rules.length (jk s) () (fun i hi => ?_) ?_
 ·have h0 := hr i hi
  unfold ie at h0
  have h0' : iB s (bH s i) (s.rules.getD i default) = 0 := by
   by_cases h : iB s (bH s i) (s.rules.getD i default) = 0
   ·exact h
   ·simp only [if_neg h] at h0; cases h0
  obtain ⟨gr, hu, ha, _⟩ := kZ h0'
  have he := gr.e
  unfold ew jk
  rw [if_pos (ltI hi), if_pos (inI hi)]
  simp only [Int.toNat_natCast]
  generalize hR : s.rules.getD i default = r at *
  rw [pP r (by omega) (by omega)]
  simp only [Option.bind_some]
  have hul := n5 r
  rw [bI (cz r).length (fun k => if (cz r).getD k default ∈ bH s s.rules.length then none else some (ar.mk 9 (i : Int))) () (fun k hk => by
   unfold fM
   rw [if_pos (ltI hk), if_pos (inI hk)]
   simp only [Int.toNat_natCast, u9, Option.bind_some]
   rw [wrs k (by omega), jR _ _ (by have := g.ni; omega)]
   simp only [Option.bind_some]
   rw [jR _ _ (by rw [mb s (by omega)]; omega)]
   simp only [Option.bind_some]
   rw [iR]
   by_cases hc : (cz r).getD k default ∈ s.in_
   ·rw [if_pos (by simpa using hc), if_pos (List.mem_append.2 (.inl hc))]
   ·rw [if_neg (by simpa using hc)]
    by_cases hd : (cz r).getD k default ∈ gL s s.rules.length
    ·rw [if_pos (by simpa using hd), if_pos (List.mem_append.2 (.inr hd))]
    ·rw [if_neg (by simpa using hd), if_neg (fun h => (List.mem_append.1 h).elim hc hd)]) (by unfold fM; rw [if_neg (bm _)])]
  rw [pN (cz r) (fun x => x ∈ bH s s.rules.length)]
  by_cases h9 : ∃ x ∈ cz r, ¬ x ∈ bH s s.rules.length
  ·simp only [if_pos h9]; rfl
  ·simp only [if_neg h9, Option.bind_some, Sum.elim_inl]
   unfold eu
   rw [wrs i (by omega)]
 ·unfold ew; rw [if_neg (bm _)]
theorem wi {s : ag} (g : nC s) : bb (fun x => er s (gL s s.rules.length) x) 0 = some (dW s.out_.length (nY s) ()) := by
 have hno := g.no
 have hnr := g.nr
 refine bI s.out_.length (nY s) () (fun i hi => ?_) ?_
 ·unfold er nY
  rw [if_pos (ltI hi), if_pos (inI hi)]
  simp only [Int.toNat_natCast, u9, Option.bind_some]
  rw [wrs i (by omega), jR _ _ (by have := g.ni; omega)]
  simp only [Option.bind_some]
  rw [jR _ _ (by rw [mb s (by omega)]; omega)]
  simp only [Option.bind_some]
  rw [iR]
  by_cases hc : s.out_.getD i default ∈ s.in_
  ·rw [if_pos (by simpa using hc), if_pos (List.mem_append.2 (.inl hc))]
  ·rw [if_neg (by simpa using hc)]
   by_cases hd : s.out_.getD i default ∈ gL s s.rules.length
   ·rw [if_pos (by simpa using hd), if_pos (List.mem_append.2 (.inr hd))]
   ·rw [if_neg (by simpa using hd), if_neg (fun h => (List.mem_append.1 h).elim hc hd)]
 ·unfold er; rw [if_neg (bm _)]
theorem si (s : ag) : iu s = some (eq s) := by
 unfold iu eq
 rw [sT]
 simp only [Option.bind_some]
 by_cases h : (jj s).code = 0
 ·have g := n4 h
  simp only [h, not_true_eq_false, if_false]
  rw [bI s.rules.length (ie s) () (fun i hi => by rw [vc g hi]; cases ie s i <;> rfl) (by unfold ez; rw [if_neg (bm _)])]
  simp only [Option.bind_some]
  rcases cI s.rules.length (ie s) () with ⟨e, h1⟩ | ⟨j, z, hj, hf, e⟩
  ·rw [e]
   simp only [Sum.elim_inl]
   unfold ex
   rw [pO (Nat.le_refl _) (by have := g.nr; omega)]
   simp only [Option.bind_some]
   rw [vd g h1]
   simp only [Option.bind_some]
   cases dW s.rules.length (jk s) () with
   | inr z => rfl
   | inl u =>
    simp only [Sum.elim_inl]
    unfold et
    rw [wi g]
    simp only [Option.bind_some]
    cases dW s.out_.length (nY s) () <;> rfl
  ·rw [e]; rfl
 ·simp only [h, not_false_eq_true, if_true]
end Pam

namespace Pam
open Go
structure fW (s : ag) : Prop where
 h : nC s
 r : ∀ i, i < s.rules.length → iB s (bH s i) (s.rules.getD i default) = 0
 u : ∀ i, i < s.rules.length → ∀ x ∈ cz (s.rules.getD i default), x ∈ bH s s.rules.length
 o : ∀ x ∈ s.out_, x ∈ bH s s.rules.length
theorem gZ {s : ag} (h : (eq s).code = 0) : fW s ∧ eq s = ar.mk 0 0 := by
 unfold eq at h ⊢
 by_cases h0 : (jj s).code = 0
 ·simp only [h0, not_true_eq_false, if_false] at h ⊢
  have g := n4 h0
  rcases cI s.rules.length (ie s) () with ⟨e1, h1⟩ | ⟨j, z, hj, hf, e⟩
  ·simp only [e1] at h ⊢
   rcases cI s.rules.length (jk s) () with ⟨e2, h2⟩ | ⟨j, z, hj, hf, e⟩
   ·simp only [e2] at h ⊢
    rcases cI s.out_.length (nY s) () with ⟨e3, h3⟩ | ⟨j, z, hj, hf, e⟩
    ·simp only [e3]
     refine ⟨⟨g, fun i hi => ?_, fun i hi x hx => ?_, fun x hx => ?_⟩, trivial⟩
     ·have := h1 i hi
      unfold ie at this
      by_cases hc : iB s (bH s i) (s.rules.getD i default) = 0
      ·exact hc
      ·simp only [if_neg hc] at this; cases this
     ·have := h2 i hi
      unfold jk at this
      refine Classical.byContradiction fun hc => ?_
      rw [if_pos ⟨x, hx, hc⟩] at this
      cases this
     ·obtain ⟨i, hi, rfl⟩ := List.mem_iff_getElem.1 hx
      have := h3 i hi
      unfold nY at this
      have e2 : s.out_.getD i default = s.out_[i] := by simp [List.getD, hi]
      rw [e2] at this
      refine Classical.byContradiction fun hc => ?_
      rw [if_neg hc] at this
      cases this
    ·simp only [e] at h
     unfold nY at hf
     split at hf
     ·cases hf
     ·simp only [Option.some.injEq] at hf; subst hf; cases h
   ·simp only [e] at h
    unfold jk at hf
    split at hf
    ·simp only [Option.some.injEq] at hf; subst hf; cases h
    ·cases hf
  ·simp only [e] at h
   unfold ie at hf
   by_cases hc : iB s (bH s j) (s.rules.getD j default) = 0
   ·simp only [if_pos hc] at hf; cases hf
   ·simp only [if_neg hc, Option.some.injEq] at hf; subst hf; exact absurd h hc
 ·simp only [h0, not_false_eq_true, if_true] at h
def cx (r : ae) : List Int := if r.op = 13 ∧ (r.a.length : Int) = 2 then [r.a.getD 0 default] else cz r
theorem jS {r : ae} {x : Int} (h : x ∈ cx r) : x ∈ cz r := by
 unfold cx at h
 split at h
 ·rename_i hc
  simp only [List.mem_singleton] at h
  subst h
  exact ox (bi (by omega))
 ·exact h
theorem mS (r : ae) : (cx r).length ≤ r.a.length + r.e.length := by
 unfold cx
 split
 ·simp; omega
 ·exact n5 r
theorem pQ (r : ae) (ha : r.a.length ≤ 100000) (he : r.e.length ≤ 100000) : gg r = some (cx r) := by
 have j1 : ef r = some (cz r) := by
  unfold ef cz
  by_cases h : r.op < 14
  ·rw [if_pos h, if_pos h]
   unfold ee
   rw [kW _ (by simp only; omega) (by simp)]
   rfl
  ·rw [if_neg h, if_neg h]
   unfold ee
   rw [kW _ (by simp only; omega) (by simp only; omega)]
   rfl
 unfold gg cx
 by_cases h1 : r.op = 13
 ·rw [if_pos h1]
  by_cases h2 : (r.a.length : Int) = 2
  ·rw [if_pos h2, if_pos (by omega), if_pos ⟨h1, h2⟩]; rfl
  ·rw [if_neg h2, if_neg (fun h => h2 h.2), j1]
 ·rw [if_neg h1, if_neg (fun h => h1 h.1), j1]
def jT (l : List Int) (r : ae) : Prop := ∀ x ∈ cx r, x ∈ l
instance (l : List Int) (r : ae) : Decidable (jT l r) := inferInstanceAs (Decidable (∀ x ∈ cx r, x ∈ l))
theorem pR {s : ag} {l : List Int} {r : ae} {a : List ai} {b c : List Int} {d : List ae} (hu : ∀ x ∈ cx r, inV s x) (ha : r.a.length ≤ 1000) (he : r.e.length ≤ 1000) :
  du r a b c d (aW s l) = some (decide (jT l r)) := by
 unfold du
 rw [pQ r (by omega) (by omega)]
 simp only [Option.bind_some]
 unfold c8 dj
 have hn := mS r
 rw [bI (cx r).length (fun k => if (cx r).getD k default ∈ l then none else some (k : Int)) () (fun k hk => by
  have gk := hu _ (bi hk)
  have gk' := gk
  unfold inV at gk'
  unfold b9 eQ
  rw [if_pos (ltI hk), if_pos (inI hk)]
  simp only [Int.toNat_natCast]
  rw [dx, if_pos gk', wrs k (by omega)]
  simp only [Option.bind_some]
  by_cases hc : (cx r).getD k default ∈ l
  ·rw [(fT gk).2 hc, if_pos hc]; rfl
  ·have : (aW s l).getD ((cx r).getD k default).toNat default = false := by
    cases hh : (aW s l).getD ((cx r).getD k default).toNat default
    ·rfl
    ·exact absurd ((fT gk).1 hh) hc
   rw [this, if_neg hc]; rfl) (by unfold b9; rw [if_neg (bm _)])]
 rcases cI (cx r).length (fun k => if (cx r).getD k default ∈ l then none else some (k : Int)) () with ⟨e, h⟩ | ⟨j, z, hj, hf, e⟩
 ·rw [e]
  have : jT l r := by
   intro x hx
   obtain ⟨i, hi, rfl⟩ := List.mem_iff_getElem.1 hx
   have := h i hi
   have e2 : (cx r).getD i default = (cx r)[i] := by simp [List.getD, hi]
   rw [e2] at this
   refine Classical.byContradiction fun hc => ?_
   rw [if_neg hc] at this; cases this
  simp only [this, decide_true]
  rfl
 ·rw [e]
  split at hf
  ·cases hf
  ·rename_i hc
   simp only [Option.some.injEq] at hf
   have : ¬ jT l r := fun h => hc (h _ (bi hj))
   simp only [this, decide_false, ← hf]
   simp only [Option.bind_some, Sum.elim_inr]
   simp
def tw (s : ag) : Prop := ∀ i, i < s.rules.length → jT (bH s i) (s.rules.getD i default)
instance (s : ag) : Decidable (tw s) := inferInstanceAs (Decidable (∀ i, i < s.rules.length → jT (bH s i) (s.rules.getD i default)))
theorem fW.rule {s : ag} (g : fW s) {i : Nat} (hi : i < s.rules.length) : ib s (s.rules.getD i default) ∧ (∀ x ∈ cz (s.rules.getD i default), inV s x) ∧ (s.rules.getD i default).a.length ≤ 3 ∧ ¬ (bH s i).contains (s.rules.getD i default).out_ = true ∧ ¬ bK (s.rules.getD i default).op < 0 ∧ ((s.rules.getD i default).a.length : Int) = bK (s.rules.getD i default).op := by
 obtain ⟨h1, h2, h3, h4, h5, h6, _⟩ := kZ (g.r i hi)
 exact ⟨h1, h2, h3, h4, h5, h6⟩
theorem sj {s : ag} (g : fW s) : hQ s = some (s.vars, s.in_, s.out_, s.rules, aW s s.in_) := by
 unfold hQ
 rw [if_pos ⟨by omega, pD _ (by have := g.h.nv; omega)⟩, qQ]
 have := iA (S := List Bool × Int) (T := List Bool) (fun i => (aW s (s.in_.take i), (i : Int))) (body := fun x => di s x.1 x.2) s.in_.length (aW s s.in_)
  (by
   intro i hi
   show di s (aW s (s.in_.take i)) (i : Int) = _
   have gi := g.h.i _ (bi hi)
   have gi' := gi
   unfold inV at gi'
   unfold di
   rw [if_pos (ltI hi), if_pos (inI hi)]
   simp only [Int.toNat_natCast]
   rw [dx, if_pos gi', ky gi, wrs i (by have := g.h.ni; omega), cT _ hi])
  (by
   show di s (aW s (s.in_.take s.in_.length)) (s.in_.length : Int) = _
   unfold di
   rw [if_neg (bm _), List.take_length])
 show (bb (fun (x : List Bool × Int) => di s x.1 x.2) (aW s [], 0)).bind (fun z => fj s z) = _
 rw [show s.in_.take 0 = [] from rfl, show ((0 : Nat) : Int) = 0 from rfl] at this
 rw [this]
 rfl
end Pam

namespace Pam
open Go
theorem mc {s : ag} (g : fW s) {i : Nat} (hi : i < s.rules.length) : ¬ (s.rules.getD i default).out_ ∈ bH s i := fun h => (g.rule hi).2.2.2.1 (List.contains_iff_mem.2 h)
theorem vi (s : ag) (x : Int) {i : Nat} (hi : i ≤ s.rules.length) : x ∈ gL s i ↔ ∃ k, k < i ∧ (s.rules.getD k default).out_ = x := by
 induction i with
 | zero => simp [gL]
 | succ i ih =>
  have e2 : gL s (i + 1) = gL s i ++ [(s.rules.getD i default).out_] := by unfold gL; rw [cT _ (by omega), List.map_append]; rfl
  rw [e2, List.mem_append, ih (by omega), List.mem_singleton]
  constructor
  ·rintro (⟨k, hk, h⟩ | h)
   ·exact ⟨k, by omega, h⟩
   ·exact ⟨i, by omega, h.symm⟩
  ·rintro ⟨k, hk, h⟩
   by_cases e : k = i
   ·subst e; exact .inr h.symm
   ·exact .inl ⟨k, by omega, h⟩
theorem lO (s : ag) (x : Int) {i : Nat} (hi : i ≤ s.rules.length) : x ∈ bH s i ↔ x ∈ s.in_ ∨ ∃ k, k < i ∧ (s.rules.getD k default).out_ = x := by
 rw [iR, List.mem_append, vi s x hi]
theorem pW {s : ag} (g : fW s) {i k : Nat} (hi : i < s.rules.length) (hk : k < s.rules.length) (h : (s.rules.getD k default).out_ = (s.rules.getD i default).out_) : k = i := by
 rcases Nat.lt_trichotomy k i with hh | hh | hh
 ·exact absurd ((lO s _ (by omega)).2 (.inr ⟨k, hh, h⟩)) (mc g hi)
 ·exact hh
 ·exact absurd ((lO s _ (by omega)).2 (.inr ⟨i, hh, h.symm⟩)) (mc g hk)
theorem qU {s : ag} (g : fW s) {i : Nat} (hi : i < s.rules.length) : ¬ (s.rules.getD i default).out_ ∈ s.in_ := fun h =>
 mc g hi ((lO s _ (by omega)).2 (.inl h))
theorem uc {s : ag} (g : fW s) {i : Nat} (hi : i < s.rules.length) {x : Int} (hx : x ∈ cx (s.rules.getD i default)) : x ∈ s.in_ ∨ ∃ k, k < s.rules.length ∧ (s.rules.getD k default).out_ = x :=
 (lO s x (Nat.le_refl _)).1 (g.u i hi x (jS hx))
theorem tz {s : ag} (g : fW s) {i : Nat} (hi : i < s.rules.length) : ∀ x ∈ cx (s.rules.getD i default), inV s x := fun x hx => (g.rule hi).2.1 x (jS hx)
theorem md {α : Type} [Inhabited α] {l : List α} {i : Nat} (h : i < l.length) : l.getD i default = l[i] := by simp [List.getD, h]
def dI (d : List Nat) : List Int := d.map (fun (k : Nat) => (k : Int))
theorem n7 (d : List Nat) : (dI d).length = d.length := by unfold dI; simp
theorem rA {d : List Nat} {k : Nat} (h : k < d.length) : (dI d).getD k default = ((d.getD k default : Nat) : Int) := by simp [dI, List.getD, h]
theorem xu (d e : List Nat) : dI (d ++ e) = dI d ++ dI e := by simp [dI]
def dX (s : ag) (d : List Nat) : List Int := s.in_ ++ d.map (fun k => (s.rules.getD k default).out_)
theorem pX (s : ag) (d : List Nat) (i : Nat) : dX s (d ++ [i]) = dX s d ++ [(s.rules.getD i default).out_] := by simp [dX]
theorem pY (s : ag) : dX s [] = s.in_ := by simp [dX]
theorem gC {s : ag} {d : List Nat} {x : Int} : x ∈ dX s d ↔ x ∈ s.in_ ∨ ∃ k, k ∈ d ∧ (s.rules.getD k default).out_ = x := by
 unfold dX
 rw [List.mem_append, List.mem_map]
def n8 (s : ag) (d : List Nat) (i : Nat) : Bool := decide (jT (dX s d) (s.rules.getD i default))
def bk (s : ag) : List Nat := iC s.rules.length (n8 s)
theorem qV {l l' : List Int} {r : ae} (h : jT l r) (hl : ∀ x, x ∈ l → x ∈ l') : jT l' r := fun x hx => hl x (h x hx)
theorem wz {s : ag} {i : Nat} (hi : i < s.rules.length) (hn : ¬ i ∈ bk s) : ∃ x ∈ cx (s.rules.getD i default), ¬ x ∈ dX s (bk s) := by
 have h := pS (pT (n := s.rules.length) (c := n8 s)) i hi hn
 unfold n8 at h
 have h2 := of_decide_eq_false h
 exact Classical.byContradiction fun hc => h2 (fun x hx => Classical.byContradiction fun hd => hc ⟨x, hx, hd⟩)
def jV (s : ag) (i : Nat) : Int := ((cx (s.rules.getD i default)).find? (fun x => decide (¬ x ∈ dX s (bk s)))).getD 0
theorem oA {s : ag} {i : Nat} (hi : i < s.rules.length) (hn : ¬ i ∈ bk s) : ∃ j, j < (cx (s.rules.getD i default)).length ∧ (cx (s.rules.getD i default)).getD j default = jV s i ∧ ¬ jV s i ∈ dX s (bk s) ∧
  ∀ k, k < j → (cx (s.rules.getD i default)).getD k default ∈ dX s (bk s) := by
 obtain ⟨x, hx, hxn⟩ := wz hi hn
 unfold jV
 cases h : (cx (s.rules.getD i default)).find? (fun x => decide (¬ x ∈ dX s (bk s))) with
 | none => exact absurd (decide_eq_true hxn) (List.find?_eq_none.1 h x hx)
 | some y =>
  obtain ⟨h1, j, hj, h2, h3⟩ := List.find?_eq_some_iff_getElem.1 h
  refine ⟨j, hj, (md hj).trans h2, by simpa using h1, fun k hk => ?_⟩
  have := h3 k hk
  rw [md (show k < (cx (s.rules.getD i default)).length from by omega)]
  have h5 := this
  rw [Bool.not_eq_true', decide_eq_false_iff_not] at h5
  exact Classical.not_not.1 h5
def nxS (s : ag) (i : Nat) : Nat := ((List.range s.rules.length).find? (fun k => (s.rules.getD k default).out_ == jV s i)).getD 0
theorem pZ {s : ag} (g : fW s) {i : Nat} (hi : i < s.rules.length) (hn : ¬ i ∈ bk s) : nxS s i < s.rules.length ∧ ¬ nxS s i ∈ bk s ∧ (s.rules.getD (nxS s i) default).out_ = jV s i := by
 obtain ⟨j, hj, e, h1, _⟩ := oA hi hn
 have hm : jV s i ∈ cx (s.rules.getD i default) := e ▸ bi hj
 rcases uc g hi hm with h2 | ⟨k, hk, h2⟩
 ·exact absurd (gC.2 (.inl h2)) h1
 ·unfold nxS
  cases h : (List.range s.rules.length).find? (fun k => (s.rules.getD k default).out_ == jV s i) with
  | none => exact absurd (beq_iff_eq.2 h2) (List.find?_eq_none.1 h k (List.mem_range.2 hk))
  | some y =>
   have h3 := List.find?_some h
   rw [beq_iff_eq] at h3
   have h4 := List.mem_range.1 (List.mem_of_find?_eq_some h)
   refine ⟨h4, fun hc => h1 (gC.2 (.inr ⟨y, hc, h3⟩)), h3⟩
end Pam

namespace Pam
open Go
theorem qW {A T Z : Type} (P : T → Prop) (f : Nat → A → T → A ⊕ Z) (h : ∀ i a x a', f i a x = .inl a' → P x) : ∀ (l : List T) (i : Nat) (a b : A), jQ f i l a = .inl b → ∀ x ∈ l, P x
 | [], i, a, b, _, x, hx => by cases hx
 | y :: l, i, a, b, he, x, hx => by
  rw [jQ] at he
  cases hf : f i a y with
  | inr z => rw [hf] at he; cases he
  | inl a' =>
   rw [hf] at he
   rcases List.mem_cons.1 hx with rfl | hx
   ·exact h _ _ _ _ hf
   ·exact qW P f h l _ _ _ he x hx
theorem n9 {A T Z : Type} (P : Z → Prop) (f : Nat → A → T → A ⊕ Z) (h : ∀ i a x z, f i a x = .inr z → P z) : ∀ (l : List T) (i : Nat) (a : A) (z : Z), jQ f i l a = .inr z → P z
 | [], i, a, z, he => by cases he
 | y :: l, i, a, z, he => by
  rw [jQ] at he
  cases hf : f i a y with
  | inr z' => rw [hf] at he; simp only [Sum.inr.injEq] at he; subst he; exact h _ _ _ _ hf
  | inl a' => rw [hf] at he; exact n9 P f h l _ _ _ he
structure sn (s : ag) (m : Nat) : Prop where
 nv : s.vars.length ≤ m
 nr : s.rules.length ≤ m
 ni : s.in_.length ≤ m
 no : s.out_.length ≤ m
 r : ∀ r ∈ s.rules, r.a.length ≤ 100 ∧ r.e.length ≤ 1000
theorem vj (s : ag) (m : Nat) (hm : m ≤ 100000) : ∃ b, fK s (m : Int) = some b ∧ (b = false → sn s m) := by
 unfold fK
 by_cases h1 : (s.vars.length : Int) > m
 ·rw [if_pos h1]; exact ⟨true, rfl, fun h => by cases h⟩
 rw [if_neg h1]
 by_cases h2 : (s.rules.length : Int) > m
 ·rw [if_pos h2]; exact ⟨true, rfl, fun h => by cases h⟩
 rw [if_neg h2]
 by_cases h3 : (s.in_.length : Int) > m
 ·rw [if_pos h3]; exact ⟨true, rfl, fun h => by cases h⟩
 rw [if_neg h3]
 by_cases h4 : (s.out_.length : Int) > m
 ·rw [if_pos h4]; exact ⟨true, rfl, fun h => by cases h⟩
 rw [if_neg h4]
 obtain ⟨e1, _⟩ := kU (A := Int) (T := ai) (O := Int) (Z := Bool) (S := Int × Int) (fun a i => (a, i)) (body := fun x => cg s x.1 x.2) s.vars
  (fun _ a v => if v.n > 1000 then .inr true else .inl (IntKind.wrap .i64 (a + kV v.n))) (fun _ _ => True) (fun a => a) 0 trivial
  (by
   intro i a hi _
   refine ⟨?_, fun _ _ => trivial⟩
   show cg s a (i : Int) = _
   unfold cg
   rw [if_pos (ltI hi), if_pos (inI hi)]
   simp only [Int.toNat_natCast, j8, Option.bind_some]
   rw [wrs i (by omega)]
   by_cases h : (s.vars.getD i default).n > 1000
   ·rw [if_pos h, if_pos h]
   ·rw [if_neg h, if_neg h])
  (by
   intro a _
   show cg s a (s.vars.length : Int) = _
   unfold cg
   rw [if_neg (bm _)])
 show ∃ b, (bb (fun (x : Int × Int) => cg s x.1 x.2) (0, 0)).bind (Sum.elim (fun z18 => cV s m z18) (fun z19 => some z19)) = some b ∧ _
 rw [e1]
 simp only [Option.bind_some]
 cases hE : jQ (fun _ a v => if v.n > 1000 then .inr true else .inl (IntKind.wrap .i64 (a + kV v.n))) 0 s.vars (0 : Int) with
 | inr z =>
  refine ⟨z, rfl, fun hz => ?_⟩
  have := n9 (fun z => z = true) _ (fun i a x z h => by
   split at h
   ·simp only [Sum.inr.injEq] at h; exact h.symm
   ·cases h) _ _ _ _ hE
  rw [hz] at this; cases this
 | inl a0 =>
  simp only [Sum.elim_inl]
  unfold cV
  obtain ⟨e2, _⟩ := kU (A := Int) (T := ae) (O := Int) (Z := Bool) (S := Int × Int) (fun a i => (a, i)) (body := fun x => ce s x.1 x.2) s.rules
   (fun _ a r => if (r.a.length : Int) > 100 ∨ (r.e.length : Int) > 1000 ∨ (r.op = 15 ∧ r.n > 1000) then .inr true else .inl (IntKind.wrap .i64 (a + IntKind.wrap .i64 ((r.a.length : Int) + (r.e.length : Int))))) (fun _ _ => True) (fun a => a) a0 trivial
   (by
    intro i a hi _
    refine ⟨?_, fun _ _ => trivial⟩
    show ce s a (i : Int) = _
    unfold ce dw
    rw [if_pos (ltI hi), if_pos (inI hi)]
    simp only [Int.toNat_natCast]
    rw [wrs i (by omega)]
    by_cases h1 : ((s.rules.getD i default).a.length : Int) > 100
    ·rw [if_pos h1, if_pos (.inl h1)]
    ·rw [if_neg h1]
     by_cases h2 : ((s.rules.getD i default).e.length : Int) > 1000
     ·rw [if_pos h2, if_pos (.inr (.inl h2))]
     ·rw [if_neg h2]
      by_cases h3 : (s.rules.getD i default).op = 15
      ·rw [if_pos h3]
       by_cases h4 : (s.rules.getD i default).n > 1000
       ·rw [if_pos h4, if_pos (.inr (.inr ⟨h3, h4⟩))]
       ·rw [if_neg h4, if_neg (fun h => h.elim h1 (fun h => h.elim h2 (fun h => h4 h.2)))]
      ·rw [if_neg h3, if_neg (fun h => h.elim h1 (fun h => h.elim h2 (fun h => h3 h.1)))])
   (by
    intro a _
    show ce s a (s.rules.length : Int) = _
    unfold ce
    rw [if_neg (bm _)])
  show ∃ b, (bb (fun (x : Int × Int) => ce s x.1 x.2) (a0, 0)).bind (Sum.elim (fun z9 => dv m z9) (fun z10 => some z10)) = some b ∧ _
  rw [e2]
  simp only [Option.bind_some]
  cases hF : jQ (fun _ a r => if (r.a.length : Int) > 100 ∨ (r.e.length : Int) > 1000 ∨ (r.op = 15 ∧ r.n > 1000) then .inr true else .inl (IntKind.wrap .i64 (a + IntKind.wrap .i64 ((r.a.length : Int) + (r.e.length : Int))))) 0 s.rules a0 with
  | inr z =>
   refine ⟨z, rfl, fun hz => ?_⟩
   have := n9 (fun z => z = true) _ (fun i a x z h => by
    split at h
    ·simp only [Sum.inr.injEq] at h; exact h.symm
    ·cases h) _ _ _ _ hF
   rw [hz] at this; cases this
  | inl a1 =>
   have hR := qW (fun r : ae => r.a.length ≤ 100 ∧ r.e.length ≤ 1000) _ (fun i a x a' h => by
    split at h
    ·cases h
    ·rename_i hc
     have h1 : ¬ (x.a.length : Int) > 100 := fun h => hc (.inl h)
     have h2 : ¬ (x.e.length : Int) > 1000 := fun h => hc (.inr (.inl h))
     omega) _ _ _ _ hF
   exact ⟨_, rfl, fun _ => ⟨by omega, by omega, by omega, by omega, hR⟩⟩
theorem so (r : ae) (h : r.a.length ≤ 100 ∧ r.e.length ≤ 1000) : iv r = some r := by
 unfold iv
 have hm : maxLen = 9223372036854775807 := rfl
 rw [if_pos (by unfold d3; omega), if_pos (by unfold d3; omega)]
theorem wk {s : ag} {m : Nat} (h : sn s m) (hm : m ≤ 100000) : gB s = some s := by
 unfold gB
 have hx : maxLen = 9223372036854775807 := rfl
 have h1 := h.nv
 have h2 := h.nr
 have h3 := h.ni
 have h4 := h.no
 rw [if_pos ⟨by unfold d3; omega, by unfold d3; omega, by unfold d3; omega⟩]
 have := iA (S := List ae × Int) (T := List ae) (fun i => (s.rules.take i, (i : Int))) (body := fun x => cq s x.1 x.2) s.rules.length s.rules
  (by
   intro i hi
   show cq s (s.rules.take i) (i : Int) = _
   unfold cq
   rw [if_pos (ltI hi), if_pos (inI hi)]
   simp only [Int.toNat_natCast]
   rw [so _ (h.r _ (bi hi))]
   simp only [Option.bind_some]
   rw [if_pos (by unfold d3; simp; omega), wrs i (by omega), cT _ hi]
   rfl)
  (by
   show cq s (s.rules.take s.rules.length) (s.rules.length : Int) = _
   unfold cq
   rw [if_neg (bm _), List.take_length])
 show (bb (fun x => cq s x.1 x.2) ([], 0)).bind (fun z21 => dQ s z21) = _
 have e0 : s.rules.take 0 = [] := rfl
 rw [e0] at this
 rw [show ((0 : Nat) : Int) = 0 from rfl] at this
 rw [this]
 rfl
end Pam

namespace Pam
open Go
theorem p8 {s : ag} (g : fW s) {l : List Int} {L : List Nat} (hL : ∀ k ∈ L, k < s.rules.length) (hl : L.length ≤ 100000) {a : List ai} {b c : List Int} {d : List ae} :
  ∃ z, cj (dI L) s a b c d (aW s l) = some z ∧ ((z = -1 ∧ ∀ i, i < L.length → decide (jT l (s.rules.getD (L.getD i default) default)) = false) ∨
   ∃ j, j < L.length ∧ z = (j : Int) ∧ decide (jT l (s.rules.getD (L.getD j default) default)) = true ∧ ∀ i, i < j → decide (jT l (s.rules.getD (L.getD i default) default)) = false) := by
 unfold cj
 have hbl := n7 L
 rw [bI (dI L).length (fun k => if decide (jT l (s.rules.getD (L.getD k default) default)) = true then some (k : Int) else none) () (fun k hk => by
  have hk2 : k < L.length := by omega
  have hb := hL _ (bi hk2)
  obtain ⟨gr, hu, ha, _⟩ := g.rule hb
  have he := gr.e
  unfold cp jm
  rw [if_pos (ltI hk), if_pos (inI hk), wrs k (by omega)]
  simp only [Int.toNat_natCast]
  rw [rA hk2, if_pos (inI hb), Int.toNat_natCast, pR (fun x hx => hu x (jS hx)) (by omega) (by omega)]
  simp only [Option.bind_some]
  cases decide (jT l (s.rules.getD (L.getD k default) default)) <;> rfl) (by unfold cp; rw [if_neg (bm _)])]
 rcases vh (dI L).length (fun k => if decide (jT l (s.rules.getD (L.getD k default) default)) = true then some (k : Int) else none) () with ⟨e, h⟩ | ⟨j, z, hj, hz, hm, e⟩
 ·rw [e]
  refine ⟨-1, rfl, .inl ⟨rfl, fun i hi => ?_⟩⟩
  have := h i (by omega)
  cases hq : decide (jT l (s.rules.getD (L.getD i default) default))
  ·rfl
  ·simp only [hq, if_true] at this; cases this
 ·rw [e]
  refine ⟨z, rfl, .inr ⟨j, by omega, ?_⟩⟩
  cases hq : decide (jT l (s.rules.getD (L.getD j default) default))
  ·simp only [hq] at hz; cases hz
  ·simp only [hq, if_true, Option.some.injEq] at hz
   refine ⟨hz.symm, rfl, fun i hi => ?_⟩
   have := hm i hi
   cases hq2 : decide (jT l (s.rules.getD (L.getD i default) default))
   ·rfl
   ·simp only [hq2, if_true] at this; cases this
theorem mA {n b : Nat} (h : n ≤ 200000) (hb : b ≤ 1000) : d3 n b := by
 have hx : maxLen = 9223372036854775807 := rfl
 have : n * b ≤ 200000 * 1000 := Nat.mul_le_mul h hb
 unfold d3
 omega
theorem oa (l : List Int) (h : l.length ≤ 100000) : bw l = some l := by
 unfold bw
 by_cases h0 : l = []
 ·rw [if_pos h0, h0]
 ·rw [if_neg h0, if_pos (mA (by omega) (by omega))]
theorem qX {T : Type} (l : List T) (b : Nat) (h : l.length ≤ 100000) (hb : b ≤ 1000) [Decidable (l = [])] : (if l = [] then some [] else (if d3 l.length b then some l else none)) = some l := by
 by_cases h0 : l = []
 ·rw [if_pos h0, h0]
 ·rw [if_neg h0, if_pos (mA (by omega) hb)]
theorem xv (r : ae) (ha : r.a.length ≤ 1000) (he : r.e.length ≤ 1000) : kn r = some r := by
 unfold kn cF
 rw [oa _ (by omega)]
 simp only [Option.bind_some]
 rw [qX r.e 32 (by omega) (by omega)]
 rfl
def nE (s : ag) : ag := ag.mk s.vars s.in_ s.out_ ((bk s).map (fun k => s.rules.getD k default))
def noS : ag := ag.mk [] [] [] []
def mB (s : ag) : ag × ar := if (bk s).length = s.rules.length then (nE s, ar.mk 0 0) else (noS, ar.mk 15 (((bN s.rules.length (bk s)).getD 0 default : Nat) : Int))
theorem nF {s : ag} {k : Nat} (h : k ∈ bk s) : k < s.rules.length := wj h
theorem oP (s : ag) : (bk s).length ≤ s.rules.length := rz
theorem mT (s : ag) : (bk s).Nodup := s7
theorem nG {s : ag} {k : Nat} (hk : k < (bk s).length) : gM s.rules.length (n8 s) ((bk s).take k) = some ((bk s).getD k default) := vf hk
theorem vl (s : ag) : gM s.rules.length (n8 s) (bk s) = none := pT
theorem xw {L : List Nat} {j : Nat} : rn (dI L) j (j + 1) = dI (L.take j ++ L.drop (j + 1)) := by
 unfold rn dI
 rw [List.map_append, List.map_take, List.map_drop]
theorem wl (s : ag) (hn : s.rules.length ≤ 100000) : bb (fun (x : List Int × Int) => c9 s x.1 x.2) (List.replicate s.rules.length 0, 0) = some (dI (bN s.rules.length [])) := by
 have := iA (S := List Int × Int) (T := List Int) (fun i => (jp s.rules.length (fun u => if u < i then (u : Int) else 0), (i : Int))) (body := fun x => c9 s x.1 x.2) s.rules.length (dI (bN s.rules.length []))
  (by
   intro i hi
   show c9 s (jp s.rules.length (fun u => if u < i then (u : Int) else 0)) (i : Int) = _
   unfold c9
   rw [if_pos (ltI hi), nB, if_pos (inI hi), wrs i (by omega), Int.toNat_natCast, pI]
   congr 3
   apply iQ
   intro v hv
   by_cases h : v = i
   ·subst h; simp
   ·rw [if_neg h]
    by_cases h2 : v < i
    ·rw [if_pos h2, if_pos (by omega)]
    ·rw [if_neg h2, if_neg (by omega)])
  (by
   show c9 s (jp s.rules.length (fun u => if u < s.rules.length then (u : Int) else 0)) (s.rules.length : Int) = _
   unfold c9
   rw [if_neg (bm _)]
   congr 2
   have : bN s.rules.length [] = List.range s.rules.length := by unfold bN; rw [List.filter_eq_self]; intro a _; rfl
   rw [this]
   unfold dI jp
   apply List.map_congr_left
   intro v hv
   rw [if_pos (List.mem_range.1 hv)])
 rw [show ((0 : Nat) : Int) = 0 from rfl] at this
 have e : jp s.rules.length (fun u => if u < 0 then (u : Int) else 0) = List.replicate s.rules.length 0 := by
  rw [se]
  apply iQ
  intro v _
  rw [if_neg (by omega)]
 rw [e] at this
 exact this
theorem ud {s : ag} (g : fW s) {k : Nat} (hk : k < (bk s).length) (y : List ai × List Int × List Int × List ae × List Bool) :
  cC s y (aW s (dX s ((bk s).take k))) (dI (bN s.rules.length ((bk s).take k))) (((bk s).take k).map (fun k => s.rules.getD k default)) =
   some (.inl (aW s (dX s ((bk s).take (k + 1))), dI (bN s.rules.length ((bk s).take (k + 1))), ((bk s).take (k + 1)).map (fun k => s.rules.getD k default))) := by
 have hn := g.h.nr
 have hL : ∀ i ∈ bN s.rules.length ((bk s).take k), i < s.rules.length := fun i hi => (iS.1 hi).1
 have hLl : (bN s.rules.length ((bk s).take k)).length ≤ s.rules.length := kA (lN _ _) hL
 have hx := nG hk
 obtain ⟨z, hz, hc⟩ := p8 g (l := dX s ((bk s).take k)) hL (by omega) (a := y.1) (b := y.2.1) (c := y.2.2.1) (d := y.2.2.2.1)
 rcases hc with ⟨_, h⟩ | ⟨j, hj, rfl, h1, h2⟩
 ·have := s8 (c := n8 s) (d := (bk s).take k) h
  rw [this] at hx; cases hx
 ·have := pV (c := n8 s) (d := (bk s).take k) hj h1 h2
  rw [this] at hx
  have hx := Option.some.inj hx
  have hb := hL _ (bi hj)
  obtain ⟨gr, hu, ha, _⟩ := g.rule hb
  have he := gr.e
  have go := gr.o
  have go' := go
  unfold inV at go'
  have hdl := n7 (bN s.rules.length ((bk s).take k))
  unfold cC
  rw [if_pos (by rw [hdl]; omega), hz]
  simp only [Option.bind_some]
  rw [if_neg (by omega), Int.toNat_natCast, rA hj, hdl, if_pos ⟨inI hj, inI hb⟩, Int.toNat_natCast, xv _ (by omega) (by omega)]
  simp only [Option.bind_some]
  have hle := oP s
  rw [if_pos (mA (by simp; omega) (by omega)), dx, if_pos go']
  unfold eg
  rw [wrs j (by omega), if_pos ⟨⟨by omega, by omega, by rw [hdl]; omega⟩, fun h => by rw [h] at hdl; simp at hdl; omega⟩]
  simp only [Option.bind_some, Int.toNat_natCast]
  rw [xw, t8 hj, ky go, hx, cT _ hk, pX, List.map_append]
  rfl
theorem vm {s : ag} (g : fW s) : e9 s (s.vars, s.in_, s.out_, s.rules, aW s s.in_) (dI (bN s.rules.length [])) = some (mB s) := by
 have hn := g.h.nr
 have hni := g.h.ni
 have hno := g.h.no
 have hnv := g.h.nv
 unfold e9
 have e0 : dX s ((bk s).take 0) = s.in_ := by rw [List.take_zero, pY]
 have hL : ∀ i ∈ bN s.rules.length (bk s), i < s.rules.length := fun i hi => (iS.1 hi).1
 have hLl := qT (n := s.rules.length) (mT s) (fun i hi => nF hi)
 have hdl := n7 (bN s.rules.length (bk s))
 have key : ∀ t, cC s (s.vars, s.in_, s.out_, s.rules, aW s s.in_) (aW s (dX s (bk s))) (dI (bN s.rules.length (bk s))) ((bk s).map (fun k => s.rules.getD k default)) = some (.inr t) →
   bb (fun (x : List Bool × List Int × List ae) => cC s (s.vars, s.in_, s.out_, s.rules, aW s s.in_) x.1 x.2.1 x.2.2) (aW s s.in_, dI (bN s.rules.length []), []) = some t := by
  intro t ht
  have := iA (S := List Bool × List Int × List ae) (fun k => (aW s (dX s ((bk s).take k)), dI (bN s.rules.length ((bk s).take k)), ((bk s).take k).map (fun k => s.rules.getD k default)))
   (body := fun x => cC s (s.vars, s.in_, s.out_, s.rules, aW s s.in_) x.1 x.2.1 x.2.2) (bk s).length t (fun i hi => ud g hi _) (by
    show cC s (s.vars, s.in_, s.out_, s.rules, aW s s.in_) (aW s (dX s ((bk s).take (bk s).length))) (dI (bN s.rules.length ((bk s).take (bk s).length))) (((bk s).take (bk s).length).map (fun k => s.rules.getD k default)) = _
    rw [List.take_length]; exact ht)
  rw [e0] at this
  exact this
 show (bb (fun (x : List Bool × List Int × List ae) => cC s (s.vars, s.in_, s.out_, s.rules, aW s s.in_) x.1 x.2.1 x.2.2) (aW s s.in_, dI (bN s.rules.length []), [])).bind _ = _
 unfold mB
 by_cases hK : (bk s).length = s.rules.length
 ·rw [if_pos hK, key (.inl (aW s (dX s (bk s)), dI (bN s.rules.length (bk s)), (bk s).map (fun k => s.rules.getD k default))) (by
   unfold cC
   rw [if_neg (by omega)])]
  show e8 s (aW s (dX s (bk s))) (dI (bN s.rules.length (bk s))) ((bk s).map (fun k => s.rules.getD k default)) = _
  unfold e8 cU
  rw [qX s.vars 16 (by omega) (by omega), oa _ (by omega)]
  simp only [Option.bind_some]
  rw [oa _ (by omega)]
  rfl
 ·have hle := oP s
  have hpos : 0 < (bN s.rules.length (bk s)).length := by omega
  obtain ⟨z, hz, hc⟩ := p8 g (l := dX s (bk s)) hL (by omega) (a := s.vars) (b := s.in_) (c := s.out_) (d := s.rules)
  rw [if_neg hK, key (.inr (noS, ar.mk 15 (((bN s.rules.length (bk s)).getD 0 default : Nat) : Int))) (by
   unfold cC
   rw [if_pos (by omega)]
   show Option.bind (cj (dI (bN s.rules.length (bk s))) s s.vars s.in_ s.out_ s.rules (aW s (dX s (bk s)))) _ = _
   rw [hz]
   rcases hc with ⟨rfl, h⟩ | ⟨j, hj, rfl, h1, h2⟩
   ·simp only [Option.bind_some]
    rw [if_pos (by omega), if_pos ⟨by omega, by omega⟩, rA hpos]
    rfl
   ·have := pV (c := n8 s) (d := bk s) hj h1 h2
    rw [vl] at this; cases this)]
  rfl
theorem oQ (s : ag) : gq s = some (if (eq s).code = 0 then mB s else (noS, eq s)) := by
 unfold gq
 rw [oy]
 simp only [Option.bind_some]
 by_cases hc : (eq s).code = 0
 ·obtain ⟨g, _⟩ := gZ hc
  rw [if_neg (by simpa using hc), if_pos hc, sj g]
  simp only [Option.bind_some]
  have hn := g.h.nr
  rw [if_pos ⟨⟨by omega, by omega⟩, mA (by omega) (by omega)⟩]
  show (bb (fun (x : List Int × Int) => c9 s x.1 x.2) (List.replicate s.rules.length 0, 0)).bind _ = _
  rw [wl s (by omega)]
  exact vm g
 ·rw [if_pos hc, if_neg hc]
  rfl
end Pam

namespace Pam
open Go
def lP (w : List Nat) (a : Nat) : Nat := ((List.range w.length).find? (fun i => w.getD i default == a)).getD 0
theorem oB {w : List Nat} {a : Nat} (h : a ∈ w) : lP w a < w.length ∧ w.getD (lP w a) default = a ∧ (∀ j, j < lP w a → ¬ w.getD j default = a) ∧ (List.range w.length).find? (fun i => w.getD i default == a) = some (lP w a) := by
 unfold lP
 cases hq : (List.range w.length).find? (fun i => w.getD i default == a) with
 | none =>
  obtain ⟨i, hi, e⟩ := List.mem_iff_getElem.1 h
  have := List.find?_eq_none.1 hq i (List.mem_range.2 hi)
  rw [md hi] at this
  exact absurd (beq_iff_eq.2 e) this
 | some k =>
  obtain ⟨h1, h2, h3⟩ := List.find?_range_eq_some.1 hq
  refine ⟨List.mem_range.1 h2, beq_iff_eq.1 h1, fun j hj => ?_, rfl⟩
  have := h3 j hj
  simpa using this
theorem sp {w : List Nat} {a : Nat} (h : ¬ a ∈ w) : (List.range w.length).find? (fun i => w.getD i default == a) = none := by
 rw [List.find?_eq_none]
 intro x hx hc
 have := beq_iff_eq.1 hc
 exact h (this ▸ bi (List.mem_range.1 hx))
theorem qY {w : List Nat} {a : Nat} (hl : w.length ≤ 100000) : dk (a : Int) (dI w) = some (if a ∈ w then (lP w a : Int) else -1) := by
 unfold dk
 have hdl := n7 w
 have := ub (S := Int) (fun i => (i : Int)) (body := fun x => bp (a : Int) (dI w) x) w.length (fun i => w.getD i default == a) (fun i => (.inr (i : Int) : Unit ⊕ Int)) (.inl ())
  (by
   intro i hi
   show bp (a : Int) (dI w) (i : Int) = _
   unfold bp
   rw [if_pos (by omega), if_pos ⟨by omega, by omega⟩, Int.toNat_natCast, rA hi, wrs i (by omega)]
   by_cases h : w.getD i default = a
   ·rw [if_pos (by rw [h]), if_pos (beq_iff_eq.2 h)]
   ·rw [if_neg (by omega), if_neg (by simpa using h)])
  (by
   show bp (a : Int) (dI w) (w.length : Int) = _
   unfold bp
   rw [if_neg (by omega)])
 rw [show ((0 : Nat) : Int) = 0 from rfl] at this
 rw [this]
 by_cases h : a ∈ w
 ·rw [(oB h).2.2.2, if_pos h]; rfl
 ·rw [sp h, if_neg h]; rfl
def byF (s : ag) (v : Int) : Nat → Int
 | 0 => -1
 | i + 1 => if (s.rules.getD i default).out_ = v then (i : Int) else byF s v i
theorem vn {s : ag} (g : fW s) {k : Nat} (hk : k < s.rules.length) : ∀ i, k < i → i ≤ s.rules.length → byF s (s.rules.getD k default).out_ i = (k : Int)
 | 0, h, _ => by omega
 | i + 1, h, hi => by
  rw [byF]
  by_cases e : (s.rules.getD i default).out_ = (s.rules.getD k default).out_
  ·rw [if_pos e, pW g hk (by omega) e]
  ·rw [if_neg e]
   have : k ≠ i := fun q => e (by rw [q])
   exact vn g hk i (by omega) (by omega)
def byT (s : ag) (i : Nat) : List Int := jp s.vars.length (fun v => byF s (v : Int) i)
theorem xx (s : ag) (hn : s.vars.length ≤ 100000) : bb (fun (x : List Int × Int) => cS s x.1 x.2) (List.replicate s.vars.length 0, 0) = some (byT s 0) := by
 have := iA (S := List Int × Int) (T := List Int) (fun i => (jp s.vars.length (fun u => if u < i then -1 else 0), (i : Int))) (body := fun x => cS s x.1 x.2) s.vars.length (byT s 0)
  (by
   intro i hi
   show cS s (jp s.vars.length (fun u => if u < i then -1 else 0)) (i : Int) = _
   unfold cS
   rw [if_pos (ltI hi), nB, if_pos (inI hi), wrs i (by omega), Int.toNat_natCast, pI]
   congr 3
   apply iQ
   intro v hv
   by_cases h : v = i
   ·subst h; simp
   ·rw [if_neg h]
    by_cases h2 : v < i
    ·rw [if_pos h2, if_pos (by omega)]
    ·rw [if_neg h2, if_neg (by omega)])
  (by
   show cS s (jp s.vars.length (fun u => if u < s.vars.length then -1 else 0)) (s.vars.length : Int) = _
   unfold cS
   rw [if_neg (bm _)]
   congr 2
   apply iQ
   intro v hv
   rw [if_pos hv]
   rfl)
 rw [show ((0 : Nat) : Int) = 0 from rfl] at this
 have e : jp s.vars.length (fun u => if u < 0 then (-1 : Int) else 0) = List.replicate s.vars.length 0 := by
  rw [se]
  apply iQ
  intro v _
  rw [if_neg (by omega)]
 rw [e] at this
 exact this
theorem yE {s : ag} (g : fW s) : bb (fun (x : List Int × Int) => cR s x.1 x.2) (byT s 0, 0) = some (byT s s.rules.length) := by
 have hn := g.h.nr
 have := iA (S := List Int × Int) (T := List Int) (fun i => (byT s i, (i : Int))) (body := fun x => cR s x.1 x.2) s.rules.length (byT s s.rules.length)
  (by
   intro i hi
   show cR s (byT s i) (i : Int) = _
   have go := (g.rule hi).1.o
   have go' := go
   unfold inV at go'
   unfold cR
   rw [if_pos (ltI hi), if_pos (inI hi), Int.toNat_natCast]
   have hl : (byT s i).length = s.vars.length := nB _ _
   rw [hl, if_pos go', wrs i (by omega)]
   unfold byT
   rw [pI]
   congr 3
   apply iQ
   intro v hv
   rw [byF]
   by_cases h : v = (s.rules.getD i default).out_.toNat
   ·rw [if_pos h, if_pos (by omega)]
   ·rw [if_neg h, if_neg (by omega)])
  (by
   show cR s (byT s s.rules.length) (s.rules.length : Int) = _
   unfold cR
   rw [if_neg (bm _)])
 exact this
theorem sq {s : ag} {l l' : List Int} (h : ∀ x, x ∈ l ↔ x ∈ l') : aW s l = aW s l' := by
 unfold aW
 apply List.map_congr_left
 intro v _
 rw [decide_eq_decide]
 exact h _
theorem wA {s : ag} (g : fW s) (y : List ai × List Int × List Int × List ae × List Bool) : ∀ (k i : Nat) (L : List Int) (b : Bool), i + k = s.rules.length → (∀ x ∈ s.in_, x ∈ L) → (∀ x ∈ L, x ∈ dX s (bk s)) →
  ∃ L' b', bb (fun (x : List Bool × Bool × Int) => bn s y x.1 x.2.1 x.2.2) (aW s L, b, (i : Int)) = some (aW s L', b') ∧ (∀ x ∈ L, x ∈ L') ∧ (∀ x ∈ L', x ∈ dX s (bk s)) ∧
   (b' = false → b = false ∧ L' = L ∧ ∀ j, i ≤ j → j < s.rules.length → (s.rules.getD j default).out_ ∈ L ∨ ¬ jT L (s.rules.getD j default)) ∧
   (b' = true → b = true ∨ ∃ j, j < s.rules.length ∧ (s.rules.getD j default).out_ ∈ L' ∧ ¬ (s.rules.getD j default).out_ ∈ L) := by
 intro k
 induction k with
 | zero =>
  intro i L b hi h1 h2
  have : i = s.rules.length := by omega
  subst this
  refine ⟨L, b, dt (by
   show bn s y (aW s L) b (s.rules.length : Int) = _
   unfold bn
   rw [if_neg (bm _)]), fun x hx => hx, h2, fun hb => ⟨hb, rfl, fun j hj hj2 => by omega⟩, fun hb => .inl hb⟩
 | succ k ih =>
  intro i L b hi h1 h2
  have hi2 : i < s.rules.length := by omega
  have hn := g.h.nr
  obtain ⟨gr, hu, ha, _⟩ := g.rule hi2
  have he := gr.e
  have go := gr.o
  have go' := go
  unfold inV at go'
  by_cases hm : (s.rules.getD i default).out_ ∈ L
  ·have hb : bn s y (aW s L) b (i : Int) = some (.inl (aW s L, b, ((i + 1 : Nat) : Int))) := by
    unfold bn
    rw [if_pos (ltI hi2), if_pos (inI hi2), Int.toNat_natCast, dx, if_pos go', if_pos ((fT go).2 hm), wrs i (by omega)]
   obtain ⟨L', b', e, g1, g2, g3, g4⟩ := ih (i + 1) L b (by omega) h1 h2
   refine ⟨L', b', (dN (body := fun (x : List Bool × Bool × Int) => bn s y x.1 x.2.1 x.2.2) (s := (aW s L, b, (i : Int))) hb).trans e, g1, g2, fun hb => ?_, g4⟩
   obtain ⟨q1, q2, q3⟩ := g3 hb
   refine ⟨q1, q2, fun j hj hj2 => ?_⟩
   by_cases hj3 : j = i
   ·subst hj3; exact .inl hm
   ·exact q3 j (by omega) hj2
  ·have hmb : ¬ (aW s L).getD (s.rules.getD i default).out_.toNat default = true := fun h => hm ((fT go).1 h)
   by_cases hc : jT L (s.rules.getD i default)
   ·have hb : bn s y (aW s L) b (i : Int) = some (.inl (aW s (L ++ [(s.rules.getD i default).out_]), true, ((i + 1 : Nat) : Int))) := by
     unfold bn
     rw [if_pos (ltI hi2), if_pos (inI hi2), Int.toNat_natCast, dx, if_pos go', if_neg hmb, pR (fun x hx => hu x (jS hx)) (by omega) (by omega)]
     simp only [Option.bind_some]
     rw [if_pos (decide_eq_true hc), wrs i (by omega), ky go]
    have hin : (s.rules.getD i default).out_ ∈ dX s (bk s) := by
     refine gC.2 (.inr ⟨i, Classical.byContradiction fun hcn => ?_, rfl⟩)
     obtain ⟨x, hx, hxn⟩ := wz hi2 hcn
     exact hxn (h2 x (hc x hx))
    obtain ⟨L', b', e, g1, g2, g3, g4⟩ := ih (i + 1) (L ++ [(s.rules.getD i default).out_]) true (by omega) (fun x hx => List.mem_append.2 (.inl (h1 x hx))) (fun x hx => by
     rcases List.mem_append.1 hx with hx | hx
     ·exact h2 x hx
     ·simp only [List.mem_singleton] at hx; subst hx; exact hin)
    refine ⟨L', b', (dN (body := fun (x : List Bool × Bool × Int) => bn s y x.1 x.2.1 x.2.2) (s := (aW s L, b, (i : Int))) hb).trans e, fun x hx => g1 x (List.mem_append.2 (.inl hx)), g2, fun hb => ?_, fun _ => .inr ⟨i, hi2, g1 _ (List.mem_append.2 (.inr (by simp))), hm⟩⟩
    exact absurd (g3 hb).1 (by decide)
   ·have hb : bn s y (aW s L) b (i : Int) = some (.inl (aW s L, b, ((i + 1 : Nat) : Int))) := by
     unfold bn
     rw [if_pos (ltI hi2), if_pos (inI hi2), Int.toNat_natCast, dx, if_pos go', if_neg hmb, pR (fun x hx => hu x (jS hx)) (by omega) (by omega)]
     simp only [Option.bind_some]
     rw [decide_eq_false hc, if_neg (by decide), wrs i (by omega)]
    obtain ⟨L', b', e, g1, g2, g3, g4⟩ := ih (i + 1) L b (by omega) h1 h2
    refine ⟨L', b', (dN (body := fun (x : List Bool × Bool × Int) => bn s y x.1 x.2.1 x.2.2) (s := (aW s L, b, (i : Int))) hb).trans e, g1, g2, fun hb => ?_, g4⟩
    obtain ⟨q1, q2, q3⟩ := g3 hb
    refine ⟨q1, q2, fun j hj hj2 => ?_⟩
    by_cases hj3 : j = i
    ·subst hj3; exact .inr hc
    ·exact q3 j (by omega) hj2
def p9 (s : ag) (L : List Int) : List Nat := (List.range s.rules.length).filter (fun k => !L.contains (s.rules.getD k default).out_)
theorem me {s : ag} {L : List Int} {k : Nat} : k ∈ p9 s L ↔ k < s.rules.length ∧ ¬ (s.rules.getD k default).out_ ∈ L := by
 unfold p9
 rw [List.mem_filter, List.mem_range]
 simp
theorem sr {s : ag} {L L' : List Int} {j : Nat} (h : ∀ x ∈ L, x ∈ L') (hj : j < s.rules.length) (h1 : (s.rules.getD j default).out_ ∈ L') (h2 : ¬ (s.rules.getD j default).out_ ∈ L) : (p9 s L').length < (p9 s L).length := by
 have := kz (l := j :: p9 s L') (m := p9 s L) (List.nodup_cons.2 ⟨fun hc => (me.1 hc).2 h1, List.nodup_range.filter _⟩) (fun x hx => by
  rcases List.mem_cons.1 hx with rfl | hx
  ·exact me.2 ⟨hj, h2⟩
  ·obtain ⟨g1, g2⟩ := me.1 hx
   exact me.2 ⟨g1, fun hc => g2 (h _ hc)⟩)
 simp only [List.length_cons] at this
 omega
theorem vo {s : ag} (g : fW s) {L : List Int} (h1 : ∀ x ∈ s.in_, x ∈ L) (h2 : ∀ x ∈ L, x ∈ dX s (bk s)) (h3 : ∀ j, j < s.rules.length → (s.rules.getD j default).out_ ∈ L ∨ ¬ jT L (s.rules.getD j default)) : aW s L = aW s (dX s (bk s)) := by
 have key : ∀ k, k ≤ (bk s).length → ∀ x ∈ dX s ((bk s).take k), x ∈ L := by
  intro k
  induction k with
  | zero =>
   intro _ x hx
   rw [List.take_zero, pY] at hx
   exact h1 x hx
  | succ k ih =>
   intro hk x hx
   rw [cT _ (by omega), pX] at hx
   rcases List.mem_append.1 hx with hx | hx
   ·exact ih (by omega) x hx
   ·simp only [List.mem_singleton] at hx
    subst hx
    obtain ⟨q1, _, q3⟩ := jU (nG (s := s) (k := k) (by omega))
    rcases h3 _ q1 with h | h
    ·exact h
    ·unfold n8 at q3
     exact absurd (qV (of_decide_eq_true q3) (ih (by omega))) h
 apply sq
 intro x
 constructor
 ·exact h2 x
 ·intro hx
  have := key (bk s).length (Nat.le_refl _)
  rw [List.take_length] at this
  exact this x hx
theorem vp {s : ag} (g : fW s) (y : List ai × List Int × List Int × List ae × List Bool) : ∀ (m : Nat) (L : List Int), (p9 s L).length ≤ m → (∀ x ∈ s.in_, x ∈ L) → (∀ x ∈ L, x ∈ dX s (bk s)) →
  bb (fun (x : List Bool × Bool) => bt s y x.1 x.2) (aW s L, true) = some (aW s (dX s (bk s))) := by
 intro m
 induction m with
 | zero =>
  intro L hm h1 h2
  obtain ⟨L', b', e, g1, g2, g3, g4⟩ := wA g y s.rules.length 0 L false (by omega) h1 h2
  rw [show ((0 : Nat) : Int) = 0 from rfl] at e
  have hb : bt s y (aW s L) true = some (.inl (aW s L', b')) := by
   unfold bt
   rw [if_pos rfl]
   show (bb (fun (x : List Bool × Bool × Int) => bn s y x.1 x.2.1 x.2.2) (aW s L, false, 0)).bind _ = _
   rw [e]; rfl
  cases b' with
  | false =>
   obtain ⟨_, q2, q3⟩ := g3 rfl
   subst q2
   refine (dN (body := fun (x : List Bool × Bool) => bt s y x.1 x.2) (s := (aW s L', true)) hb).trans (dt ?_)
   show bt s y (aW s L') false = _
   unfold bt
   rw [if_neg (by decide), vo g h1 h2 (fun j hj => q3 j (by omega) hj)]
  | true =>
   rcases g4 rfl with h | ⟨j, hj, q1, q2⟩
   ·cases h
   ·have := sr g1 hj q1 q2
    omega
 | succ m ih =>
  intro L hm h1 h2
  obtain ⟨L', b', e, g1, g2, g3, g4⟩ := wA g y s.rules.length 0 L false (by omega) h1 h2
  rw [show ((0 : Nat) : Int) = 0 from rfl] at e
  have hb : bt s y (aW s L) true = some (.inl (aW s L', b')) := by
   unfold bt
   rw [if_pos rfl]
   show (bb (fun (x : List Bool × Bool × Int) => bn s y x.1 x.2.1 x.2.2) (aW s L, false, 0)).bind _ = _
   rw [e]; rfl
  cases b' with
  | false =>
   obtain ⟨_, q2, q3⟩ := g3 rfl
   subst q2
   refine (dN (body := fun (x : List Bool × Bool) => bt s y x.1 x.2) (s := (aW s L', true)) hb).trans (dt ?_)
   show bt s y (aW s L') false = _
   unfold bt
   rw [if_neg (by decide), vo g h1 h2 (fun j hj => q3 j (by omega) hj)]
  | true =>
   rcases g4 rfl with h | ⟨j, hj, q1, q2⟩
   ·cases h
   ·have := sr g1 hj q1 q2
    refine (dN (body := fun (x : List Bool × Bool) => bt s y x.1 x.2) (s := (aW s L, true)) hb).trans ?_
    exact ih L' (by omega) (fun x hx => g1 x (h1 x hx)) g2
theorem vq {s : ag} (g : fW s) {i : Nat} (hi : i < s.rules.length) (hn : ¬ i ∈ bk s) {a : List ai} {b c : List Int} {d : List ae} :
  ∃ j, j < (cx (s.rules.getD i default)).length ∧ (cx (s.rules.getD i default)).getD j default = jV s i ∧ cA (cx (s.rules.getD i default)) a b c d (aW s (dX s (bk s))) = some (j : Int) := by
 obtain ⟨j, hj, e, h1, h2⟩ := oA hi hn
 refine ⟨j, hj, e, ?_⟩
 obtain ⟨gr, hu, ha, _⟩ := g.rule hi
 have he := gr.e
 have hnl := mS (s.rules.getD i default)
 unfold cA
 rw [bI (cx (s.rules.getD i default)).length (fun k => if (cx (s.rules.getD i default)).getD k default ∈ dX s (bk s) then none else some (k : Int)) () (fun k hk => by
  have gk := tz g hi _ (bi hk)
  have gk' := gk
  unfold inV at gk'
  unfold cb iU
  rw [if_pos (ltI hk), if_pos (inI hk), wrs k (by omega)]
  simp only [Int.toNat_natCast]
  rw [dx, if_pos gk']
  simp only [Option.bind_some]
  by_cases hc : (cx (s.rules.getD i default)).getD k default ∈ dX s (bk s)
  ·rw [(fT gk).2 hc, if_pos hc]; rfl
  ·have : (aW s (dX s (bk s))).getD ((cx (s.rules.getD i default)).getD k default).toNat default = false := by
    cases hh : (aW s (dX s (bk s))).getD ((cx (s.rules.getD i default)).getD k default).toNat default
    ·rfl
    ·exact absurd ((fT gk).1 hh) hc
   rw [this, if_neg hc]; rfl) (by unfold cb; rw [if_neg (bm _)])]
 rw [tx hj (fun k hk => by rw [if_pos (h2 k hk)]) (by rw [if_neg (e ▸ h1)])]
 rfl
def a0S (s : ag) : Nat := (bN s.rules.length (bk s)).getD 0 default
def xy (s : ag) : List Nat × Nat := vg (nxS s) (s.rules.length + 1) [] (a0S s)
def vr (s : ag) : List Nat := (xy s).1.drop (lP (xy s).1 (xy s).2)
def s9 (s : ag) : List Int := if (bk s).length = s.rules.length then [] else dI (vr s)
theorem xz {s : ag} (g : fW s) : ∀ i, i < s.rules.length → ¬ i ∈ bk s → nxS s i < s.rules.length ∧ ¬ nxS s i ∈ bk s := fun i hi hn => ⟨(pZ g hi hn).1, (pZ g hi hn).2.1⟩
theorem xA {s : ag} (hK : ¬ (bk s).length = s.rules.length) : a0S s < s.rules.length ∧ ¬ a0S s ∈ bk s ∧ ∀ i, i < a0S s → i ∈ bk s := by
 have hle := oP s
 have hLl := qT (n := s.rules.length) (mT s) (fun i hi => nF hi)
 exact sm (by omega)
theorem wm {s : ag} (g : fW s) (hK : ¬ (bk s).length = s.rules.length) (y : List ai × List Int × List Int × List ae × List Bool) :
  bb (fun (x : List Int × Int) => cQ s y (aW s (dX s (bk s))) (byT s s.rules.length) x.1 x.2) ([], (a0S s : Int)) = some (dI (vr s), ar.mk 0 0) := by
 have hn := g.h.nr
 obtain ⟨p1, p2, _⟩ := xA hK
 have := ua (n := s.rules.length) (nx := nxS s) (p := fun i => ¬ i ∈ bk s) (xz g) (S := List Int × Int) (fun w a => (dI w, (a : Int))) (body := fun x => cQ s y (aW s (dX s (bk s))) (byT s s.rules.length) x.1 x.2)
  (fun w a => (dI (w.drop (lP w a)), ar.mk 0 0))
  (by
   intro w a hw hl ha hp hm
   show cQ s y (aW s (dX s (bk s))) (byT s s.rules.length) (dI w) (a : Int) = _
   have hdl := n7 w
   obtain ⟨gr, hu, hal, _⟩ := g.rule ha
   have he := gr.e
   unfold cQ
   rw [qY (by omega), if_neg hm]
   simp only [Option.bind_some]
   rw [if_neg (by omega), if_pos (mA (by omega) (by omega)), if_pos (inI ha), Int.toNat_natCast, pQ _ (by omega) (by omega)]
   simp only [Option.bind_some]
   obtain ⟨j, hj, ej, hz⟩ := vq g ha hp (a := y.1) (b := y.2.1) (c := y.2.2.1) (d := y.2.2.2.1)
   rw [hz]
   simp only [Option.bind_some]
   have gv := tz g ha _ (bi hj)
   rw [ej] at gv
   have gv' := gv
   unfold inV at gv'
   have hbl : (byT s s.rules.length).length = s.vars.length := nB _ _
   rw [Int.toNat_natCast, ej, hbl, if_pos ⟨inI hj, gv'⟩]
   obtain ⟨n1, n2, n3⟩ := pZ g ha hp
   have eb : (byT s s.rules.length).getD (jV s a).toNat default = (nxS s a : Int) := by
    unfold byT
    rw [u6 (by omega), show (((jV s a).toNat : Nat) : Int) = jV s a from by omega, ← n3]
    exact vn g n1 _ n1 (Nat.le_refl _)
   rw [eb, xu]
   rfl)
  (by
   intro w a hw hl ha hp hm _
   show cQ s y (aW s (dX s (bk s))) (byT s s.rules.length) (dI w) (a : Int) = _
   have hdl := n7 w
   obtain ⟨f1, _⟩ := oB hm
   unfold cQ
   rw [qY (by omega), if_pos hm]
   simp only [Option.bind_some]
   rw [if_pos (by omega), if_pos ⟨by omega, by omega⟩, Int.toNat_natCast]
   congr 4
   rw [List.take_of_length_le (by rw [List.length_drop]; omega)]
   unfold dI
   rw [List.map_drop])
  (s.rules.length + 1) [] (a0S s) List.nodup_nil (fun i hi => by cases hi) p1 p2 (by simp)
 exact this
theorem ue (s : ag) : i5 s = some (if (eq s).code = 0 then (s9 s, ar.mk 0 0) else ([], eq s)) := by
 unfold i5
 rw [oy]
 simp only [Option.bind_some]
 by_cases hc : (eq s).code = 0
 ·obtain ⟨g, _⟩ := gZ hc
  have hn := g.h.nr
  have hnv := g.h.nv
  rw [if_neg (by simpa using hc), if_pos hc, oQ, if_pos hc]
  simp only [Option.bind_some]
  unfold mB s9
  by_cases hK : (bk s).length = s.rules.length
  ·simp only [if_pos hK]
   rw [if_pos trivial]
  ·simp only [if_neg hK]
   rw [if_neg (by decide), if_pos ⟨⟨by omega, by omega⟩, mA (by omega) (by omega)⟩]
   show (bb (fun (x : List Int × Int) => cS s x.1 x.2) (List.replicate s.vars.length 0, 0)).bind _ = _
   rw [xx s (by omega)]
   simp only [Option.bind_some]
   unfold fo
   rw [sj g]
   simp only [Option.bind_some]
   show (bb (fun (x : List Bool × Bool) => bt s (s.vars, s.in_, s.out_, s.rules, aW s s.in_) x.1 x.2) (aW s s.in_, true)).bind _ = _
   rw [vp g _ _ s.in_ (Nat.le_refl _) (fun x hx => hx) (fun x hx => gC.2 (.inl hx))]
   simp only [Option.bind_some]
   unfold fm
   show (bb (fun (x : List Int × Int) => cR s x.1 x.2) (byT s 0, 0)).bind _ = _
   rw [yE g]
   simp only [Option.bind_some]
   unfold fl
   show (bb (fun (x : List Int × Int) => cQ s (s.vars, s.in_, s.out_, s.rules, aW s s.in_) (aW s (dX s (bk s))) (byT s s.rules.length) x.1 x.2) ([], (a0S s : Int))).bind _ = _
   rw [wm g hK]
   rfl
 ·rw [if_pos hc, if_neg hc]
end Pam

namespace Pam
open Go
theorem qa {s : ag} (h0 : (jj s).code = 0) (hr : ∀ i, i < s.rules.length → iB s (bH s i) (s.rules.getD i default) = 0)
  (hu : ∀ i, i < s.rules.length → ∀ x ∈ cz (s.rules.getD i default), x ∈ bH s s.rules.length) (ho : ∀ x ∈ s.out_, x ∈ bH s s.rules.length) : eq s = ar.mk 0 0 := by
 unfold eq
 simp only [h0, not_true_eq_false, if_false]
 rw [iO (fun i hi => by unfold ie; simp only [if_pos (hr i hi)])]
 simp only
 rw [iO (fun i hi => by unfold jk; rw [if_neg (fun ⟨x, h1, h2⟩ => h2 (hu i hi x h1))])]
 simp only
 rw [iO (fun i hi => by unfold nY; rw [if_pos (ho _ (bi hi))])]
theorem uf (v : List ai) (i o : List Int) (R R' : List ae) (r : ae) : ax (ag.mk v i o R) r = ax (ag.mk v i o R') r := rfl
def iD (s : ag) (l : List Nat) : ag := ag.mk s.vars s.in_ s.out_ (l.map (fun k => s.rules.getD k default))
theorem jv (s : ag) (l : List Nat) : (iD s l).rules.length = l.length := by unfold iD; simp
theorem jx (s : ag) {l : List Nat} {i : Nat} (h : i < l.length) : (iD s l).rules.getD i default = s.rules.getD (l.getD i default) default := by
 unfold iD; simp [List.getD, h]
theorem lb (s : ag) (l : List Nat) (i : Nat) : bH (iD s l) i = dX s (l.take i) := by
 unfold bH dX iD
 simp only [← List.map_take, List.map_map]
 rfl
theorem qb (s : ag) (l : List Nat) (r : ae) : ax (iD s l) r = ax s r := uf _ _ _ _ _ _
theorem ta {s : ag} {l : List Nat} (h : l.length = s.rules.length) : jj (iD s l) = jj s := by
 have e := jv s l
 unfold jj
 rw [e, h]
 rfl
theorem ss {l : List Nat} {n : Nat} (hn : l.Nodup) (hl : ∀ k ∈ l, k < n) (hlen : l.length = n) (s : ag) (h : n = s.rules.length) (x : Int) : x ∈ bH s s.rules.length → x ∈ dX s l := by
 intro hx
 rcases (lO s x (Nat.le_refl _)).1 hx with h1 | ⟨k, hk, h1⟩
 ·exact gC.2 (.inl h1)
 ·exact gC.2 (.inr ⟨k, la hn hl hlen k (by omega), h1⟩)
theorem qc {s : ag} (hc : (eq s).code = 0) {l : List Nat} (hn : l.Nodup) (hl : ∀ k ∈ l, k < s.rules.length) (hlen : l.length = s.rules.length) : eq (iD s l) = ar.mk 0 0 := by
 obtain ⟨g, _⟩ := gZ hc
 have hh : (jj s).code = 0 := by
  refine Classical.byContradiction fun h0 => ?_
  unfold eq at hc
  rw [if_pos h0] at hc
  exact h0 hc
 have hlen' := jv s l
 refine qa (by rw [ta hlen]; exact hh) (fun i hi => ?_) (fun i hi x hx => ?_) (fun x hx => ?_)
 ·have hi' : i < l.length := by omega
  have hk := hl _ (bi hi')
  have h1 := g.r _ hk
  rw [lb, jx s hi']
  have c1 : (bH s (l.getD i default)).contains (s.rules.getD (l.getD i default) default).out_ = false := by
   cases hq : (bH s (l.getD i default)).contains (s.rules.getD (l.getD i default) default).out_
   ·rfl
   ·exact absurd (List.contains_iff_mem.1 hq) (mc g hk)
  have c2 : (dX s (l.take i)).contains (s.rules.getD (l.getD i default) default).out_ = false := by
   cases hq : (dX s (l.take i)).contains (s.rules.getD (l.getD i default) default).out_
   ·rfl
   ·rcases gC.1 (List.contains_iff_mem.1 hq) with h | ⟨k, h2, h3⟩
    ·exact absurd h (qU g hk)
    ·have e := pW g hk (hl k (List.mem_of_mem_take h2)) h3
     subst e
     obtain ⟨j, hj, e⟩ := List.mem_iff_getElem.1 h2
     rw [List.length_take] at hj
     rw [List.getElem_take] at e
     have := (List.getElem_inj hn).1 (e.trans (md hi'))
     omega
  unfold iB at h1 ⊢
  rw [c1] at h1
  rw [c2, qb]
  exact h1
 ·have hi' : i < l.length := by omega
  rw [jx s hi'] at hx
  rw [lb, hlen', List.take_length]
  exact ss hn hl hlen s rfl x (g.u _ (hl _ (bi hi')) x hx)
 ·rw [lb, hlen', List.take_length]
  exact ss hn hl hlen s rfl x (g.o x hx)
theorem qd (s : ag) : nE s = iD s (bk s) := rfl
theorem st {s : ag} : tw (nE s) := by
 intro i hi
 rw [qd, jv] at hi
 rw [qd, lb, jx s hi]
 have := (jU (nG hi)).2.2
 unfold n8 at this
 exact of_decide_eq_true this
theorem qe {T : Type} [Inhabited T] (l : List T) : (List.range l.length).map (fun k => l.getD k default) = l := by
 apply List.ext_getElem
 ·simp
 ·intro i h1 h2
  simp [List.getD, h2]
end Pam

namespace Pam
open Go
theorem wn {s : ag} {L : List Int} (h1 : ∀ x ∈ s.in_, x ∈ L) (h3 : ∀ j, j < s.rules.length → (s.rules.getD j default).out_ ∈ L ∨ ¬ jT L (s.rules.getD j default)) : ∀ x ∈ dX s (bk s), x ∈ L := by
 have key : ∀ k, k ≤ (bk s).length → ∀ x ∈ dX s ((bk s).take k), x ∈ L := by
  intro k
  induction k with
  | zero =>
   intro _ x hx
   rw [List.take_zero, pY] at hx
   exact h1 x hx
  | succ k ih =>
   intro hk x hx
   rw [cT _ (by omega), pX] at hx
   rcases List.mem_append.1 hx with hx | hx
   ·exact ih (by omega) x hx
   ·simp only [List.mem_singleton] at hx
    subst hx
    obtain ⟨q1, _, q3⟩ := jU (nG (s := s) (k := k) (by omega))
    rcases h3 _ q1 with h | h
    ·exact h
    ·unfold n8 at q3
     exact absurd (qV (of_decide_eq_true q3) (ih (by omega))) h
 intro x hx
 have := key (bk s).length (Nat.le_refl _)
 rw [List.take_length] at this
 exact this x hx
theorem tA {s t : ag} (gs : fW s) (gt : fW t) (hin : t.in_ = s.in_) (hst : ∀ j, j < s.rules.length → ∃ i, i < t.rules.length ∧ t.rules.getD i default = s.rules.getD j default)
  (hts : ∀ i, i < t.rules.length → ∃ j, j < s.rules.length ∧ s.rules.getD j default = t.rules.getD i default) (hK : (bk s).length = s.rules.length) : (bk t).length = t.rules.length := by
 have hsub : ∀ x ∈ dX s (bk s), x ∈ dX t (bk t) := wn (fun x hx => gC.2 (.inl (hin ▸ hx))) (fun j hj => by
  obtain ⟨i, hi, e⟩ := hst j hj
  by_cases hm : i ∈ bk t
  ·exact .inl (gC.2 (.inr ⟨i, hm, by rw [e]⟩))
  ·refine .inr ?_
   have h := pS (pT (n := t.rules.length) (c := n8 t)) i hi hm
   unfold n8 at h
   rw [← e]
   exact of_decide_eq_false h)
 have hall : ∀ i, i < t.rules.length → i ∈ bk t := fun i hi => by
  obtain ⟨j, hj, e⟩ := hts i hi
  have hjm := la (mT s) (fun _ h => nF h) hK j hj
  have hx := hsub _ (gC.2 (.inr ⟨j, hjm, rfl⟩))
  rw [e] at hx
  rcases gC.1 hx with h | ⟨k, hk, h⟩
  ·exact absurd h (qU gt hi)
  ·rw [← pW gt hi (nF hk) h]
   exact hk
 have h1 := oP t
 have h2 := kz (l := List.range t.rules.length) (m := bk t) List.nodup_range (fun x hx => hall x (List.mem_range.1 hx))
 rw [List.length_range] at h2
 omega
theorem ug {s : ag} (hc : (eq s).code = 0) {l : List Nat} (hn : l.Nodup) (hl : ∀ k ∈ l, k < s.rules.length) (hlen : l.length = s.rules.length) :
  (bk (iD s l)).length = l.length ↔ (bk s).length = s.rules.length := by
 obtain ⟨gs, _⟩ := gZ hc
 obtain ⟨gt, _⟩ := gZ (s := iD s l) (by rw [qc hc hn hl hlen])
 have hp := jv s l
 have h1 : ∀ j, j < s.rules.length → ∃ i, i < (iD s l).rules.length ∧ (iD s l).rules.getD i default = s.rules.getD j default := fun j hj => by
  obtain ⟨i, hi, e⟩ := List.mem_iff_getElem.1 (la hn hl hlen j hj)
  exact ⟨i, by omega, by rw [jx s hi, md hi, e]⟩
 have h2 : ∀ i, i < (iD s l).rules.length → ∃ j, j < s.rules.length ∧ s.rules.getD j default = (iD s l).rules.getD i default := fun i hi =>
  ⟨l.getD i default, hl _ (bi (by omega)), by rw [jx s (by omega)]⟩
 constructor
 ·intro h
  exact tA gt gs rfl h2 h1 (by omega)
 ·intro h
  rw [← hp]
  exact tA gs gt rfl h1 h2 h
def kB (n c : Nat) : List Nat := (List.range n).drop c ++ (List.range n).take c
theorem su (n c : Nat) : (kB n c).Nodup := by
 unfold kB
 have h : ((List.range n).take c ++ (List.range n).drop c).Nodup := by rw [List.take_append_drop]; exact List.nodup_range
 rw [List.nodup_append] at h ⊢
 exact ⟨h.2.1, h.1, fun a ha b hb e => h.2.2 b hb a ha e.symm⟩
theorem sv {n c k : Nat} (h : k ∈ kB n c) : k < n := by
 unfold kB at h
 rcases List.mem_append.1 h with h | h
 ·exact List.mem_range.1 (List.mem_of_mem_drop h)
 ·exact List.mem_range.1 (List.mem_of_mem_take h)
theorem uh {n c : Nat} (h : c ≤ n) : (kB n c).length = n := by
 unfold kB
 rw [List.length_append, List.length_drop, List.length_take, List.length_range]
 omega
theorem ui (s : ag) (c : Nat) : (kB s.rules.length c).map (fun k => s.rules.getD k default) = s.rules.drop c ++ s.rules.take c := by
 unfold kB
 rw [List.map_append, List.map_drop, List.map_take, qe]
end Pam

namespace Pam
open Go
theorem qs (l : List Int) (hl : l.length ≤ 9000000) : it l l = some true := by
 unfold it
 rw [if_neg (by simp)]
 rw [bI l.length (fun _ => none) () (fun i hi => by
  simp only [fJ, Int.toNat_natCast]
  rw [if_pos (ltI hi), if_pos ⟨inI hi, inI hi⟩, if_neg (by simp), wrs i (by omega)]) (by simp [fJ]), iO (fun _ _ => rfl)]
 rfl
end Pam

namespace Pam
open Go
def sR3 : ag := ag.mk (lit ([(ai.mk 105 0), (ai.mk 105 0)] : List ai)) [] (lit ([0] : List Int)) (lit ([(ae.mk 2 0 0 0 (lit ([1] : List Int)) []), (ae.mk 3 13 1 0 (lit ([0] : List Int)) [])] : List ae))
def tb : ag := ag.mk ((lit ([(ai.mk 105 0), (ai.mk 105 0)] : List ai)) ++ (lit ([(ai.mk 105 0)] : List ai))) (lit ([2] : List Int)) (lit ([0] : List Int)) (lit ([(ae.mk 2 0 0 0 (lit ([1] : List Int)) []), (ae.mk 13 13 1 0 (lit ([2, 0] : List Int)) [])] : List ae))
theorem ze : l8 3 = some sR3 := rfl
theorem yF : l8 13 = some tb := rfl
theorem vt : ax sR3 (ae.mk 2 0 0 0 (lit ([1] : List Int)) []) = some true := by
 rw [cy (by decide) (by decide) (by decide)]
 unfold aM
 rw [cB]
 simp only [Option.bind_some]
 rfl
theorem vu : ax sR3 (ae.mk 3 13 1 0 (lit ([0] : List Int)) []) = some true := by
 rw [cy (by decide) (by decide) (by decide)]
 unfold aM
 rw [cB]
 simp only [Option.bind_some]
 rfl
theorem uj : ax tb (ae.mk 2 0 0 0 (lit ([1] : List Int)) []) = some true := by
 rw [cy (by decide) (by decide) (by decide)]
 unfold aM
 rw [cB]
 simp only [Option.bind_some]
 rfl
theorem uk : ax tb (ae.mk 13 13 1 0 (lit ([2, 0] : List Int)) []) = some true := by
 rw [cy (by decide) (by decide) (by decide)]
 unfold aM
 rw [cB]
 simp only [Option.bind_some]
 rfl
theorem nH {s : ag} {mk : List Int} {r : ae} (h1 : inV s r.out_) (h2 : ¬ mk.contains r.out_ = true) (h3 : ¬ (bK r.op < 0 ∨ ¬ (r.a.length : Int) = bK r.op)) (h4 : ¬ (r.e.length : Int) > 24)
  (h5 : ¬ ∃ x ∈ cz r, ¬ inV s x) (h6 : ax s r = some true) : iB s mk r = 0 := by
 unfold iB
 rw [if_neg (not_not_intro h1), if_neg h2, if_neg h3, if_neg h4, if_neg h5, if_pos h6]
theorem ul : eq sR3 = ar.mk 0 0 := by
 refine qa (by rfl) (fun i hi => ?_) (fun i hi => ?_) (by decide)
 ·have : i = 0 ∨ i = 1 := by have : sR3.rules.length = 2 := rfl; omega
  rcases this with rfl | rfl
  ·exact nH (r := ae.mk 2 0 0 0 (lit ([1] : List Int)) []) (by decide) (by decide) (by decide) (by decide) (by decide) vt
  ·exact nH (r := ae.mk 3 13 1 0 (lit ([0] : List Int)) []) (by decide) (by decide) (by decide) (by decide) (by decide) vu
 ·have : i = 0 ∨ i = 1 := by have : sR3.rules.length = 2 := rfl; omega
  rcases this with rfl | rfl <;> decide
theorem tc : eq tb = ar.mk 0 0 := by
 refine qa (by rfl) (fun i hi => ?_) (fun i hi => ?_) (by decide)
 ·have : i = 0 ∨ i = 1 := by have : tb.rules.length = 2 := rfl; omega
  rcases this with rfl | rfl
  ·exact nH (r := ae.mk 2 0 0 0 (lit ([1] : List Int)) []) (by decide) (by decide) (by decide) (by decide) (by decide) uj
  ·exact nH (r := ae.mk 13 13 1 0 (lit ([2, 0] : List Int)) []) (by decide) (by decide) (by decide) (by decide) (by decide) uk
 ·have : i = 0 ∨ i = 1 := by have : tb.rules.length = 2 := rfl; omega
  rcases this with rfl | rfl <;> decide
theorem oJ : gu = some true := by
 unfold gu
 rw [ze]
 simp only [Option.bind_some]
 rw [ue, ul, if_pos rfl, yF]
 simp only [Option.bind_some]
 rw [oQ, tc, if_pos rfl]
 simp only [Option.bind_some]
 have h1 : s9 sR3 = lit ([0, 1] : List Int) := by decide
 have h2 : bk tb = [1, 0] := by decide
 rw [h1]
 unfold mB nE
 rw [h2]
 rw [if_pos trivial, if_pos (by decide), qs _ (by decide)]
 decide
end Pam

namespace Pam
open Go
theorem um (v : Int) (l : List Int) (hl : l.length ≤ 9000000) : lD v l = some (l.contains v) := by
 unfold lD
 rw [bI l.length (fun k => if l.getD k default = v then some true else none) () (fun k hk => by
  unfold jb
  rw [if_pos (ltI hk), if_pos (inI hk), wrs k (by omega)]
  simp only [Int.toNat_natCast]
  by_cases h : l.getD k default = v
  ·rw [if_pos h, if_pos h]
  ·rw [if_neg h, if_neg h]) (by unfold jb; rw [if_neg (bm _)])]
 rcases cI l.length (fun k => if l.getD k default = v then some true else none) () with ⟨e, h⟩ | ⟨j, z, hj, hz, e⟩
 ·rw [e]
  have : l.contains v = false := by
   cases hq : l.contains v
   ·rfl
   ·obtain ⟨i, hi, e2⟩ := List.mem_iff_getElem.1 (List.contains_iff_mem.1 hq)
    have := h i hi
    rw [md hi, if_pos e2] at this
    cases this
  rw [this]; rfl
 ·rw [e]
  split at hz
  ·rename_i h
   simp only [Option.some.injEq] at hz
   rw [List.contains_iff_mem.2 (h ▸ bi hj), ← hz]; rfl
  ·cases hz
end Pam

namespace Pam
open Go
structure oc (t : ag) : Prop where
 n : t.rules.length ≤ 400
 i : t.in_.length ≤ 400
 s : ∀ k, k < t.rules.length → jT (bH t k) (t.rules.getD k default)
 r : ∀ k, k < t.rules.length → (t.rules.getD k default).a.length ≤ 1000 ∧ (t.rules.getD k default).e.length ≤ 1000
theorem un : oc noS := ⟨Nat.zero_le _, Nat.zero_le _, fun k hk => absurd hk (Nat.not_lt_zero k), fun k hk => absurd hk (Nat.not_lt_zero k)⟩
theorem oC {s : ag} (g : fW s) : oc (mB s).1 := by
 unfold mB
 by_cases hK : (bk s).length = s.rules.length
 ·rw [if_pos hK]
  have hl : (nE s).rules.length = (bk s).length := jv s (bk s)
  refine ⟨by have := g.h.nr; show (nE s).rules.length ≤ 400; omega, g.h.ni, st, fun k hk => ?_⟩
  have hk' : k < (bk s).length := by rw [← hl]; exact hk
  have e : (nE s).rules.getD k default = s.rules.getD ((bk s).getD k default) default := jx s hk'
  obtain ⟨gr, _, ha, _⟩ := g.rule (nF (bi hk'))
  have he := gr.e
  show ((nE s).rules.getD k default).a.length ≤ 1000 ∧ ((nE s).rules.getD k default).e.length ≤ 1000
  rw [e]
  exact ⟨by omega, by omega⟩
 ·rw [if_neg hK]; exact un
theorem vv {l n : List Int} (hl : l.length ≤ 9000000) (hn : n.length ≤ 9000000) (h : ∀ x ∈ n, x ∈ l) : bb (fun x => dT l n x) 0 = some (.inl ()) := by
 rw [bI n.length (fun _ => none) () (fun i hi => by
  unfold dT
  rw [if_pos (ltI hi), if_pos (inI hi), um _ _ hl]
  simp only [Option.bind_some, Int.toNat_natCast]
  rw [if_pos (List.contains_iff_mem.2 (h _ (bi hi))), wrs i (by omega)]) (by unfold dT; rw [if_neg (bm _)]), iO (fun _ _ => rfl)]
theorem uo (t : ag) {k : Nat} (hk : k ≤ t.rules.length) : (bH t k).length = t.in_.length + k := by
 unfold bH
 rw [List.length_append, List.length_map, List.length_take]
 omega
theorem up (y5 y6 : ag × ar) (x : Nat) (t : ag) (ht : (lit ([y5.1, y6.1] : List ag)).getD x default = t) (h : oc t) :
  bb (fun (z : List Int × Int) => bW y5 y6 (x : Int) z.1 z.2) (t.in_, 0) = some (.inl ()) := by
 have hn := h.n
 have hi := h.i
 have := iA (S := List Int × Int) (T := Unit ⊕ Bool) (fun k => (bH t k, (k : Int))) (body := fun z => bW y5 y6 (x : Int) z.1 z.2) t.rules.length (.inl ())
  (by
   intro k hk
   show bW y5 y6 (x : Int) (bH t k) (k : Int) = _
   obtain ⟨ha, he⟩ := h.r k hk
   have hnl := mS (t.rules.getD k default)
   have hml := uo t (show k ≤ t.rules.length from by omega)
   unfold bW
   simp only [Int.toNat_natCast, ht]
   rw [if_pos (ltI hk), if_pos (inI hk), pQ _ (by omega) (by omega)]
   simp only [Option.bind_some]
   rw [vv (by omega) (by omega) (h.s k hk)]
   simp only [Option.bind_some, Sum.elim_inl]
   unfold dS eY
   simp only [Int.toNat_natCast, ht]
   rw [if_pos (mA (by omega) (by omega)), wrs k (by omega), pJ t hk]
   rfl)
  (by
   show bW y5 y6 (x : Int) (bH t t.rules.length) (t.rules.length : Int) = _
   unfold bW
   simp only [Int.toNat_natCast, ht]
   rw [if_neg (bm _)])
 have e : bH t 0 = t.in_ := by unfold bH; simp
 rw [e] at this
 exact this
theorem uq (y5 y6 : ag × ar) (h5 : oc y5.1) (h6 : oc y6.1) : bb (fun x => dl y5 y6 x) 0 = some (.inl ()) := by
 rw [bI 2 (fun _ => none) () (fun x hx => by
  have key : ∀ t, (lit ([y5.1, y6.1] : List ag)).getD x default = t → oc t → dl y5 y6 (x : Int) = some (.inl ((x + 1 : Nat) : Int)) := by
   intro t ht h
   unfold dl
   simp only [Int.toNat_natCast, ht]
   rw [if_pos (by omega), if_pos ⟨by omega, mA (by have := h.i; omega) (by omega)⟩]
   show (bb (fun (z : List Int × Int) => bW y5 y6 (x : Int) z.1 z.2) (t.in_, 0)).bind _ = _
   rw [up y5 y6 x t ht h]
   simp only [Option.bind_some, Sum.elim_inl]
   unfold dR
   rw [wrs x (by omega)]
  have : x = 0 ∨ x = 1 := by omega
  rcases this with rfl | rfl
  ·exact key _ rfl h5
  ·exact key _ rfl h6) (by unfold dl; rw [if_neg (by omega)]), iO (fun _ _ => rfl)]
theorem mm (s : ag) (cut : Int) (_ : s.ok) (_ : okI .i64 cut) (_ : s.sz + szI cut ≤ 1048576) : iw s cut = some true := by
 unfold iw
 rw [oJ]
 simp only [Option.bind_some, if_true]
 obtain ⟨b, hb, hf⟩ := vj s 150 (by omega)
 rw [show ((150 : Nat) : Int) = 150 from rfl] at hb
 rw [hb]
 cases b
 ·have hng := hf rfl
  simp only [Option.bind_some, Bool.false_eq_true, if_false]
  rw [si]
  simp only [Option.bind_some]
  by_cases hc : (eq s).code = 0
  ·obtain ⟨g, hz⟩ := gZ hc
   have hnr := hng.nr
   rw [if_neg (by simpa using hc), wk hng (by omega)]
   simp only [Option.bind_some]
   have e1 : IntKind.wrap .u64 (IntKind.wrap .i64 ((s.rules.length : Int) + 1)) = ((s.rules.length + 1 : Nat) : Int) := by
    rw [wrs _ (by omega), IntKind.wrap_u64]; omega
   rw [e1, if_pos (by omega)]
   obtain ⟨c, hc1, hc2⟩ : ∃ c : Nat, IntKind.wrap .i64 ((IntKind.wrap .u64 cut).tmod ((s.rules.length + 1 : Nat) : Int)) = (c : Int) ∧ c ≤ s.rules.length := by
    have h0 : 0 ≤ IntKind.wrap .u64 cut := by rw [IntKind.wrap_u64]; omega
    have h1 : (IntKind.wrap .u64 cut).tmod ((s.rules.length + 1 : Nat) : Int) = (IntKind.wrap .u64 cut) % ((s.rules.length + 1 : Nat) : Int) := Int.tmod_eq_emod_of_nonneg h0
    have h2 := Int.emod_nonneg (IntKind.wrap .u64 cut) (show ((s.rules.length + 1 : Nat) : Int) ≠ 0 from by omega)
    have h3 := Int.emod_lt_of_pos (IntKind.wrap .u64 cut) (show (0 : Int) < ((s.rules.length + 1 : Nat) : Int) from by omega)
    rw [h1]
    refine ⟨((IntKind.wrap .u64 cut) % ((s.rules.length + 1 : Nat) : Int)).toNat, ?_, by omega⟩
    rw [wr (by omega) (by omega)]
    omega
   rw [hc1]
   simp only [Int.toNat_natCast]
   have hl1 : (s.rules.drop c).length = s.rules.length - c := List.length_drop
   have hl2 : (s.rules.take c).length = c := by rw [List.length_take]; omega
   rw [if_pos ⟨by omega, mA (by omega) (by omega)⟩, if_pos (mA (by omega) (by omega))]
   have ep : ag.mk s.vars s.in_ s.out_ (s.rules.drop c ++ s.rules.take c) = iD s (kB s.rules.length c) := by
    rw [← ui]
    rfl
   have hpn := su s.rules.length c
   have hpl : (kB s.rules.length c).length = s.rules.length := uh hc2
   have hpc := qc hc hpn (fun _ h => sv h) hpl
   obtain ⟨gt, _⟩ := gZ (s := iD s (kB s.rules.length c)) (by rw [hpc])
   rw [ep, oQ, if_pos hc]
   simp only [Option.bind_some]
   rw [oQ, hpc, if_pos rfl]
   simp only [Option.bind_some]
   have hfull := ug hc hpn (fun _ h => sv h) hpl
   have hplen := jv s (kB s.rules.length c)
   have hco : ((mB s).2.code == 0) = ((mB (iD s (kB s.rules.length c))).2.code == 0) := by
    unfold mB
    by_cases hK : (bk s).length = s.rules.length
    ·rw [if_pos hK, if_pos (by rw [hplen]; exact hfull.2 hK)]
    ·rw [if_neg hK, if_neg (by rw [hplen]; exact fun h => hK (hfull.1 h))]
   rw [if_pos hco, uq _ _ (oC g) (oC gt)]
   rfl
  ·rw [if_pos hc]
 ·rfl
end Pam
