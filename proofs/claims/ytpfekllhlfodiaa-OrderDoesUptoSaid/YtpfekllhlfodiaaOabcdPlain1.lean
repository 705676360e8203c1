/- The fault of all of a system but its rules: the program and the document tell the same. -/
import Derived.Test.YtpfekllhlfodiaaOabcdFun1
import Derived.Test.YtpfekllhlfodiaaOWide1
import Derived.Test.YtpfekllhlfodiaaOBase2
set_option linter.all false
namespace Pam
open Go
theorem vw (v : Int) (j : aH) : gD v j = some (decide (0 ≤ v ∧ v < (j.system.vars.length : Int))) := by
 unfold gD
 by_cases h : v ≥ 0
 ·rw [if_pos h]; congr 1; rw [decide_eq_decide]; omega
 ·rw [if_neg h]; congr 1; symm; rw [decide_eq_false_iff_not]; omega
theorem tu (l : List Int) (v : Int) (hl : l.length ≤ 9000000) : ∃ k, eO l v = some k ∧ (decide (k ≥ 0)) = l.contains v := by
 unfold eO
 rw [br l.length (fun i => if l.getD i default = v then some (i : Int) else none) () (fun i hi => by
  unfold du
  rw [if_pos (ltI hi), if_pos (inI hi)]
  simp only [Int.toNat_natCast]
  by_cases h : l.getD i default = v
  ·rw [if_pos h.symm, if_pos h]
  ·rw [if_neg (fun e => h e.symm), if_neg h, wrs i (by omega)]) (by unfold du; rw [if_neg (aX _)])]
 rcases cO l.length (fun i => if l.getD i default = v then some (i : Int) else none) () with ⟨e, h⟩ | ⟨j, z, hj, hf, e⟩
 ·rw [e]
  refine ⟨-1, rfl, ?_⟩
  have : ¬ v ∈ l := by
   intro hm
   obtain ⟨i, hi, rfl⟩ := List.mem_iff_getElem.1 hm
   have := h i hi
   simp [List.getD, hi] at this
  simp [this]
 ·rw [e]
  refine ⟨z, rfl, ?_⟩
  by_cases hh : l.getD j default = v
  ·rw [if_pos hh] at hf
   simp only [Option.some.injEq] at hf
   subst hf
   have : v ∈ l := by rw [← hh]; exact bi hj
   simp [this]
  ·rw [if_neg hh] at hf; cases hf
theorem wi (l : List Int) (v : Int) (hl : l.length ≤ 9000000) : dv l v = some (l.contains v) := by
 unfold dv
 obtain ⟨k, h1, h2⟩ := tu l v hl
 rw [h1]
 simp only [Option.bind_some, h2]
theorem d3 (l : List Int) (v : Int) (hl : l.length ≤ 9000000) : hY l v = some (l.contains v) := by
 unfold hY
 rw [br l.length (fun i => if l.getD i default = v then some true else none) () (fun i hi => by
  unfold nV
  rw [if_pos (ltI hi), if_pos (inI hi)]
  simp only [Int.toNat_natCast]
  by_cases h : l.getD i default = v
  ·rw [if_pos h, if_pos h]
  ·rw [if_neg h, if_neg h, wrs i (by omega)]) (by unfold nV; rw [if_neg (aX _)])]
 rcases cO l.length (fun i => if l.getD i default = v then some true else none) () with ⟨e, h⟩ | ⟨j, z, hj, hf, e⟩
 ·rw [e]
  have : ¬ v ∈ l := by
   intro hm
   obtain ⟨i, hi, rfl⟩ := List.mem_iff_getElem.1 hm
   have := h i hi
   simp [List.getD, hi] at this
  show some false = _
  simp [this]
 ·rw [e]
  by_cases hh : l.getD j default = v
  ·rw [if_pos hh] at hf
   simp only [Option.some.injEq] at hf
   subst hf
   have : v ∈ l := by rw [← hh]; exact bi hj
   show some true = _
   simp [this]
  ·rw [if_neg hh] at hf; cases hf
def inV (s : af) (v : Int) : Prop := 0 ≤ v ∧ v < (s.vars.length : Int)
instance (s : af) (v : Int) : Decidable (inV s v) := inferInstanceAs (Decidable (_ ∧ _))
def yx (x : ak) (i : Nat) : Option au :=
 if ¬ x.elem = 105 ∧ ¬ x.elem = 98 then some (au.mk 10 (-2 - i)) else if x.n < 0 ∨ x.n > 300 then some (au.mk 13 (-2 - i)) else none
def rM (s : af) (i : Nat) : Option au := yx (s.vars.getD i default) i
def inF (s : af) (i : Nat) : Option au :=
 if ¬ inV s (s.in_.getD i default) then some (au.mk 16 (-1)) else if (s.in_.take i).contains (s.in_.getD i default) then some (au.mk 8 (-1)) else none
def qf (s : af) (i : Nat) : Option au := if ¬ inV s (s.out_.getD i default) then some (au.mk 16 (-1)) else none
def lT (s : af) : au :=
 if (s.vars.length : Int) > 400 ∨ (s.rules.length : Int) > 400 ∨ (s.in_.length : Int) > 400 ∨ (s.out_.length : Int) > 400 then au.mk 7 (-1)
 else match d2 s.vars.length (rM s) () with
  | .inr z => z
  | .inl _ => match d2 s.in_.length (inF s) () with
   | .inr z => z
   | .inl _ => match d2 s.out_.length (qf s) () with
    | .inr z => z
    | .inl _ => au.mk 0 0
theorem wr2 (i : Nat) (h : i < 1000000) : IntKind.wrap .i64 (-2 - (i : Int)) = -2 - i := wr (by omega) (by omega)
theorem w8 (s : af) (c : Int) : jz (aH.mk s c) = some (lT s) := by
 have out : s.out_.length ≤ 400 → dM (aH.mk s c) = some (match d2 s.out_.length (qf s) () with | .inr z => z | .inl _ => au.mk 0 0) := by
  intro hl
  unfold dM
  rw [br s.out_.length (qf s) () (fun i hi => by
   unfold gF qf inV
   rw [if_pos (ltI hi), if_pos (inI hi)]
   simp only [Int.toNat_natCast]
   rw [vw]
   simp only [Option.bind_some]
   by_cases h : 0 ≤ s.out_.getD i default ∧ s.out_.getD i default < (s.vars.length : Int)
   ·rw [if_pos (by simpa using h), if_neg (by simpa using h), wrs i (by omega)]
   ·rw [if_neg (by simpa using h), if_pos h]) (by unfold gF; rw [if_neg (aX _)])]
  cases d2 s.out_.length (qf s) () <;> rfl
 have inn : s.in_.length ≤ 400 → s.out_.length ≤ 400 → cW (aH.mk s c) = some (match d2 s.in_.length (inF s) () with
   | .inr z => z
   | .inl _ => match d2 s.out_.length (qf s) () with | .inr z => z | .inl _ => au.mk 0 0) := by
  intro hl ho
  unfold cW
  rw [br s.in_.length (inF s) () (fun i hi => by
   unfold gG inF inV
   rw [if_pos (ltI hi), if_pos (inI hi)]
   simp only [Int.toNat_natCast]
   rw [vw]
   simp only [Option.bind_some]
   by_cases h : 0 ≤ s.in_.getD i default ∧ s.in_.getD i default < (s.vars.length : Int)
   ·rw [if_pos (by simpa using h), if_pos ⟨by omega, by omega⟩, wi _ _ (by simp; omega), if_neg (by simpa using h)]
    simp only [Option.bind_some]
    split
    ·rfl
    ·rw [wrs i (by omega)]
   ·rw [if_neg (by simpa using h), if_pos h]) (by unfold gG; rw [if_neg (aX _)])]
  cases d2 s.in_.length (inF s) () with
  | inr z => rfl
  | inl _ => exact out ho
 have main : s.vars.length ≤ 400 → s.in_.length ≤ 400 → s.out_.length ≤ 400 → (aT (fun x14 => eT (aH.mk s c) x14) 0).bind (Sum.elim (fun _ => cW (aH.mk s c)) (fun z15 => some z15)) = some (match d2 s.vars.length (rM s) () with
   | .inr z => z
   | .inl _ => match d2 s.in_.length (inF s) () with
    | .inr z => z
    | .inl _ => match d2 s.out_.length (qf s) () with | .inr z => z | .inl _ => au.mk 0 0) := by
  intro hv hl ho
  rw [br s.vars.length (rM s) () (fun i hi => by
   unfold eT rM
   rw [if_pos (ltI hi), if_pos (inI hi)]
   simp only [Int.toNat_natCast]
   obtain ⟨x, hx⟩ : ∃ x, s.vars.getD i default = x := ⟨_, rfl⟩
   simp only [hx]
   unfold yx
   have tail : dN (aH.mk s c) (i : Int) = some (match (if x.n < 0 ∨ x.n > 300 then some (au.mk 13 (-2 - (i : Int))) else none) with | some z => .inr (.inr z) | none => .inl ((i + 1 : Nat) : Int)) := by
    unfold dN
    simp only [Int.toNat_natCast, hx]
    by_cases h1 : x.n < 0
    ·rw [if_pos h1, if_pos (.inl h1), wr2 i (by omega)]
    ·rw [if_neg h1]
     by_cases h2 : x.n > 300
     ·rw [if_pos h2, if_pos (.inr h2), wr2 i (by omega)]
     ·rw [if_neg h2, if_neg (by omega), wrs i (by omega)]
   by_cases h1 : x.elem = 105
   ·rw [if_neg (by simpa using h1), if_neg (by simp [h1])]; rw [tail]; generalize (if x.n < 0 ∨ x.n > 300 then some (au.mk 13 (-2 - (i : Int))) else none) = q; cases q <;> rfl
   ·rw [if_pos h1]
    by_cases h2 : x.elem = 98
    ·rw [if_neg (by simpa using h2), if_neg (by simp [h2])]; rw [tail]; generalize (if x.n < 0 ∨ x.n > 300 then some (au.mk 13 (-2 - (i : Int))) else none) = q; cases q <;> rfl
    ·rw [if_pos h2, if_pos ⟨h1, h2⟩, wr2 i (by omega)]) (by unfold eT; rw [if_neg (aX _)])]
  cases d2 s.vars.length (rM s) () with
  | inr z => rfl
  | inl _ => exact inn hl ho
 unfold jz lT
 by_cases h1 : (s.vars.length : Int) > 400
 ·rw [if_pos h1, if_pos (.inl h1)]
 rw [if_neg h1]
 by_cases h2 : (s.rules.length : Int) > 400
 ·rw [if_pos h2, if_pos (.inr (.inl h2))]
 rw [if_neg h2]
 by_cases h3 : (s.in_.length : Int) > 400
 ·rw [if_pos h3, if_pos (.inr (.inr (.inl h3)))]
 rw [if_neg h3]
 by_cases h4 : (s.out_.length : Int) > 400
 ·rw [if_pos h4, if_pos (.inr (.inr (.inr h4)))]
 rw [if_neg h4, if_neg (by omega)]
 exact main (by omega) (by omega) (by omega)
theorem w9 (s : af) : mS s = some (lT s) := by
 have hF : ∀ a b, fB a b = some (au.mk a b) := fun _ _ => rfl
 have out : s.out_.length ≤ 400 → gQ s = some (match d2 s.out_.length (qf s) () with | .inr z => z | .inl _ => au.mk 0 0) := by
  intro hl
  unfold gQ
  rw [br s.out_.length (qf s) () (fun i hi => by
   unfold ke qf inV
   rw [if_pos (ltI hi), if_pos (inI hi)]
   simp only [Int.toNat_natCast]
   by_cases h1 : s.out_.getD i default < 0
   ·rw [if_pos h1, if_pos (by omega), hF]; rfl
   ·rw [if_neg h1]
    by_cases h2 : s.out_.getD i default ≥ (s.vars.length : Int)
    ·rw [if_pos h2, if_pos (by omega), hF]; rfl
    ·rw [if_neg h2, if_neg (by omega), wrs i (by omega)]) (by unfold ke; rw [if_neg (aX _)])]
  cases d2 s.out_.length (qf s) () <;> rfl
 have inn : s.in_.length ≤ 400 → s.out_.length ≤ 400 → fg s = some (match d2 s.in_.length (inF s) () with
   | .inr z => z
   | .inl _ => match d2 s.out_.length (qf s) () with | .inr z => z | .inl _ => au.mk 0 0) := by
  intro hl ho
  unfold fg
  rw [br s.in_.length (inF s) () (fun i hi => by
   unfold kf inF inV
   rw [if_pos (ltI hi), if_pos (inI hi)]
   simp only [Int.toNat_natCast]
   by_cases h1 : s.in_.getD i default < 0
   ·rw [if_pos h1, if_pos (by omega), hF]; rfl
   ·rw [if_neg h1]
    by_cases h2 : s.in_.getD i default ≥ (s.vars.length : Int)
    ·rw [if_pos h2, if_pos (by omega), hF]; rfl
    ·rw [if_neg h2, if_pos ⟨by omega, by omega⟩, if_neg (by omega), d3 _ _ (by simp; omega)]
     simp only [Option.bind_some, hF]
     split
     ·rfl
     ·rw [wrs i (by omega)]) (by unfold kf; rw [if_neg (aX _)])]
  cases d2 s.in_.length (inF s) () with
  | inr z => rfl
  | inl _ => exact out ho
 have main : s.vars.length ≤ 400 → s.in_.length ≤ 400 → s.out_.length ≤ 400 → (aT (fun x21 => jf s x21) 0).bind (Sum.elim (fun _ => fg s) (fun z25 => some z25)) = some (match d2 s.vars.length (rM s) () with
   | .inr z => z
   | .inl _ => match d2 s.in_.length (inF s) () with
    | .inr z => z
    | .inl _ => match d2 s.out_.length (qf s) () with | .inr z => z | .inl _ => au.mk 0 0) := by
  intro hv hl ho
  rw [br s.vars.length (rM s) () (fun i hi => by
   unfold jf rM
   rw [if_pos (ltI hi), if_pos (inI hi)]
   simp only [Int.toNat_natCast]
   obtain ⟨x, hx⟩ : ∃ x, s.vars.getD i default = x := ⟨_, rfl⟩
   simp only [hx]
   unfold yx
   have tail : gR s (i : Int) = some (match (if x.n < 0 ∨ x.n > 300 then some (au.mk 13 (-2 - (i : Int))) else none) with | some z => .inr (.inr z) | none => .inl ((i + 1 : Nat) : Int)) := by
    unfold gR
    rw [if_pos (inI hi)]
    simp only [Int.toNat_natCast, hx]
    by_cases h1 : x.n < 0
    ·rw [if_pos h1, if_pos (.inl h1), wr2 i (by omega), hF]; rfl
    ·rw [if_neg h1]
     by_cases h2 : x.n > 300
     ·rw [if_pos h2, if_pos (.inr h2), wr2 i (by omega), hF]; rfl
     ·rw [if_neg h2, if_neg (by omega), wrs i (by omega)]
   by_cases h1 : x.elem = 105
   ·rw [if_neg (by simpa using h1), if_neg (by simp [h1])]; rw [tail]; generalize (if x.n < 0 ∨ x.n > 300 then some (au.mk 13 (-2 - (i : Int))) else none) = q; cases q <;> rfl
   ·rw [if_pos h1]
    by_cases h2 : x.elem = 98
    ·rw [if_neg (by simpa using h2), if_neg (by simp [h2])]; rw [tail]; generalize (if x.n < 0 ∨ x.n > 300 then some (au.mk 13 (-2 - (i : Int))) else none) = q; cases q <;> rfl
    ·rw [if_pos h2, if_pos ⟨h1, h2⟩, wr2 i (by omega), hF]; rfl) (by unfold jf; rw [if_neg (aX _)])]
  cases d2 s.vars.length (rM s) () with
  | inr z => rfl
  | inl _ => exact inn hl ho
 unfold mS lT
 by_cases h1 : (s.vars.length : Int) > 400
 ·rw [if_pos h1, if_pos (.inl h1)]; rfl
 rw [if_neg h1]
 by_cases h3 : (s.in_.length : Int) > 400
 ·rw [if_pos h3, if_pos (.inr (.inr (.inl h3)))]; rfl
 rw [if_neg h3]
 by_cases h4 : (s.out_.length : Int) > 400
 ·rw [if_pos h4, if_pos (.inr (.inr (.inr h4)))]; rfl
 rw [if_neg h4]
 by_cases h2 : (s.rules.length : Int) > 400
 ·rw [if_pos h2, if_pos (.inr (.inl h2))]; rfl
 rw [if_neg h2, if_neg (by omega)]
 exact main (by omega) (by omega) (by omega)
end Pam

namespace Pam
open Go
def opT (k : Int) : Int × Int × Int :=
 if 1 ≤ k ∧ k ≤ 7 then (105, 105, 2) else if k = 8 ∨ k = 9 then (105, 98, 2) else if 10 ≤ k ∧ k ≤ 12 then (98, 98, 2) else if k = 13 then (105, 105, 1) else if k = 14 then (98, 98, 1) else (0, 0, 0)
theorem iW (k : Int) : lQ k = some (opT k) := by
 unfold lQ opT
 repeat' split
 all_goals first
  | rfl
  | (exfalso; omega)
theorem cC (k : Int) : lO k = some (opT k) := by
 unfold lO
 by_cases h1 : k < 1
 ·rw [if_pos h1]; unfold opT
  rw [if_neg (by omega), if_neg (by omega), if_neg (by omega), if_neg (by omega), if_neg (by omega)]
 rw [if_neg h1]
 by_cases h2 : k > 14
 ·rw [if_pos h2]; unfold opT
  rw [if_neg (by omega), if_neg (by omega), if_neg (by omega), if_neg (by omega), if_neg (by omega)]
 rw [if_neg h2]
 have : k = 1 ∨ k = 2 ∨ k = 3 ∨ k = 4 ∨ k = 5 ∨ k = 6 ∨ k = 7 ∨ k = 8 ∨ k = 9 ∨ k = 10 ∨ k = 11 ∨ k = 12 ∨ k = 13 ∨ k = 14 := by omega
 rcases this with rfl | rfl | rfl | rfl | rfl | rfl | rfl | rfl | rfl | rfl | rfl | rfl | rfl | rfl <;> rfl
theorem zq (k : Int) : (opT k).2.2 = 0 ∨ ((opT k).1 = 105 ∨ (opT k).1 = 98) ∧ ((opT k).2.1 = 105 ∨ (opT k).2.1 = 98) := by
 unfold opT
 repeat' split
 all_goals simp
def fj (s : af) (n : Int) (p : aI) (rs : List Int) : Option (List Int) :=
 if p.op = 1 then (if p.k = 0 then some (105 :: rs) else if p.k = 1 ∧ (p.n = 0 ∨ p.n = 1) then some (98 :: rs) else none)
 else if p.op = 2 then (if (s.vars.getD p.v.toNat default).n = 0 then some ((s.vars.getD p.v.toNat default).elem :: rs) else none)
 else if p.op = 3 then (if (s.vars.getD p.v.toNat default).n > 0 ∧ p.n ≥ 0 ∧ p.n ≤ (s.vars.getD p.v.toNat default).n - n then some ((s.vars.getD p.v.toNat default).elem :: rs) else none)
 else if p.op = 4 then (if p.n ≥ -1000000 ∧ p.n ≤ 1000000 then some (105 :: rs) else none)
 else if p.op = 5 then (match rs with
  | a :: r => if (opT p.k).2.2 = 1 ∧ a = (opT p.k).1 then some ((opT p.k).2.1 :: r) else none
  | [] => none)
 else if p.op = 6 then (match rs with
  | a :: b :: r => if (opT p.k).2.2 = 2 ∧ a = (opT p.k).1 ∧ b = (opT p.k).1 then some ((opT p.k).2.1 :: r) else none
  | _ => none)
 else if p.op = 7 then (match rs with
  | a :: b :: c :: r => if c = 98 ∧ b = a then some (a :: r) else none
  | _ => none)
 else if p.op = 8 then (match rs with
  | a :: b :: r => if (s.vars.getD p.v.toNat default).n > 0 ∧ b = 105 ∧ a = (s.vars.getD p.v.toNat default).elem then some ((s.vars.getD p.v.toNat default).elem :: r) else none
  | _ => none)
 else none
def okE (x : Int) : Prop := x = 105 ∨ x = 98
def okS (rs : List Int) : Prop := ∀ x ∈ rs, okE x
structure jb (s : af) : Prop where
 e : ∀ v ∈ s.vars, okE v.elem
 n : ∀ v ∈ s.vars, 0 ≤ v.n ∧ v.n ≤ 300
def tv (s : af) (p : aI) : Prop := (p.op = 2 ∨ p.op = 3 ∨ p.op = 8) → inV s p.v
theorem zr {s : af} {n : Int} {p : aI} {rs rs' : List Int} (hv : jb s) (hu : tv s p) (hs : okS rs) (h : fj s n p rs = some rs') : okS rs' ∧ rs'.length ≤ rs.length + 1 := by
 have hel : p.op = 2 ∨ p.op = 3 ∨ p.op = 8 → okE (s.vars.getD p.v.toNat default).elem := fun ho => hv.e _ (bi (by have := hu ho; unfold inV at this; omega))
 have cons : ∀ {x : Int} {r : List Int}, okE x → okS r → okS (x :: r) := fun h1 h2 y hy => by
  rcases List.mem_cons.1 hy with rfl | hy
  ·exact h1
  ·exact h2 y hy
 have tl : ∀ {x : Int} {r : List Int}, okS (x :: r) → okS r := fun h1 y hy => h1 y (by simp [hy])
 have hk : ∀ m : Int, (opT p.k).2.2 = m → m ≠ 0 → okE (opT p.k).2.1 := fun m h1 h2 => by
  rcases zq p.k with h | h
  ·exact absurd (h1.symm.trans h) h2
  ·exact h.2
 unfold fj at h
 by_cases h1 : p.op = 1
 ·rw [if_pos h1] at h
  split at h
  ·simp only [Option.some.injEq] at h; subst h; exact ⟨cons (.inl rfl) hs, by simp⟩
  ·split at h
   ·simp only [Option.some.injEq] at h; subst h; exact ⟨cons (.inr rfl) hs, by simp⟩
   ·cases h
 rw [if_neg h1] at h
 by_cases h2 : p.op = 2
 ·rw [if_pos h2] at h
  split at h
  ·simp only [Option.some.injEq] at h; subst h; exact ⟨cons (hel (.inl h2)) hs, by simp⟩
  ·cases h
 rw [if_neg h2] at h
 by_cases h3 : p.op = 3
 ·rw [if_pos h3] at h
  split at h
  ·simp only [Option.some.injEq] at h; subst h; exact ⟨cons (hel (.inr (.inl h3))) hs, by simp⟩
  ·cases h
 rw [if_neg h3] at h
 by_cases h4 : p.op = 4
 ·rw [if_pos h4] at h
  split at h
  ·simp only [Option.some.injEq] at h; subst h; exact ⟨cons (.inl rfl) hs, by simp⟩
  ·cases h
 rw [if_neg h4] at h
 by_cases h5 : p.op = 5
 ·rw [if_pos h5] at h
  split at h
  ·split at h
   ·rename_i hc
    simp only [Option.some.injEq] at h; subst h; exact ⟨cons (hk 1 hc.1 (by decide)) (tl hs), by simp⟩
   ·cases h
  ·cases h
 rw [if_neg h5] at h
 by_cases h6 : p.op = 6
 ·rw [if_pos h6] at h
  split at h
  ·split at h
   ·rename_i hc
    simp only [Option.some.injEq] at h; subst h; exact ⟨cons (hk 2 hc.1 (by decide)) (tl (tl hs)), by simp⟩
   ·cases h
  ·cases h
 rw [if_neg h6] at h
 by_cases h7 : p.op = 7
 ·rw [if_pos h7] at h
  split at h
  ·split at h
   ·simp only [Option.some.injEq] at h; subst h; exact ⟨cons (hs _ (by simp)) (tl (tl (tl hs))), by simp⟩
   ·cases h
  ·cases h
 rw [if_neg h7] at h
 by_cases h8 : p.op = 8
 ·rw [if_pos h8] at h
  split at h
  ·split at h
   ·simp only [Option.some.injEq] at h; subst h; exact ⟨cons (hel (.inr (.inr h8))) (tl (tl hs)), by simp⟩
   ·cases h
  ·cases h
 rw [if_neg h8] at h
 cases h
theorem tw (n : Nat) (h : n ≤ 1000000) : dy n 1 := by
 unfold dy
 have : maxLen = 9223372036854775807 := rfl
 omega
theorem gZ (l : List Int) : l.reverse.length = l.length := by simp
theorem rv1 (a : Int) (r : List Int) : ((a :: r).reverse).getD r.length default = a ∧ ((a :: r).reverse).take r.length = r.reverse := by
 constructor
 ·simp [List.getD]
 ·simp
theorem rv2 (a b : Int) (r : List Int) : ((a :: b :: r).reverse).getD r.length default = b ∧ ((a :: b :: r).reverse).getD (r.length + 1) default = a ∧ ((a :: b :: r).reverse).take r.length = r.reverse := by
 refine ⟨?_, ?_, ?_⟩
 ·simp [List.getD]
 ·have := (rv1 a (b :: r)).1
  simpa using this
 ·simp
theorem rv3 (a b c : Int) (r : List Int) : ((a :: b :: c :: r).reverse).getD r.length default = c ∧ ((a :: b :: c :: r).reverse).getD (r.length + 1) default = b ∧ ((a :: b :: c :: r).reverse).getD (r.length + 2) default = a ∧ ((a :: b :: c :: r).reverse).take r.length = r.reverse := by
 refine ⟨?_, ?_, ?_, ?_⟩
 ·simp [List.getD]
 ·have := (rv2 a b (c :: r)).1
  simpa using this
 ·have := (rv1 a (b :: c :: r)).1
  simpa using this
 ·simp
def ka (k : Nat) (rs : List Int) : Int := rs.getD (k - 1) 0
theorem xa (k : Nat) (rs : List Int) (hk : 1 ≤ k ∧ k ≤ 3) (hl : rs.length ≤ 1000) : bC (k : Int) rs.reverse = some (ka k rs) := by
 unfold bC ka
 rw [gZ]
 by_cases h : (k : Int) > (rs.length : Int)
 ·rw [if_pos h]
  have : rs.length ≤ k - 1 := by omega
  simp [List.getD, List.getElem?_eq_none this]
 ·rw [if_neg h, wr (by omega) (by omega), if_pos (by omega)]
  congr 1
  have e : ((rs.length : Int) - (k : Int)).toNat = rs.length - k := by omega
  rw [e]
  have h1 : rs.length - k < rs.reverse.length := by simp; omega
  have h2 : k - 1 < rs.length := by omega
  simp only [List.getD, List.getElem?_eq_getElem h1, List.getElem?_eq_getElem h2, Option.getD_some, List.getElem_reverse]
  congr 1
  omega
end Pam

namespace Pam
open Go
theorem Ax {e : List aI} {n : Int} {j : aH} {l : List Int} {i : Nat} {t m : Int} (hi : i < e.length) (h : aW (e.getD i default) n j l = some (t, m, false)) :
  bp e n j l (i : Int) = some (.inr (.inr (0, false))) := by
 unfold bp
 rw [if_pos (ltI hi), if_pos (inI hi)]
 simp only [Int.toNat_natCast]
 rw [h]
 rfl
theorem A3 {e : List aI} {n : Int} {j : aH} {l : List Int} {i : Nat} {m : Int} (k : Nat) (hi : i < e.length) (h : aW (e.getD i default) n j l = some ((k : Int), m, true)) (hl : k ≤ l.length) (hb : l.length ≤ 1000) (hi' : i < 100000) :
  bp e n j l (i : Int) = some (.inl (l.take (l.length - k) ++ [m], ((i + 1 : Nat) : Int))) := by
 unfold bp
 rw [if_pos (ltI hi), if_pos (inI hi)]
 simp only [Int.toNat_natCast]
 rw [h]
 simp only [Option.bind_some, if_true]
 rw [if_neg (by omega), wr (by omega) (by omega), if_pos ⟨by omega, tw _ (by omega)⟩, wrs i (by omega)]
 have : ((l.length : Int) - (k : Int)).toNat = l.length - k := by omega
 rw [this]
 rfl
theorem Ay (l : List Int) (x : Int) : l.reverse.take (l.reverse.length - 0) ++ [x] = (x :: l).reverse := by
 rw [Nat.sub_zero, List.take_length]; simp
theorem zs {k m : Int} (h : (opT k).2.2 = m) (hm : m ≠ 0) : (opT k).1 ≠ 0 := by
 rcases zq k with h' | h'
 ·exact absurd (h.symm.trans h') hm
 ·rcases h'.1 with h | h <;> omega
def Cy {Z : Type} (z : Z) (i : Nat) : Option (List Int) → (List Int × Int) ⊕ (List Int ⊕ Z)
 | some rs' => .inl (rs'.reverse, ((i + 1 : Nat) : Int))
 | none => .inr (.inr z)
theorem Az {s : af} {c : Int} {e : List aI} {n : Int} {rs : List Int} {i : Nat} (hv : jb s) (hu : tv s (e.getD i default)) (hs : okS rs) (hn : 1 ≤ n ∧ n ≤ 300) (hl : rs.length ≤ 900) (hi : i < e.length) (hi' : i < 100000) :
  bp e n (aH.mk s c) rs.reverse (i : Int) = some (Cy (0, false) i (fj s n (e.getD i default) rs)) := by
 have hb : rs.reverse.length ≤ 1000 := by simp; omega
 have ok0 : ∀ m, aW (e.getD i default) n (aH.mk s c) rs.reverse = some (0, m, true) → bp e n (aH.mk s c) rs.reverse (i : Int) = some (.inl ((m :: rs).reverse, ((i + 1 : Nat) : Int))) := fun m h => by
  rw [A3 0 hi h (by omega) hb hi', Ay]
 have fail : ∀ t m, aW (e.getD i default) n (aH.mk s c) rs.reverse = some (t, m, false) → bp e n (aH.mk s c) rs.reverse (i : Int) = some (.inr (.inr (0, false))) := fun t m h => Ax hi h
 have okk : ∀ (k : Nat) (m : Int) (r : List Int), aW (e.getD i default) n (aH.mk s c) rs.reverse = some ((k : Int), m, true) → rs.length = r.length + k → rs.reverse.take r.length = r.reverse →
   bp e n (aH.mk s c) rs.reverse (i : Int) = some (.inl ((m :: r).reverse, ((i + 1 : Nat) : Int))) := fun k m r h h1 h2 => by
  rw [A3 k hi h (by rw [gZ]; omega) hb hi', gZ, show rs.length - k = r.length by omega, h2]
  simp
 have t1 := xa 1 rs (by omega) (by omega)
 have t2 := xa 2 rs (by omega) (by omega)
 have t3 := xa 3 rs (by omega) (by omega)
 simp only [Int.natCast_one, Int.cast_ofNat_Int] at t1 t2 t3
 generalize hp : e.getD i default = p at *
 have hvar : p.op = 2 ∨ p.op = 3 ∨ p.op = 8 → (0 ≤ p.v ∧ p.v < (s.vars.length : Int)) ∧ (0 ≤ (s.vars.getD p.v.toNat default).n ∧ (s.vars.getD p.v.toNat default).n ≤ 300) ∧ okE (s.vars.getD p.v.toNat default).elem := fun ho => by
  have h := hu ho
  have hm : s.vars.getD p.v.toNat default ∈ s.vars := bi (by unfold inV at h; omega)
  exact ⟨h, hv.n _ hm, hv.e _ hm⟩
 by_cases h1 : p.op = 1
 ·have hst : aW p n (aH.mk s c) rs.reverse = if p.k = 1 then (if p.n = 0 then some (0, 98, true) else some (0, 98, p.n == 1)) else some (0, 105, p.k == 0) := by
   unfold aW; rw [if_pos h1]
  unfold fj; rw [if_pos h1]
  by_cases k0 : p.k = 0
  ·rw [if_pos k0]; exact ok0 105 (by rw [hst, if_neg (by omega), k0]; rfl)
  ·rw [if_neg k0]
   by_cases k1 : p.k = 1
   ·by_cases n0 : p.n = 0
    ·rw [if_pos ⟨k1, .inl n0⟩]; exact ok0 98 (by rw [hst, if_pos k1, if_pos n0])
    ·by_cases n1 : p.n = 1
     ·rw [if_pos ⟨k1, .inr n1⟩]; exact ok0 98 (by rw [hst, if_pos k1, if_neg n0, n1]; rfl)
     ·rw [if_neg (by omega)]; exact fail 0 98 (by rw [hst, if_pos k1, if_neg n0, beq_eq_false_iff_ne.2 n1])
   ·rw [if_neg (by omega)]; exact fail 0 105 (by rw [hst, if_neg k1, beq_eq_false_iff_ne.2 k0])
 by_cases h2 : p.op = 2
 ·obtain ⟨q1, q2, q3⟩ := hvar (.inl h2)
  have hst : aW p n (aH.mk s c) rs.reverse = some (0, (s.vars.getD p.v.toNat default).elem, (s.vars.getD p.v.toNat default).n == 0) := by
   unfold aW; rw [if_neg h1, if_pos h2, if_pos q1]
  unfold fj; rw [if_neg h1, if_pos h2]
  by_cases n0 : (s.vars.getD p.v.toNat default).n = 0
  ·rw [if_pos n0]; exact ok0 _ (by rw [hst, n0]; rfl)
  ·rw [if_neg n0]; exact fail _ _ (by rw [hst, beq_eq_false_iff_ne.2 n0])
 by_cases h3 : p.op = 3
 ·obtain ⟨q1, q2, q3⟩ := hvar (.inr (.inl h3))
  have hst : aW p n (aH.mk s c) rs.reverse = some (0, (s.vars.getD p.v.toNat default).elem, decide ((s.vars.getD p.v.toNat default).n > 0 ∧ p.n ≥ 0 ∧ p.n ≤ (s.vars.getD p.v.toNat default).n - n)) := by
   unfold aW; rw [if_neg h1, if_neg h2, if_pos h3, if_pos q1]
   simp only
   rw [wr (by omega) (by omega)]
   by_cases a : (s.vars.getD p.v.toNat default).n > 0
   ·rw [if_pos a]
    by_cases b : p.n ≥ 0
    ·rw [if_pos b]; congr 3; rw [decide_eq_decide]; exact ⟨fun h => ⟨a, b, h⟩, fun h => h.2.2⟩
    ·rw [if_neg b, decide_eq_false (fun h => b h.2.1)]
   ·rw [if_neg a, decide_eq_false (fun h => a h.1)]
  unfold fj; rw [if_neg h1, if_neg h2, if_pos h3]
  by_cases a : (s.vars.getD p.v.toNat default).n > 0 ∧ p.n ≥ 0 ∧ p.n ≤ (s.vars.getD p.v.toNat default).n - n
  ·rw [if_pos a]; exact ok0 _ (by rw [hst, decide_eq_true a])
  ·rw [if_neg a]; exact fail _ _ (by rw [hst, decide_eq_false a])
 by_cases h4 : p.op = 4
 ·have hst : aW p n (aH.mk s c) rs.reverse = some (0, 105, decide (p.n ≥ -1000000 ∧ p.n ≤ 1000000)) := by
   unfold aW; rw [if_neg h1, if_neg h2, if_neg h3, if_pos h4]
   by_cases a : p.n ≥ -1000000
   ·rw [if_pos a]; simp [a]
   ·rw [if_neg a]; simp [a]
  unfold fj; rw [if_neg h1, if_neg h2, if_neg h3, if_pos h4]
  by_cases a : p.n ≥ -1000000 ∧ p.n ≤ 1000000
  ·rw [if_pos a]; exact ok0 _ (by rw [hst, decide_eq_true a])
  ·rw [if_neg a]; exact fail _ _ (by rw [hst, decide_eq_false a])
 have w5 : IntKind.wrap .i64 (IntKind.wrap .i64 ((5 : Int) - 5) + 1) = 1 := by decide
 have w6 : IntKind.wrap .i64 (IntKind.wrap .i64 ((6 : Int) - 5) + 1) = 2 := by decide
 by_cases h5 : p.op = 5
 ·have hst : aW p n (aH.mk s c) rs.reverse = if (opT p.k).2.2 = 1 then (if ka 1 rs = (opT p.k).1 then some ((opT p.k).2.2, (opT p.k).2.1, true) else some ((opT p.k).2.2, (opT p.k).2.1, false)) else some ((opT p.k).2.2, (opT p.k).2.1, false) := by
   unfold aW; rw [if_neg h1, if_neg h2, if_neg h3, if_neg h4, if_pos h5, show (p.op == 5) = true by simp [h5]]
   unfold bY
   rw [if_pos rfl, iW]
   simp only [Option.bind_some]
   rw [h5, w5, t1]
   simp only [Option.bind_some]
   by_cases a : (opT p.k).2.2 = 1
   ·rw [if_pos a, if_pos a, if_pos a]
   ·rw [if_neg a, if_neg a]
  unfold fj; rw [if_neg h1, if_neg h2, if_neg h3, if_neg h4, if_pos h5]
  by_cases a : (opT p.k).2.2 = 1
  ·rw [if_pos a] at hst
   have nz := zs a (by decide)
   cases rs with
   | nil =>
    rw [if_neg (by show ¬ (0 : Int) = _; omega)] at hst
    exact fail _ _ hst
   | cons x r =>
    by_cases b : x = (opT p.k).1
    ·rw [if_pos (show ka 1 (x :: r) = _ from b), a] at hst
     simp only
     rw [if_pos ⟨a, b⟩]
     exact okk 1 _ r hst (by simp) (rv1 x r).2
    ·rw [if_neg (show ¬ ka 1 (x :: r) = _ from b)] at hst
     simp only
     rw [if_neg (fun h => b h.2)]
     exact fail _ _ hst
  ·rw [if_neg a] at hst
   have f := fail _ _ hst
   cases rs with
   | nil => exact f
   | cons x r => simp only; rw [if_neg (fun h => a h.1)]; exact f
 by_cases h6 : p.op = 6
 ·have hst : aW p n (aH.mk s c) rs.reverse = if (opT p.k).2.2 = 2 then (if ka 1 rs = (opT p.k).1 then some ((opT p.k).2.2, (opT p.k).2.1, ka 2 rs == (opT p.k).1) else some ((opT p.k).2.2, (opT p.k).2.1, false)) else some ((opT p.k).2.2, (opT p.k).2.1, false) := by
   unfold aW; rw [if_neg h1, if_neg h2, if_neg h3, if_neg h4, if_neg h5, show (p.op == 6) = true by simp [h6]]
   unfold bY
   rw [if_pos rfl, iW]
   simp only [Option.bind_some]
   rw [h6, w6, t1]
   simp only [Option.bind_some]
   by_cases a : (opT p.k).2.2 = 2
   ·rw [if_pos a, if_pos a, if_neg (by omega : ¬ (opT p.k).2.2 = 1), t2]
    simp only [Option.bind_some]
   ·rw [if_neg a, if_neg a]
  unfold fj; rw [if_neg h1, if_neg h2, if_neg h3, if_neg h4, if_neg h5, if_pos h6]
  by_cases a : (opT p.k).2.2 = 2
  ·rw [if_pos a] at hst
   have nz := zs a (by decide)
   match rs, hst, okk, fail with
   | [], hst, _, fail =>
    rw [if_neg (by show ¬ (0 : Int) = _; omega)] at hst
    exact fail _ _ hst
   | [x], hst, _, fail =>
    have : (ka 2 [x] == (opT p.k).1) = false := beq_eq_false_iff_ne.2 (by show (0 : Int) ≠ _; omega)
    rw [this] at hst
    exact fail _ _ (by rw [hst]; split <;> rfl)
   | x :: y :: r, hst, okk, fail =>
    simp only
    by_cases b : x = (opT p.k).1
    ·rw [if_pos (show ka 1 (x :: y :: r) = _ from b), a] at hst
     by_cases d : y = (opT p.k).1
     ·rw [show (ka 2 (x :: y :: r) == (opT p.k).1) = true from beq_iff_eq.2 d] at hst
      rw [if_pos ⟨a, b, d⟩]
      exact okk 2 _ r hst (by simp) (rv2 x y r).2.2
     ·rw [show (ka 2 (x :: y :: r) == (opT p.k).1) = false from beq_eq_false_iff_ne.2 d] at hst
      rw [if_neg (fun h => d h.2.2)]
      exact fail _ _ hst
    ·rw [if_neg (show ¬ ka 1 (x :: y :: r) = _ from b)] at hst
     rw [if_neg (fun h => b h.2.1)]
     exact fail _ _ hst
  ·rw [if_neg a] at hst
   have f := fail _ _ hst
   match rs, f with
   | [], f => exact f
   | [x], f => exact f
   | x :: y :: r, f => simp only; rw [if_neg (fun h => a h.1)]; exact f
 by_cases h7 : p.op = 7
 ·have hst : aW p n (aH.mk s c) rs.reverse = if ka 3 rs = 98 then (if ka 1 rs = ka 2 rs then some (3, ka 1 rs, ka 1 rs != 0) else some (3, ka 1 rs, false)) else some (3, ka 1 rs, false) := by
   unfold aW; rw [if_neg h1, if_neg h2, if_neg h3, if_neg h4, if_neg h5, show (p.op == 6) = false by simp [h6]]
   unfold bY
   rw [if_neg (by decide), if_pos h7, t1, t3]
   simp only [Option.bind_some]
   rw [t2]
   simp only [Option.bind_some]
  unfold fj; rw [if_neg h1, if_neg h2, if_neg h3, if_neg h4, if_neg h5, if_neg h6, if_pos h7]
  match rs, hst, okk, fail, hs with
  | [], hst, _, fail, _ => rw [if_neg (by show ¬ (0 : Int) = _; omega)] at hst; exact fail _ _ hst
  | [x], hst, _, fail, _ => rw [if_neg (by show ¬ (0 : Int) = _; omega)] at hst; exact fail _ _ hst
  | [x, y], hst, _, fail, _ => rw [if_neg (by show ¬ (0 : Int) = _; omega)] at hst; exact fail _ _ hst
  | x :: y :: z :: r, hst, okk, fail, hs =>
   simp only
   by_cases b : z = 98
   ·rw [if_pos (show ka 3 (x :: y :: z :: r) = 98 from b)] at hst
    by_cases d : y = x
    ·have hx : x ≠ 0 := by rcases hs x (by simp) with h | h <;> omega
     rw [if_pos (show ka 1 (x :: y :: z :: r) = ka 2 (x :: y :: z :: r) from d.symm), show (ka 1 (x :: y :: z :: r) != 0) = true from bne_iff_ne.2 hx] at hst
     rw [if_pos ⟨b, d⟩]
     exact okk 3 x r hst (by simp) (rv3 x y z r).2.2.2
    ·rw [if_neg (show ¬ ka 1 (x :: y :: z :: r) = ka 2 (x :: y :: z :: r) from fun h => d h.symm)] at hst
     rw [if_neg (fun h => d h.2)]
     exact fail _ _ hst
   ·rw [if_neg (show ¬ ka 3 (x :: y :: z :: r) = 98 from b)] at hst
    rw [if_neg (fun h => b h.1)]
    exact fail _ _ hst
 by_cases h8 : p.op = 8
 ·obtain ⟨q1, q2, q3⟩ := hvar (.inr (.inr h8))
  have hst : aW p n (aH.mk s c) rs.reverse = if (s.vars.getD p.v.toNat default).n > 0 then (if ka 1 rs = (s.vars.getD p.v.toNat default).elem then some (2, (s.vars.getD p.v.toNat default).elem, ka 2 rs == 105) else some (2, (s.vars.getD p.v.toNat default).elem, false)) else some (2, (s.vars.getD p.v.toNat default).elem, false) := by
   unfold aW; rw [if_neg h1, if_neg h2, if_neg h3, if_neg h4, if_neg h5, show (p.op == 6) = false by simp [h6]]
   unfold bY
   rw [if_neg (by decide), if_neg h7, if_pos h8, if_pos q1, t1]
   simp only [Option.bind_some]
   rw [t2]
   simp only [Option.bind_some]
  unfold fj; rw [if_neg h1, if_neg h2, if_neg h3, if_neg h4, if_neg h5, if_neg h6, if_neg h7, if_pos h8]
  match rs, hst, okk, fail with
  | [], hst, _, fail =>
   by_cases a : (s.vars.getD p.v.toNat default).n > 0
   ·rw [if_pos a, if_neg (by show ¬ (0 : Int) = _; rcases q3 with h | h <;> omega)] at hst; exact fail _ _ hst
   ·rw [if_neg a] at hst; exact fail _ _ hst
  | [x], hst, _, fail =>
   rw [show (ka 2 [x] == 105) = false from rfl] at hst
   exact fail _ _ (by rw [hst]; split <;> (try split) <;> rfl)
  | x :: y :: r, hst, okk, fail =>
   simp only
   by_cases a : (s.vars.getD p.v.toNat default).n > 0
   ·rw [if_pos a] at hst
    by_cases b : x = (s.vars.getD p.v.toNat default).elem
    ·rw [if_pos (show ka 1 (x :: y :: r) = _ from b)] at hst
     by_cases d : y = 105
     ·rw [show (ka 2 (x :: y :: r) == 105) = true from beq_iff_eq.2 d] at hst
      rw [if_pos ⟨a, d, b⟩]
      exact okk 2 _ r hst (by simp) (rv2 x y r).2.2
     ·rw [show (ka 2 (x :: y :: r) == 105) = false from beq_eq_false_iff_ne.2 d] at hst
      rw [if_neg (fun h => d h.2.1)]
      exact fail _ _ hst
    ·rw [if_neg (show ¬ ka 1 (x :: y :: r) = _ from b)] at hst
     rw [if_neg (fun h => b h.2.2)]
     exact fail _ _ hst
   ·rw [if_neg a] at hst
    rw [if_neg (fun h => a h.1)]
    exact fail _ _ hst
 ·have hst : aW p n (aH.mk s c) rs.reverse = some (0, 0, false) := by
   unfold aW; rw [if_neg h1, if_neg h2, if_neg h3, if_neg h4, if_neg h5, show (p.op == 6) = false by simp [h6]]
   unfold bY
   rw [if_neg (by decide), if_neg h7, if_neg h8]
  unfold fj; rw [if_neg h1, if_neg h2, if_neg h3, if_neg h4, if_neg h5, if_neg h6, if_neg h7, if_neg h8]
  exact fail _ _ hst
end Pam

namespace Pam
open Go
theorem BN (x m : Int) (r : List Int) : ((x :: r).reverse).set r.length m = (m :: r).reverse := by simp
theorem wl1 (x : Int) (r : List Int) (h : r.length ≤ 1000) : IntKind.wrap .i64 (((x :: r).reverse.length : Int) - 1) = (r.length : Int) := by
 rw [gZ, List.length_cons, wr (by omega) (by omega)]; omega
theorem wl2 (x y : Int) (r : List Int) (h : r.length ≤ 1000) : IntKind.wrap .i64 (((x :: y :: r).reverse.length : Int) - 2) = (r.length : Int) ∧ IntKind.wrap .i64 (((x :: y :: r).reverse.length : Int) - 1) = ((r.length + 1 : Nat) : Int) := by
 rw [gZ, List.length_cons, List.length_cons, wr (by omega) (by omega), wr (by omega) (by omega)]; omega
theorem wl3 (x y z : Int) (r : List Int) (h : r.length ≤ 1000) : IntKind.wrap .i64 (((x :: y :: z :: r).reverse.length : Int) - 3) = (r.length : Int) ∧ IntKind.wrap .i64 (((x :: y :: z :: r).reverse.length : Int) - 2) = ((r.length + 1 : Nat) : Int) ∧
  IntKind.wrap .i64 (((x :: y :: z :: r).reverse.length : Int) - 1) = ((r.length + 2 : Nat) : Int) := by
 rw [gZ, List.length_cons, List.length_cons, List.length_cons, wr (by omega) (by omega), wr (by omega) (by omega), wr (by omega) (by omega)]; omega
theorem kU (l : List Int) (x : Int) : l.reverse ++ (lit ([x] : List Int)) = (x :: l).reverse := by simp [lit]
theorem yy (n : Int) : mU n = some (decide (n ≥ -1000000 ∧ n ≤ 1000000)) := by
 unfold mU
 by_cases a : n ≥ -1000000
 ·rw [if_pos a]; simp [a]
 ·rw [if_neg a]; simp [a]
theorem AA {s : af} {e : List aI} {n : Int} {rs : List Int} {i : Nat} (hv : jb s) (hu : tv s (e.getD i default)) (hn : 1 ≤ n ∧ n ≤ 300) (hl : rs.length ≤ 900) (hi : i < e.length) (hi' : i < 100000) :
  fh s e n rs.reverse (i : Int) = some (Cy (0 : Int) i (fj s n (e.getD i default) rs)) := by
 unfold fh
 rw [if_pos (ltI hi), if_pos (inI hi)]
 simp only [Int.toNat_natCast]
 rw [wrs i (by omega)]
 obtain ⟨p, hp⟩ : ∃ p, e.getD i default = p := ⟨_, rfl⟩
 simp only [hp]
 rw [hp] at hu
 have hroom : dy (rs.reverse.length + 1) 1 := tw _ (by simp; omega)
 have hvar : p.op = 2 ∨ p.op = 3 ∨ p.op = 8 → (0 ≤ p.v ∧ p.v < (s.vars.length : Int)) ∧ (0 ≤ (s.vars.getD p.v.toNat default).n ∧ (s.vars.getD p.v.toNat default).n ≤ 300) := fun ho => by
  have h := hu ho
  have hm : s.vars.getD p.v.toNat default ∈ s.vars := bi (by unfold inV at h; omega)
  exact ⟨h, hv.n _ hm⟩
 by_cases h1 : p.op = 1
 ·unfold fj; rw [if_pos h1, if_pos h1]
  by_cases k0 : p.k = 0
  ·rw [if_pos k0, if_pos k0, if_pos hroom, kU]; rfl
  ·rw [if_neg k0, if_neg k0]
   by_cases k1 : p.k = 1
   ·rw [if_pos k1]
    by_cases n0 : p.n = 0
    ·rw [if_pos n0, if_pos hroom, kU, if_pos ⟨k1, .inl n0⟩]; rfl
    ·rw [if_neg n0]
     by_cases n1 : p.n = 1
     ·rw [if_pos n1, if_pos hroom, kU, if_pos ⟨k1, .inr n1⟩]; rfl
     ·rw [if_neg n1, if_neg (by omega)]; rfl
   ·rw [if_neg k1, if_neg (fun h => k1 h.1)]; rfl
 rw [if_neg h1]
 by_cases h2 : p.op = 2
 ·obtain ⟨q1, q2⟩ := hvar (.inl h2)
  unfold fj; rw [if_pos h2, if_neg h1, if_pos h2, if_pos q1]
  by_cases n0 : (s.vars.getD p.v.toNat default).n = 0
  ·rw [if_neg (fun h => h n0), if_pos hroom, kU, if_pos n0]; rfl
  ·rw [if_pos n0, if_neg n0]; rfl
 rw [if_neg h2]
 by_cases h3 : p.op = 3
 ·obtain ⟨q1, q2⟩ := hvar (.inr (.inl h3))
  unfold fj; rw [if_pos h3, if_neg h1, if_neg h2, if_pos h3, if_pos q1]
  by_cases n0 : (s.vars.getD p.v.toNat default).n = 0
  ·rw [if_pos n0, if_neg (by omega)]; rfl
  ·rw [if_neg n0]
   by_cases a : p.n < 0
   ·rw [if_pos a, if_neg (by omega)]; rfl
   ·rw [if_neg a]
    by_cases b : (s.vars.getD p.v.toNat default).n < n
    ·rw [if_pos b, if_neg (by omega)]; rfl
    ·rw [if_neg b, wr (by omega) (by omega)]
     by_cases d : p.n > (s.vars.getD p.v.toNat default).n - n
     ·rw [if_pos d, if_neg (by omega)]; rfl
     ·rw [if_neg d, if_pos hroom, kU, if_pos (by omega)]; rfl
 rw [if_neg h3]
 by_cases h4 : p.op = 4
 ·unfold fj; rw [if_pos h4, if_neg h1, if_neg h2, if_neg h3, if_pos h4, yy]
  simp only [Option.bind_some]
  by_cases a : p.n ≥ -1000000 ∧ p.n ≤ 1000000
  ·rw [if_pos (decide_eq_true a), if_pos hroom, kU, if_pos a]; rfl
  ·rw [if_neg (by simpa using a), if_neg a]; rfl
 rw [if_neg h4]
 by_cases h5 : p.op = 5
 ·unfold fj; rw [if_pos h5, if_neg h1, if_neg h2, if_neg h3, if_neg h4, if_pos h5, cC]
  simp only [Option.bind_some]
  match rs, hl with
  | [], _ =>
   split
   ·rfl
   ·rw [if_pos (by simp)]; rfl
  | x :: r, hl =>
   simp only [List.length_cons] at hl
   simp only
   by_cases a : (opT p.k).2.2 = 1
   ·rw [if_neg (fun h => h a), if_neg (by rw [gZ]; simp; omega), wl1 _ _ (by omega), if_pos ⟨by omega, by rw [gZ]; simp; omega⟩]
    simp only [Int.toNat_natCast]
    simp only [(rv1 x r).1]
    by_cases b : x = (opT p.k).1
    ·rw [if_neg (fun h => h b), BN, if_pos ⟨a, b⟩]; rfl
    ·rw [if_pos b, if_neg (fun h => b h.2)]; rfl
   ·rw [if_pos a, if_neg (fun h => a h.1)]; rfl
 rw [if_neg h5]
 by_cases h6 : p.op = 6
 ·unfold fj; rw [if_pos h6, if_neg h1, if_neg h2, if_neg h3, if_neg h4, if_neg h5, if_pos h6, cC]
  simp only [Option.bind_some]
  match rs, hl with
  | [], _ =>
   split
   ·rfl
   ·rw [if_pos (by simp)]; rfl
  | [x], _ =>
   split
   ·rfl
   ·rw [if_pos (by simp)]; rfl
  | x :: y :: r, hl =>
   simp only [List.length_cons] at hl
   simp only
   obtain ⟨w2, w1⟩ := wl2 x y r (by omega)
   obtain ⟨g1, g2, g3⟩ := rv2 x y r
   by_cases a : (opT p.k).2.2 = 2
   ·rw [if_neg (fun h => h a), if_neg (by rw [gZ]; simp; omega), w1, if_pos ⟨by omega, by rw [gZ]; simp; omega⟩]
    simp only [Int.toNat_natCast]
    simp only [g2]
    by_cases b : x = (opT p.k).1
    ·rw [if_neg (fun h => h b), w2, if_pos ⟨by omega, by rw [gZ]; simp; omega⟩]
     simp only [Int.toNat_natCast]
     simp only [g1]
     by_cases d : y = (opT p.k).1
     ·rw [if_neg (fun h => h d), if_pos ⟨⟨by omega, by rw [gZ]; simp; omega⟩, tw _ (by omega)⟩, g3, kU, if_pos ⟨a, b, d⟩]; rfl
     ·rw [if_pos d, if_neg (fun h => d h.2.2)]; rfl
    ·rw [if_pos b, if_neg (fun h => b h.2.1)]; rfl
   ·rw [if_pos a, if_neg (fun h => a h.1)]; rfl
 rw [if_neg h6]
 by_cases h7 : p.op = 7
 ·unfold fj; rw [if_pos h7, if_neg h1, if_neg h2, if_neg h3, if_neg h4, if_neg h5, if_neg h6, if_pos h7]
  match rs, hl with
  | [], _ => rw [if_pos (by simp)]; rfl
  | [x], _ => rw [if_pos (by simp)]; rfl
  | [x, y], _ => rw [if_pos (by simp)]; rfl
  | x :: y :: z :: r, hl =>
   simp only [List.length_cons] at hl
   simp only
   obtain ⟨w3, w2, w1⟩ := wl3 x y z r (by omega)
   obtain ⟨g1, g2, g3, g4⟩ := rv3 x y z r
   rw [if_neg (by rw [gZ]; simp; omega), w3, if_pos ⟨by omega, by rw [gZ]; simp; omega⟩]
   simp only [Int.toNat_natCast]
   simp only [g1]
   by_cases b : z = 98
   ·rw [if_neg (fun h => h b), w2, w1, if_pos ⟨⟨by omega, by rw [gZ]; simp; omega⟩, by omega, by rw [gZ]; simp; omega⟩]
    simp only [Int.toNat_natCast]
    simp only [g2, g3]
    by_cases d : y = x
    ·rw [if_neg (fun h => h d), if_pos ⟨⟨by omega, by rw [gZ]; simp; omega⟩, tw _ (by omega)⟩, g4, kU, if_pos ⟨b, d⟩]; rfl
    ·rw [if_pos d, if_neg (fun h => d h.2)]; rfl
   ·rw [if_pos b, if_neg (fun h => b h.1)]; rfl
 rw [if_neg h7]
 by_cases h8 : p.op = 8
 ·obtain ⟨q1, q2⟩ := hvar (.inr (.inr h8))
  unfold fj; rw [if_pos h8, if_neg h1, if_neg h2, if_neg h3, if_neg h4, if_neg h5, if_neg h6, if_neg h7, if_pos h8, if_pos q1]
  match rs, hl with
  | [], _ =>
   split
   ·rfl
   ·rw [if_pos (by simp)]; rfl
  | [x], _ =>
   split
   ·rfl
   ·rw [if_pos (by simp)]; rfl
  | x :: y :: r, hl =>
   simp only [List.length_cons] at hl
   simp only
   obtain ⟨w2, w1⟩ := wl2 x y r (by omega)
   obtain ⟨g1, g2, g3⟩ := rv2 x y r
   by_cases a : (s.vars.getD p.v.toNat default).n = 0
   ·rw [if_pos a, if_neg (by omega)]; rfl
   ·rw [if_neg a, if_neg (by rw [gZ]; simp; omega), w2, if_pos ⟨by omega, by rw [gZ]; simp; omega⟩]
    simp only [Int.toNat_natCast]
    simp only [g1]
    by_cases b : y = 105
    ·rw [if_neg (fun h => h b), w1, if_pos ⟨by omega, by rw [gZ]; simp; omega⟩]
     simp only [Int.toNat_natCast]
     simp only [g2]
     by_cases d : x = (s.vars.getD p.v.toNat default).elem
     ·rw [if_neg (fun h => h d), if_pos ⟨⟨by omega, by rw [gZ]; simp; omega⟩, tw _ (by omega)⟩, g3, kU, if_pos ⟨by omega, b, d⟩]; rfl
     ·rw [if_pos d, if_neg (fun h => d h.2.2)]; rfl
    ·rw [if_pos b, if_neg (fun h => b h.2.1)]; rfl
 ·rw [if_neg h8]
  unfold fj; rw [if_neg h1, if_neg h2, if_neg h3, if_neg h4, if_neg h5, if_neg h6, if_neg h7, if_neg h8]; rfl
def wj (s : af) (n : Int) : List aI → List Int → Option (List Int)
 | [], rs => some rs
 | p :: e, rs => match fj s n p rs with | some rs' => wj s n e rs' | none => none
def uP (s : af) (n : Int) (e : List aI) : Int := match wj s n e [] with | some [x] => x | _ => 0
theorem tx {Z : Type} (s : af) (n : Int) (z : Z) : ∀ (e : List aI) (i : Nat) (rs : List Int), m1 (fun _ a p => match fj s n p a with | some a' => .inl a' | none => .inr z) i e rs = match wj s n e rs with | some a => .inl a | none => .inr z
 | [], i, rs => rfl
 | p :: e, i, rs => by
  rw [m1, wj]
  cases fj s n p rs with
  | none => rfl
  | some a => exact tx s n z e (i + 1) a
theorem yz {s : af} {c : Int} {e : List aI} {n : Int} (hv : jb s) (hu : ∀ p ∈ e, tv s p) (hn : 1 ≤ n ∧ n ≤ 300) (he : e.length ≤ 800) :
  (∃ q : Int × Bool, jD e n (aH.mk s c) = some q ∧ (q.2 = true → q.1 = uP s n e ∧ okE q.1) ∧ (q.2 = false → uP s n e = 0)) ∧ lP s e n = some (uP s n e) := by
 have I : ∀ (i : Nat) (a : List Int), i < e.length → (okS a ∧ a.length ≤ i) → ∀ a', fj s n (e.getD i default) a = some a' → okS a' ∧ a'.length ≤ i + 1 := by
  intro i a hi ha a' h
  obtain ⟨k1, k2⟩ := zr hv (hu _ (bi hi)) ha.1 h
  exact ⟨k1, by omega⟩
 obtain ⟨h1, h2⟩ := oC (A := List Int) (T := aI) (O := List Int) (Z := Int × Bool) (S := List Int × Int) (fun a i => (a.reverse, i)) (body := fun x => bp e n (aH.mk s c) x.1 x.2) e
  (fun _ a p => match fj s n p a with | some a' => .inl a' | none => .inr (0, false)) (fun i a => okS a ∧ a.length ≤ i) (fun a => a.reverse) [] ⟨fun x hx => by simp at hx, by simp⟩
  (by
   intro i a hi ha
   refine ⟨?_, ?_⟩
   ·show bp e n (aH.mk s c) a.reverse (i : Int) = _
    rw [Az hv (hu _ (bi hi)) ha.1 hn (by omega) hi (by omega)]
    cases fj s n (e.getD i default) a <;> rfl
   ·intro a' h
    cases hx : fj s n (e.getD i default) a with
    | none => rw [hx] at h; cases h
    | some b =>
     rw [hx] at h
     simp only [Sum.inl.injEq] at h
     subst h
     exact I i a hi ha b hx)
  (by
   intro a _
   show bp e n (aH.mk s c) a.reverse (e.length : Int) = _
   unfold bp
   rw [if_neg (aX _)])
 obtain ⟨h3, h4⟩ := oC (A := List Int) (T := aI) (O := List Int) (Z := Int) (S := List Int × Int) (fun a i => (a.reverse, i)) (body := fun x => fh s e n x.1 x.2) e
  (fun _ a p => match fj s n p a with | some a' => .inl a' | none => .inr 0) (fun i a => okS a ∧ a.length ≤ i) (fun a => a.reverse) [] ⟨fun x hx => by simp at hx, by simp⟩
  (by
   intro i a hi ha
   refine ⟨?_, ?_⟩
   ·show fh s e n a.reverse (i : Int) = _
    rw [AA hv (hu _ (bi hi)) hn (by omega) hi (by omega)]
    cases fj s n (e.getD i default) a <;> rfl
   ·intro a' h
    cases hx : fj s n (e.getD i default) a with
    | none => rw [hx] at h; cases h
    | some b =>
     rw [hx] at h
     simp only [Sum.inl.injEq] at h
     subst h
     exact I i a hi ha b hx)
  (by
   intro a _
   show fh s e n a.reverse (e.length : Int) = _
   unfold fh
   rw [if_neg (aX _)])
 rw [tx] at h1 h2 h3
 have e1 : jD e n (aH.mk s c) = (aT (fun x : List Int × Int => bp e n (aH.mk s c) x.1 x.2) (([] : List Int).reverse, 0)).bind (Sum.elim (fun z => cJ z) (fun z => some z)) := rfl
 have e2 : lP s e n = (aT (fun x : List Int × Int => fh s e n x.1 x.2) (([] : List Int).reverse, 0)).bind (Sum.elim (fun z => gA z) (fun z => some z)) := rfl
 rw [e1, e2, h1, h3]
 simp only [Option.bind_some]
 unfold uP
 cases ht : wj s n e [] with
 | none => exact ⟨⟨(0, false), rfl, fun h => (by cases h), fun _ => rfl⟩, rfl⟩
 | some a =>
  have ha := (h2 a (by rw [ht])).1
  simp only [Sum.elim_inl]
  match a, ha with
  | [], _ =>
   refine ⟨⟨(0, false), ?_, fun h => (by cases h), fun _ => rfl⟩, ?_⟩
   ·unfold cJ; rw [if_pos (by simp)]
   ·unfold gA; rw [if_pos (by simp)]
  | [x], ha =>
   refine ⟨⟨(x, true), ?_, fun _ => ⟨rfl, ha x (by simp)⟩, fun h => by cases h⟩, ?_⟩
   ·unfold cJ; rw [if_neg (by simp), if_pos (by simp)]; rfl
   ·unfold gA; rw [if_neg (by simp), if_pos (by simp)]; rfl
  | x :: y :: r, _ =>
   refine ⟨⟨(0, false), ?_, fun h => (by cases h), fun _ => rfl⟩, ?_⟩
   ·unfold cJ; rw [if_pos (by simp; omega)]
   ·unfold gA; rw [if_pos (by simp; omega)]
end Pam

namespace Pam
open Go
def vOf (s : af) (x : Int) : ak := s.vars.getD x.toNat default
theorem jo (s : af) (x : Int) : s.vars.getD x.toNat default = vOf s x := by rw [vOf]
def pw (a b : ak) : Bool := a.elem == b.elem && a.n == b.n
def qp (s : af) (l : List Int) (i : Nat) : Option Bool := if pw (vOf s (l.getD i default)) (vOf s (l.getD 0 default)) then none else some false
theorem uQ (s : af) (l : List Int) : (match d2 l.length (qp s l) () with | .inr z => z | .inl _ => true) = l.all (fun x => pw (vOf s x) (vOf s (l.getD 0 default))) := by
 rcases cO l.length (qp s l) () with ⟨e, h⟩ | ⟨j, z, hj, hf, e⟩
 ·rw [e]
  symm
  show _ = true
  rw [List.all_eq_true]
  intro x hx
  obtain ⟨i, hi, rfl⟩ := List.mem_iff_getElem.1 hx
  have := h i hi
  unfold qp at this
  have e2 : l.getD i default = l[i] := by simp [List.getD, hi]
  rw [e2] at this
  split at this
  ·assumption
  ·cases this
 ·rw [e]
  unfold qp at hf
  split at hf
  ·cases hf
  ·rename_i hb
   simp only [Option.some.injEq] at hf
   subst hf
   symm
   show _ = false
   rw [List.all_eq_false]
   exact ⟨_, bi hj, hb⟩
theorem pX (a b : ak) : pw a b = true ↔ a.elem = b.elem ∧ a.n = b.n := by unfold pw; simp
theorem AB {s : af} {c : Int} {l : List Int} (hl : 0 < l.length) (hb : l.length ≤ 1000) (hin : ∀ x ∈ l, inV s x) :
  jA l (aH.mk s c) = some (l.all (fun x => pw (vOf s x) (vOf s (l.getD 0 default)))) := by
 unfold jA
 rw [br l.length (qp s l) () (fun i hi => by
  unfold gI qp
  have g0 := hin _ (bi (l := l) (i := 0) hl)
  have gi := hin _ (bi hi)
  unfold inV at g0 gi
  rw [if_pos (ltI hi), if_pos (inI hi)]
  simp only [Int.toNat_natCast]
  rw [if_pos ⟨gi, by omega, g0⟩, wrs i (by omega)]
  simp only [jo]
  by_cases h : pw (vOf s (l.getD i default)) (vOf s (l.getD 0 default)) = true
  ·rw [if_pos ((pX _ _).1 h), if_pos h]
  ·rw [if_neg (fun h' => h ((pX _ _).2 h')), if_neg h]) (by unfold gI; rw [if_neg (aX _)])]
 rw [← uQ]
 cases d2 l.length (qp s l) () <;> rfl
theorem wk {s : af} {c : Int} {l : List Int} (hl : 0 < l.length) (hb : l.length ≤ 1000) (hin : ∀ x ∈ l, inV s x) :
  fo (aH.mk s c) l = some (l.all (fun x => pw (vOf s x) (vOf s (l.getD 0 default)))) := by
 unfold fo
 rw [br l.length (qp s l) () (fun i hi => by
  unfold e8 qp
  have g0 := hin _ (bi (l := l) (i := 0) hl)
  have gi := hin _ (bi hi)
  unfold inV at g0 gi
  rw [if_pos (ltI hi), if_pos (inI hi)]
  simp only [Int.toNat_natCast]
  rw [if_pos ⟨gi, by omega, g0⟩, wrs i (by omega)]
  simp only [jo]
  by_cases h : pw (vOf s (l.getD i default)) (vOf s (l.getD 0 default)) = true
  ·rw [if_pos ((pX _ _).1 h), if_pos h]
  ·rw [if_neg (fun h' => h ((pX _ _).2 h')), if_neg h]) (by unfold e8; rw [if_neg (aX _)])]
 rw [← uQ]
 cases d2 l.length (qp s l) () <;> rfl
def vx (k : Int) : Bool := (opT k).2.2 == 2 && (opT k).1 == (opT k).2.1
theorem dV (k : Int) : jB k = some (vx k) := by
 unfold jB vx
 rw [iW]
 simp only [Option.bind_some]
 split
 ·rename_i h; rw [h]; rfl
 ·rename_i h; rw [beq_eq_false_iff_ne.2 h]; rfl
theorem dW (k : Int) : kA k = some (vx k) := by
 unfold kA vx
 rw [cC]
 simp only [Option.bind_some]
 split
 ·rename_i h; rw [h]; rfl
 ·rename_i h; rw [beq_eq_false_iff_ne.2 h]; rfl
def fG (n : Int) : Int := if n < 1 then 1 else n
theorem jH (n : Int) : jU n = some (fG n) := by
 unfold jU fG; split <;> rfl
theorem AC (n : Int) : (if 1 > n then 1 else n) = fG n := rfl
def kV (s : af) (a : List Int) : List ak := [if 0 < a.length then vOf s (a.getD 0 default) else ⟨0, 0⟩, if 1 < a.length then vOf s (a.getD 1 default) else ⟨0, 0⟩, if 2 < a.length then vOf s (a.getD 2 default) else ⟨0, 0⟩]
theorem AD {s : af} {r : ae} {i : Nat} {l : List ak} (hi : i < r.a.length) (h3 : r.a.length ≤ 3) (hl : l.length = 3) (hin : ∀ x ∈ r.a, inV s x) :
  ci s r l (i : Int) = some (.inl (l.set i (vOf s (r.a.getD i default)), ((i + 1 : Nat) : Int))) := by
 unfold ci
 have gi := hin _ (bi hi)
 unfold inV at gi
 rw [if_pos (ltI hi)]
 simp only [Int.toNat_natCast]
 rw [if_pos ⟨inI hi, gi, by omega, by omega⟩, wrs i (by omega)]
 rfl
theorem zt {s : af} {r : ae} (h3 : r.a.length ≤ 3) (hin : ∀ x ∈ r.a, inV s x) :
  aT (fun x : List ak × Int => ci s r x.1 x.2) (List.replicate 3 (ak.mk 0 0), 0) = some (kV s r.a) := by
 have fin : ∀ l, aT (fun x : List ak × Int => ci s r x.1 x.2) (l, (r.a.length : Int)) = some l := fun l => d6 (by
  show ci s r l (r.a.length : Int) = _
  unfold ci
  rw [if_neg (aX _)])
 have nx : ∀ (i : Nat) (l : List ak), i < r.a.length → l.length = 3 → aT (fun x : List ak × Int => ci s r x.1 x.2) (l, (i : Int)) = aT (fun x : List ak × Int => ci s r x.1 x.2) (l.set i (vOf s (r.a.getD i default)), ((i + 1 : Nat) : Int)) :=
  fun i l hi hl => eQ (AD hi h3 hl hin)
 have e : r.a.length = 0 ∨ r.a.length = 1 ∨ r.a.length = 2 ∨ r.a.length = 3 := by omega
 unfold kV
 rcases e with e | e | e | e
 ·have := fin (List.replicate 3 (ak.mk 0 0))
  rw [e] at this ⊢
  exact this
 ·have h0 := nx 0 (List.replicate 3 (ak.mk 0 0)) (by omega) rfl
  have := fin ((List.replicate 3 (ak.mk 0 0)).set 0 (vOf s (r.a.getD 0 default)))
  rw [e] at this ⊢
  exact h0.trans this
 ·have h0 := nx 0 (List.replicate 3 (ak.mk 0 0)) (by omega) rfl
  have h1 := nx 1 ((List.replicate 3 (ak.mk 0 0)).set 0 (vOf s (r.a.getD 0 default))) (by omega) rfl
  have := fin (((List.replicate 3 (ak.mk 0 0)).set 0 (vOf s (r.a.getD 0 default))).set 1 (vOf s (r.a.getD 1 default)))
  rw [e] at this ⊢
  exact h0.trans (h1.trans this)
 ·have h0 := nx 0 (List.replicate 3 (ak.mk 0 0)) (by omega) rfl
  have h1 := nx 1 ((List.replicate 3 (ak.mk 0 0)).set 0 (vOf s (r.a.getD 0 default))) (by omega) rfl
  have h2 := nx 2 (((List.replicate 3 (ak.mk 0 0)).set 0 (vOf s (r.a.getD 0 default))).set 1 (vOf s (r.a.getD 1 default))) (by omega) rfl
  have := fin ((((List.replicate 3 (ak.mk 0 0)).set 0 (vOf s (r.a.getD 0 default))).set 1 (vOf s (r.a.getD 1 default))).set 2 (vOf s (r.a.getD 2 default)))
  rw [e] at this ⊢
  exact h0.trans (h1.trans (h2.trans this))
theorem cw {s : af} {r : ae} (ho : inV s r.out_) (h3 : r.a.length ≤ 3) (hin : ∀ x ∈ r.a, inV s x) : aE s r = aV s r (kV s r.a) := by
 unfold aE
 unfold inV at ho
 rw [if_pos ho]
 show (aT (fun x : List ak × Int => ci s r x.1 x.2) (List.replicate 3 (ak.mk 0 0), 0)).bind (fun z21 => aV s r z21) = _
 rw [zt h3 hin]
 rfl
end Pam

namespace Pam
open Go
def nmd (p : aI) : Bool := p.op == 2 || p.op == 3 || p.op == 8
def kW (a : List Int) (e : List aI) : List Int := (e.foldl (fun l p => if nmd p then l ++ [p.v] else l) a).foldl ins []
theorem wrN (i : Nat) (h : i < 1000000000) : IntKind.wrap .i64 ((i : Int) + 1) = ((i + 1 : Nat) : Int) := wrs i (by omega)
theorem tB (n : Nat) (h : n ≤ 1000000) : dy n 8 := by
 unfold dy
 have : maxLen = 9223372036854775807 := rfl
 omega
theorem zv (l : List Int) (h : l.length ≤ 1000000) : bQ l = some l := by
 unfold bQ
 by_cases e : l = []
 ·rw [if_pos e, e]
 ·rw [if_neg e, if_pos (tB _ h)]
theorem AE (l : List Int) (h : l.length ≤ 2000000) : (eZ l).bind (fun y6 => (dL l.length y6).bind fun y7 => some y7) = some (l.foldl ins []) := by
 unfold eZ dL
 rw [if_pos (by omega)]
 show (if l.length = (oR l).length ∧ (oR l).length ≤ 140737488355328 then some (Go.Lib.compact (oR l)) else none).bind (fun y7 => some y7) = _
 rw [if_pos ⟨(mq l).symm, by rw [mq]; omega⟩, sH]
 rfl
theorem oD (r : ae) (ha : r.a.length ≤ 500000) (he : r.e.length ≤ 500000) : mV r = some (kW r.a r.e) := by
 unfold mV
 rw [zv _ (by omega)]
 show (aT (fun (x : List Int × Int) => gC r x.1 x.2) (r.a, 0)).bind (fun z26 => kB z26) = _
 obtain ⟨h1, h2⟩ := lz (A := List Int) (T := aI) (O := List Int) (S := List Int × Int) (fun a i => (a, i)) (body := fun x => gC r x.1 x.2) r.e (fun l p => if nmd p then l ++ [p.v] else l)
  (fun i a => a.length ≤ r.a.length + i) (fun a => a) r.a (by omega)
  (by
   intro i a hi hI
   have step : ∀ b : Bool, b = nmd (r.e.getD i default) → iB r a (i : Int) b = some (.inl ((if nmd (r.e.getD i default) then a ++ [(r.e.getD i default).v] else a), ((i + 1 : Nat) : Int))) := by
    intro b hb
    subst hb
    unfold iB
    rw [wrN i (by omega)]
    cases nmd (r.e.getD i default)
    ·rfl
    ·rw [if_pos rfl, if_pos (tB _ (by omega))]; rfl
   refine ⟨?_, ?_⟩
   ·show gC r a (i : Int) = _
    unfold gC
    rw [if_pos (ltI hi), if_pos (inI hi)]
    simp only [Int.toNat_natCast]
    split
    ·rename_i h; exact step _ (by unfold nmd; rw [h]; rfl)
    ·rename_i h
     split
     ·rename_i h'; exact step _ (by unfold nmd; rw [h']; rfl)
     ·rename_i h'; exact step _ (by unfold nmd; rw [beq_eq_false_iff_ne.2 h, beq_eq_false_iff_ne.2 h']; rfl)
   ·split
    ·simp; omega
    ·omega)
  (by
   intro a hI
   show gC r a (r.e.length : Int) = _
   unfold gC
   rw [if_neg (aX _)])
 rw [h1]
 exact AE _ (by omega)
def n6 (n : Int) (s : List Int × Bool) (x : Int) : List Int × Bool :=
 if s.2 then (s.1 ++ [x], true) else if x ≥ n then (if x > n then (s.1 ++ [n] ++ [x], true) else (s.1 ++ [x], true)) else (s.1 ++ [x], false)
theorem uR (n : Int) (l : List Int) : ∀ (a : List Int), l.foldl (n6 n) (a, true) = (a ++ l, true) := by
 induction l with
 | nil => intro a; simp
 | cons x l ih => intro a; rw [List.foldl_cons]; show l.foldl (n6 n) (a ++ [x], true) = _; rw [ih]; simp
theorem xb (n : Int) (l : List Int) : ∀ (a : List Int), (let s := l.foldl (n6 n) (a, false); if s.2 then s.1 else s.1 ++ [n]) = a ++ ins l n := by
 induction l with
 | nil => intro a; simp [ins]
 | cons x l ih =>
  intro a
  rw [List.foldl_cons]
  by_cases h : x ≥ n
  ·by_cases h' : x > n
   ·have e : n6 n (a, false) x = (a ++ [n] ++ [x], true) := by simp [n6, h, h']
    rw [e, uR]
    simp [ins, h, h']
   ·have e : n6 n (a, false) x = (a ++ [x], true) := by simp [n6, h, h']
    rw [e, uR]
    simp [ins, h, h']
  ·have e : n6 n (a, false) x = (a ++ [x], false) := by simp [n6, h]
   rw [e, ih]
   simp [ins, h]
theorem sO (l : List Int) (n : Int) : (ins l n).length ≤ l.length + 1 := by
 induction l with
 | nil => simp [ins]
 | cons x l ih =>
  unfold ins
  split
  ·split <;> simp
  ·simp; omega
theorem rl (l : List Int) (n : Int) (h : l.length ≤ 900000) : lr l n = some (ins l n) := by
 unfold lr
 obtain ⟨h1, h2⟩ := lz (A := List Int × Bool) (T := Int) (O := List Int × Bool) (S := List Int × Bool × Int) (fun a i => (a.1, a.2, i)) (body := fun x => eu l n x.1 x.2.1 x.2.2) l (n6 n)
  (fun i a => a.1.length ≤ i + (if a.2 then 1 else 0)) (fun a => a) ([], false) (by simp)
  (by
   intro i a hi hI
   obtain ⟨a, b⟩ := a
   simp only at hI
   have hlen : a.length ≤ i + 1 := by revert hI; cases b <;> simp <;> omega
   have j2 : ∀ (q : List Int) (c : Bool), q.length ≤ 999999 → et l (i : Int) q c = some (.inl (q ++ [l.getD i default], c, ((i + 1 : Nat) : Int))) := by
    intro q c hq
    unfold et
    rw [if_pos ⟨inI hi, tB _ (by omega)⟩, wrN i (by omega)]
    rfl
   refine ⟨?_, ?_⟩
   ·show eu l n a b (i : Int) = _
    unfold eu
    rw [if_pos (ltI hi)]
    cases b with
    | true =>
     rw [if_pos rfl, j2 _ _ (by omega)]
     rfl
    | false =>
     rw [if_neg (by decide), if_pos (inI hi)]
     simp only [Int.toNat_natCast]
     by_cases hge : l.getD i default ≥ n
     ·rw [if_pos hge]
      by_cases hgt : l.getD i default > n
      ·rw [if_pos hgt, if_pos (tB _ (by omega)), j2 _ _ (by simp [lit]; omega)]
       have e : n6 n (a, false) (l.getD i default) = (a ++ [n] ++ [l.getD i default], true) := by unfold n6; rw [if_neg (by simp), if_pos hge, if_pos hgt]
       rw [e]; rfl
      ·rw [if_neg hgt, j2 _ _ (by omega)]
       have e : n6 n (a, false) (l.getD i default) = (a ++ [l.getD i default], true) := by unfold n6; rw [if_neg (by simp), if_pos hge, if_neg hgt]
       rw [e]
     ·rw [if_neg hge, j2 _ _ (by omega)]
      have e : n6 n (a, false) (l.getD i default) = (a ++ [l.getD i default], false) := by unfold n6; rw [if_neg (by simp), if_neg hge]
      rw [e]
   ·have gen : ∀ x : Int, (n6 n (a, b) x).1.length ≤ i + 1 + (if (n6 n (a, b) x).2 = true then 1 else 0) := by
     intro x
     unfold n6
     cases b with
     | true => simp at hI ⊢; omega
     | false =>
      simp at hI
      by_cases hge : x ≥ n
      ·by_cases hgt : x > n
       ·simp only [Bool.false_eq_true, if_false, if_pos hge, if_pos hgt]; simp; omega
       ·simp only [Bool.false_eq_true, if_false, if_pos hge, if_neg hgt]; simp; omega
      ·simp only [Bool.false_eq_true, if_false, if_neg hge]; simp; omega
    exact gen _)
  (by
   intro a hI
   show eu l n a.1 a.2 (l.length : Int) = _
   unfold eu
   rw [if_neg (aX _)])
 show (aT (fun (x : List Int × Bool × Int) => eu l n x.1 x.2.1 x.2.2) ([], false, 0)).bind (fun z => gS n z.1 z.2) = _
 rw [h1]
 have h3 := xb n l []
 simp only [List.nil_append] at h3
 have hl := sO l n
 rw [← h3] at hl ⊢
 simp only [Option.bind_some]
 unfold gS
 cases hs : (l.foldl (n6 n) ([], false)).2 with
 | true => simp
 | false =>
  rw [hs] at h2
  simp only [Bool.false_eq_true, if_false, Nat.add_zero] at h2 ⊢
  rw [if_pos (tB _ (by omega))]
  rfl
theorem uu (l a : List Int) : (l.foldl ins a).length ≤ a.length + l.length := by
 induction l generalizing a with
 | nil => simp
 | cons x l ih => rw [List.foldl_cons]; have := ih (ins a x); have := sO a x; simp; omega
theorem tC (r : ae) (ha : r.a.length ≤ 400000) (he : r.e.length ≤ 400000) : ph r = some (kW r.a r.e) := by
 unfold ph
 obtain ⟨h1, h2⟩ := lz (A := List Int) (T := Int) (O := List Int) (S := List Int × Int) (fun a i => (a, i)) (body := fun x => gw r x.1 x.2) r.a ins
  (fun i a => a.length ≤ i) (fun a => a) [] (by simp)
  (by
   intro i a hi hI
   refine ⟨?_, by have := sO a (r.a.getD i default); omega⟩
   show gw r a (i : Int) = _
   unfold gw
   rw [if_pos (ltI hi), if_pos (inI hi)]
   simp only [Int.toNat_natCast]
   rw [rl _ _ (by omega), wrN i (by omega)]
   rfl)
  (by
   intro a hI
   show gw r a (r.a.length : Int) = _
   unfold gw
   rw [if_neg (aX _)])
 show (aT (fun (x : List Int × Int) => gw r x.1 x.2) ([], 0)).bind (fun z => jx r z) = _
 rw [h1]
 simp only [Option.bind_some]
 unfold jx
 obtain ⟨h3, h4⟩ := lz (A := List Int) (T := aI) (O := List Int) (S := List Int × Int) (fun a i => (a, i)) (body := fun x => gu r x.1 x.2) r.e (fun l p => if nmd p then ins l p.v else l)
  (fun i a => a.length ≤ r.a.length + i) (fun a => a) (r.a.foldl ins []) (by simpa using h2)
  (by
   intro i a hi hI
   have hn : nX (r.e.getD i default) = some (nmd (r.e.getD i default)) := by
    unfold nX nmd
    split
    ·rename_i h; rw [h]; rfl
    ·rename_i h
     split
     ·rename_i h'; rw [h']; rfl
     ·rename_i h'; rw [beq_eq_false_iff_ne.2 h, beq_eq_false_iff_ne.2 h']; rfl
   refine ⟨?_, ?_⟩
   ·show gu r a (i : Int) = _
    unfold gu
    rw [if_pos (ltI hi), if_pos (inI hi)]
    simp only [Int.toNat_natCast]
    rw [hn, wrN i (by omega)]
    simp only [Option.bind_some]
    cases nmd (r.e.getD i default)
    ·rfl
    ·simp only [if_true]
     rw [rl _ _ (by omega)]
     rfl
   ·split
    ·have := sO a (r.e.getD i default).v; omega
    ·omega)
  (by
   intro a hI
   show gu r a (r.e.length : Int) = _
   unfold gu
   rw [if_neg (aX _)])
 show (aT (fun (x : List Int × Int) => gu r x.1 x.2) (r.a.foldl ins [], 0)).bind (fun z => kz z) = _
 rw [h3]
 have key : ∀ (e : List aI) (a b : List Int), e.foldl (fun l p => if nmd p then ins l p.v else l) (a.foldl ins b) = (e.foldl (fun l p => if nmd p then l ++ [p.v] else l) a).foldl ins b := by
  intro e
  induction e with
  | nil => intro a b; rfl
  | cons p e ih =>
   intro a b
   rw [List.foldl_cons, List.foldl_cons]
   cases nmd p
   ·simp only [Bool.false_eq_true, if_false]; exact ih a b
   ·simp only [if_true]
    rw [← ih, List.foldl_append]
    rfl
 rw [key]
 rfl
end Pam

namespace Pam
open Go
structure kE (s : af) (r : ae) : Prop where
 o : inV s r.out_
 a : ∀ x ∈ r.a, inV s x
 u : 14 ≤ r.op → ∀ p ∈ r.e, tv s p
 e : r.e.length ≤ 24
theorem bt {s : af} (hv : jb s) {x : Int} (h : inV s x) : okE (vOf s x).elem ∧ 0 ≤ (vOf s x).n ∧ (vOf s x).n ≤ 300 := by
 have : s.vars.getD x.toNat default ∈ s.vars := bi (by unfold inV at h; omega)
 exact ⟨hv.e _ this, hv.n _ this⟩
theorem dw (e : Int) : iL e = some (ak.mk e 0) := by unfold iL; rfl
theorem xR {s : af} {c x : Int} (h : inV s x) : jC x (aH.mk s c) = some (ak.mk (vOf s x).elem 0, decide ((vOf s x).n > 0)) := by
 unfold jC
 unfold inV at h
 rw [if_pos h, dw]
 rfl
theorem wrd {a b : Int} (ha : 0 ≤ a ∧ a ≤ 300) (hb : 0 ≤ b ∧ b ≤ 300) : IntKind.wrap .i64 (a - b) = a - b ∧ IntKind.wrap .i64 (a + b) = a + b := ⟨wr (by omega) (by omega), wr (by omega) (by omega)⟩
theorem tD {s : af} {c : Int} {r : ae} {o : ak} {n : Int} (hv : jb s) (hu : ∀ p ∈ r.e, tv s p) (he : r.e.length ≤ 24) (ho : okE o.elem) (hn : 1 ≤ n ∧ n ≤ 300) :
  dO r o (aH.mk s c) n = some (uP s n r.e == o.elem) ∧ lP s r.e n = some (uP s n r.e) := by
 obtain ⟨⟨q, h1, h2, h3⟩, h4⟩ := yz (c := c) hv hu hn (by omega)
 refine ⟨?_, h4⟩
 unfold dO
 rw [h1]
 simp only [Option.bind_some]
 by_cases hq : q.2 = true
 ·rw [if_pos hq, (h2 hq).1]
 ·rw [if_neg hq, h3 (by simpa using hq)]
  congr 1
  symm
  rw [beq_eq_false_iff_ne]
  unfold okE at ho
  omega
theorem CZ {s : af} {c : Int} {k o n : Int} {e : List aI} (hv : jb s) (h : kE s (ae.mk 1 k o n [] e)) :
  aO (ae.mk 1 k o n [] e) (aH.mk s c) = aE s (ae.mk 1 k o n [] e) ∧ aE s (ae.mk 1 k o n [] e) ≠ none := by
 have ho : inV s o := h.o
 rw [cw h.o (by simp) h.a]
 have go := bt hv ho
 unfold inV at ho
 simp only [aO, bf, be, bb, aV, ho, and_self, Option.bind_some, iW, cC, dV, dW, dw, jo, List.length_cons, List.length_nil, List.getD_cons_zero, List.getD_cons_succ, kV, Nat.reduceAdd, Nat.reduceLT, if_true, if_false, reduceCtorEq]
 unfold okE at *
 refine ⟨?_, ?_⟩ <;> grind
theorem C3 {s : af} {c : Int} {k o n x : Int} {e : List aI} (hv : jb s) (h : kE s (ae.mk 2 k o n [x] e)) :
  aO (ae.mk 2 k o n [x] e) (aH.mk s c) = aE s (ae.mk 2 k o n [x] e) ∧ aE s (ae.mk 2 k o n [x] e) ≠ none := by
 have ho : inV s o := h.o
 have hx : inV s x := h.a x (by simp)
 rw [cw h.o (by simp) h.a]
 have go := bt hv ho
 have gx := bt hv hx
 unfold inV at ho hx
 simp only [aO, bf, be, bb, aV, ho, hx, and_self, Option.bind_some, iW, cC, dV, dW, dw, jo, List.length_cons, List.length_nil, List.getD_cons_zero, List.getD_cons_succ, kV, Nat.reduceAdd, Nat.reduceLT, if_true, if_false, reduceCtorEq]
 unfold okE at *
 refine ⟨?_, ?_⟩ <;> grind
theorem C4 {s : af} {c : Int} {k o n x : Int} {e : List aI} (hv : jb s) (h : kE s (ae.mk 3 k o n [x] e)) :
  aO (ae.mk 3 k o n [x] e) (aH.mk s c) = aE s (ae.mk 3 k o n [x] e) ∧ aE s (ae.mk 3 k o n [x] e) ≠ none := by
 have ho : inV s o := h.o
 have hx : inV s x := h.a x (by simp)
 rw [cw h.o (by simp) h.a]
 have go := bt hv ho
 have gx := bt hv hx
 unfold inV at ho hx
 simp only [aO, bf, be, bb, aV, ho, hx, and_self, Option.bind_some, iW, cC, dV, dW, dw, jo, List.length_cons, List.length_nil, List.getD_cons_zero, List.getD_cons_succ, kV, Nat.reduceAdd, Nat.reduceLT, if_true, if_false, reduceCtorEq]
 unfold okE at *
 refine ⟨?_, ?_⟩ <;> grind
theorem C5 {s : af} {c : Int} {k o n x y : Int} {e : List aI} (hv : jb s) (h : kE s (ae.mk 4 k o n [x, y] e)) :
  aO (ae.mk 4 k o n [x, y] e) (aH.mk s c) = aE s (ae.mk 4 k o n [x, y] e) ∧ aE s (ae.mk 4 k o n [x, y] e) ≠ none := by
 have ho : inV s o := h.o
 have hx : inV s x := h.a x (by simp)
 have hy : inV s y := h.a y (by simp)
 rw [cw h.o (by simp) h.a]
 have go := bt hv ho
 have gx := bt hv hx
 have gy := bt hv hy
 have hs := AB (s := s) (c := c) (l := [x, y]) (by simp) (by simp) h.a
 simp only [List.getD_cons_zero, List.all_cons, List.all_nil, Bool.and_true] at hs
 unfold inV at ho hx hy
 simp only [aO, bf, be, bb, aV, ho, hx, hy, and_self, Option.bind_some, iW, cC, dV, dW, dw, jo, List.length_cons, List.length_nil, List.getD_cons_zero, List.getD_cons_succ, kV, Nat.reduceAdd, Nat.reduceLT, if_true, if_false, reduceCtorEq, hs]
 unfold pw
 unfold okE at *
 refine ⟨?_, ?_⟩ <;> grind
theorem C6 {s : af} {c : Int} {k o n x y z : Int} {e : List aI} (hv : jb s) (h : kE s (ae.mk 5 k o n [x, y, z] e)) :
  aO (ae.mk 5 k o n [x, y, z] e) (aH.mk s c) = aE s (ae.mk 5 k o n [x, y, z] e) ∧ aE s (ae.mk 5 k o n [x, y, z] e) ≠ none := by
 have ho : inV s o := h.o
 have hx : inV s x := h.a x (by simp)
 have hy : inV s y := h.a y (by simp)
 have hz : inV s z := h.a z (by simp)
 rw [cw h.o (by simp) h.a]
 have go := bt hv ho
 have gx := bt hv hx
 have gy := bt hv hy
 have gz := bt hv hz
 have hs := wk (s := s) (c := c) (l := [y, z, o]) (by simp) (by simp) (by intro w hw; simp at hw; rcases hw with rfl | rfl | rfl <;> assumption)
 simp only [List.getD_cons_zero, List.all_cons, List.all_nil, Bool.and_true] at hs
 unfold inV at ho hx hy hz
 simp only [aO, bf, be, bb, aV, ho, hx, hy, hz, and_self, Option.bind_some, iW, cC, dV, dW, dw, jo, List.length_cons, List.length_nil, List.getD_cons_zero, List.getD_cons_succ, kV, Nat.reduceAdd, Nat.reduceLT, if_true, if_false, reduceCtorEq, hs, lit]
 unfold pw
 unfold okE at *
 refine ⟨?_, ?_⟩ <;> grind
theorem C7 {s : af} {c : Int} {k o n x y : Int} {e : List aI} (hv : jb s) (h : kE s (ae.mk 6 k o n [x, y] e)) :
  aO (ae.mk 6 k o n [x, y] e) (aH.mk s c) = aE s (ae.mk 6 k o n [x, y] e) ∧ aE s (ae.mk 6 k o n [x, y] e) ≠ none := by
 have ho : inV s o := h.o
 have hx : inV s x := h.a x (by simp)
 have hy : inV s y := h.a y (by simp)
 rw [cw h.o (by simp) h.a]
 have go := bt hv ho
 have gx := bt hv hx
 have gy := bt hv hy
 unfold inV at ho hx hy
 simp only [aO, bf, be, bb, aV, ho, hx, hy, and_self, Option.bind_some, iW, cC, dV, dW, dw, jo, List.length_cons, List.length_nil, List.getD_cons_zero, List.getD_cons_succ, kV, Nat.reduceAdd, Nat.reduceLT, if_true, if_false, reduceCtorEq]
 unfold okE at *
 refine ⟨?_, ?_⟩ <;> grind
theorem C8 {s : af} {c : Int} {k o n x y : Int} {e : List aI} (hv : jb s) (h : kE s (ae.mk 7 k o n [x, y] e)) :
  aO (ae.mk 7 k o n [x, y] e) (aH.mk s c) = aE s (ae.mk 7 k o n [x, y] e) ∧ aE s (ae.mk 7 k o n [x, y] e) ≠ none := by
 have ho : inV s o := h.o
 have hx : inV s x := h.a x (by simp)
 have hy : inV s y := h.a y (by simp)
 rw [cw h.o (by simp) h.a]
 have go := bt hv ho
 have gx := bt hv hx
 have gy := bt hv hy
 unfold inV at ho hx hy
 simp only [aO, bf, be, bb, aV, ho, hx, hy, and_self, Option.bind_some, iW, cC, dV, dW, dw, jo, List.length_cons, List.length_nil, List.getD_cons_zero, List.getD_cons_succ, kV, Nat.reduceAdd, Nat.reduceLT, if_true, if_false, reduceCtorEq]
 unfold okE at *
 refine ⟨?_, ?_⟩ <;> grind
theorem C9 {s : af} {c : Int} {k o n x : Int} {e : List aI} (hv : jb s) (h : kE s (ae.mk 8 k o n [x] e)) :
  aO (ae.mk 8 k o n [x] e) (aH.mk s c) = aE s (ae.mk 8 k o n [x] e) ∧ aE s (ae.mk 8 k o n [x] e) ≠ none := by
 have ho : inV s o := h.o
 have hx : inV s x := h.a x (by simp)
 rw [cw h.o (by simp) h.a]
 have go := bt hv ho
 have gx := bt hv hx
 unfold inV at ho hx
 simp only [aO, bf, be, bb, aV, ho, hx, and_self, Option.bind_some, iW, cC, dV, dW, dw, jo, List.length_cons, List.length_nil, List.getD_cons_zero, List.getD_cons_succ, kV, Nat.reduceAdd, Nat.reduceLT, if_true, if_false, reduceCtorEq]
 unfold okE at *
 refine ⟨?_, ?_⟩ <;> grind
theorem Da {s : af} {c : Int} {k o n x y z : Int} {e : List aI} (hv : jb s) (h : kE s (ae.mk 9 k o n [x, y, z] e)) :
  aO (ae.mk 9 k o n [x, y, z] e) (aH.mk s c) = aE s (ae.mk 9 k o n [x, y, z] e) ∧ aE s (ae.mk 9 k o n [x, y, z] e) ≠ none := by
 have ho : inV s o := h.o
 have hx : inV s x := h.a x (by simp)
 have hy : inV s y := h.a y (by simp)
 have hz : inV s z := h.a z (by simp)
 rw [cw h.o (by simp) h.a]
 have go := bt hv ho
 have gx := bt hv hx
 have gy := bt hv hy
 have gz := bt hv hz
 have he := xR (c := c) hx
 unfold inV at ho hx hy hz
 simp only [aO, bf, be, bb, aV, ho, hx, hy, hz, and_self, Option.bind_some, iW, cC, dV, dW, dw, jo, List.length_cons, List.length_nil, List.getD_cons_zero, List.getD_cons_succ, kV, Nat.reduceAdd, Nat.reduceLT, if_true, if_false, reduceCtorEq, he]
 unfold okE at *
 refine ⟨?_, ?_⟩ <;> grind
theorem Cz {s : af} {c : Int} {k o n x y z : Int} {e : List aI} (hv : jb s) (h : kE s (ae.mk 10 k o n [x, y, z] e)) :
  aO (ae.mk 10 k o n [x, y, z] e) (aH.mk s c) = aE s (ae.mk 10 k o n [x, y, z] e) ∧ aE s (ae.mk 10 k o n [x, y, z] e) ≠ none := by
 have ho : inV s o := h.o
 have hx : inV s x := h.a x (by simp)
 have hy : inV s y := h.a y (by simp)
 have hz : inV s z := h.a z (by simp)
 rw [cw h.o (by simp) h.a]
 have go := bt hv ho
 have gx := bt hv hx
 have gy := bt hv hy
 have gz := bt hv hz
 have he := xR (c := c) hx
 unfold inV at ho hx hy hz
 simp only [aO, bf, be, bb, aV, ho, hx, hy, hz, and_self, Option.bind_some, iW, cC, dV, dW, dw, jo, List.length_cons, List.length_nil, List.getD_cons_zero, List.getD_cons_succ, kV, Nat.reduceAdd, Nat.reduceLT, if_true, if_false, reduceCtorEq, he]
 unfold okE at *
 refine ⟨?_, ?_⟩ <;> grind
theorem CA {s : af} {c : Int} {k o n x : Int} {e : List aI} (hv : jb s) (h : kE s (ae.mk 11 k o n [x] e)) :
  aO (ae.mk 11 k o n [x] e) (aH.mk s c) = aE s (ae.mk 11 k o n [x] e) ∧ aE s (ae.mk 11 k o n [x] e) ≠ none := by
 have ho : inV s o := h.o
 have hx : inV s x := h.a x (by simp)
 rw [cw h.o (by simp) h.a]
 have go := bt hv ho
 have gx := bt hv hx
 have hw := (wrd gx.2 go.2).1
 unfold inV at ho hx
 simp only [aO, bf, be, bb, aV, ho, hx, and_self, Option.bind_some, iW, cC, dV, dW, dw, jo, List.length_cons, List.length_nil, List.getD_cons_zero, List.getD_cons_succ, kV, Nat.reduceAdd, Nat.reduceLT, if_true, if_false, reduceCtorEq, hw]
 unfold okE at *
 by_cases hle : (vOf s o).n ≤ (vOf s x).n
 ·refine ⟨?_, ?_⟩ <;> grind
 ·by_cases hn0 : n ≥ 0
  ·have hd : decide (n ≤ (vOf s x).n - (vOf s o).n) = false := by simp; omega
   simp only [hd]
   refine ⟨?_, ?_⟩ <;> grind
  ·refine ⟨?_, ?_⟩ <;> grind
theorem CB {s : af} {c : Int} {k o n x y : Int} {e : List aI} (hv : jb s) (h : kE s (ae.mk 12 k o n [x, y] e)) :
  aO (ae.mk 12 k o n [x, y] e) (aH.mk s c) = aE s (ae.mk 12 k o n [x, y] e) ∧ aE s (ae.mk 12 k o n [x, y] e) ≠ none := by
 have ho : inV s o := h.o
 have hx : inV s x := h.a x (by simp)
 have hy : inV s y := h.a y (by simp)
 rw [cw h.o (by simp) h.a]
 have go := bt hv ho
 have gx := bt hv hx
 have gy := bt hv hy
 have hw := (wrd gx.2 gy.2).2
 unfold inV at ho hx hy
 simp only [aO, bf, be, bb, aV, ho, hx, hy, and_self, Option.bind_some, iW, cC, dV, dW, dw, jo, List.length_cons, List.length_nil, List.getD_cons_zero, List.getD_cons_succ, kV, Nat.reduceAdd, Nat.reduceLT, if_true, if_false, reduceCtorEq, hw]
 unfold okE at *
 refine ⟨?_, ?_⟩ <;> grind
theorem CC {s : af} {c : Int} {k o n x y : Int} {e : List aI} (hv : jb s) (h : kE s (ae.mk 13 k o n [x, y] e)) :
  aO (ae.mk 13 k o n [x, y] e) (aH.mk s c) = aE s (ae.mk 13 k o n [x, y] e) ∧ aE s (ae.mk 13 k o n [x, y] e) ≠ none := by
 have ho : inV s o := h.o
 have hx : inV s x := h.a x (by simp)
 have hy : inV s y := h.a y (by simp)
 rw [cw h.o (by simp) h.a]
 have go := bt hv ho
 have gx := bt hv hx
 have gy := bt hv hy
 have hs := wk (s := s) (c := c) (l := [x, y, o]) (by simp) (by simp) (by intro w hw; simp at hw; rcases hw with rfl | rfl | rfl <;> assumption)
 simp only [List.getD_cons_zero, List.all_cons, List.all_nil, Bool.and_true] at hs
 unfold inV at ho hx hy
 simp only [aO, bf, be, bb, aV, ho, hx, hy, and_self, Option.bind_some, iW, cC, dV, dW, dw, jo, List.length_cons, List.length_nil, List.getD_cons_zero, List.getD_cons_succ, kV, Nat.reduceAdd, Nat.reduceLT, if_true, if_false, reduceCtorEq, hs, lit]
 unfold pw
 unfold okE at *
 refine ⟨?_, ?_⟩ <;> grind
theorem CD {s : af} {c : Int} {k o n : Int} {e : List aI} (hv : jb s) (h : kE s (ae.mk 14 k o n [] e)) :
  aO (ae.mk 14 k o n [] e) (aH.mk s c) = aE s (ae.mk 14 k o n [] e) ∧ aE s (ae.mk 14 k o n [] e) ≠ none := by
 have ho : inV s o := h.o
 rw [cw h.o (by simp) h.a]
 have go := bt hv ho
 have hc := tD (c := c) (r := ae.mk 14 k o n [] e) (o := vOf s o) (n := fG (vOf s o).n) hv (h.u (by simp)) h.e go.1 (by unfold fG; split <;> omega)
 unfold inV at ho
 simp only [aO, bf, be, bb, aV, ho, and_self, Option.bind_some, iW, cC, dV, dW, dw, jo, List.length_cons, List.length_nil, List.getD_cons_zero, List.getD_cons_succ, kV, Nat.reduceAdd, Nat.reduceLT, if_true, if_false, reduceCtorEq, hZ, cK, jH, AC]
 simp only [hc.1, hc.2]
 refine ⟨?_, ?_⟩ <;> grind
theorem CE {s : af} {c : Int} {k o n x : Int} {e : List aI} (hv : jb s) (h : kE s (ae.mk 15 k o n [x] e)) :
  aO (ae.mk 15 k o n [x] e) (aH.mk s c) = aE s (ae.mk 15 k o n [x] e) ∧ aE s (ae.mk 15 k o n [x] e) ≠ none := by
 have ho : inV s o := h.o
 have hx : inV s x := h.a x (by simp)
 rw [cw h.o (by simp) h.a]
 have go := bt hv ho
 have gx := bt hv hx
 have hc := fun (hn : 1 ≤ n ∧ n ≤ 300) => tD (c := c) (r := ae.mk 15 k o n [x] e) (o := vOf s o) (n := n) hv (h.u (by simp)) h.e go.1 hn
 unfold inV at ho hx
 simp only [aO, bf, be, bb, aV, ho, hx, and_self, Option.bind_some, iW, cC, dV, dW, dw, jo, List.length_cons, List.length_nil, List.getD_cons_zero, List.getD_cons_succ, kV, Nat.reduceAdd, Nat.reduceLT, if_true, if_false, reduceCtorEq, hZ, cK, jH, AC]
 by_cases hn : 1 ≤ n ∧ n ≤ 300
 ·simp only [(hc hn).1, (hc hn).2, Option.bind_some]
  unfold okE at *
  refine ⟨?_, ?_⟩ <;> grind
 ·unfold okE at *
  refine ⟨?_, ?_⟩ <;> grind
theorem CF {s : af} {c : Int} {k o n x : Int} {e : List aI} (hv : jb s) (h : kE s (ae.mk 16 k o n [x] e)) :
  aO (ae.mk 16 k o n [x] e) (aH.mk s c) = aE s (ae.mk 16 k o n [x] e) ∧ aE s (ae.mk 16 k o n [x] e) ≠ none := by
 have ho : inV s o := h.o
 have hx : inV s x := h.a x (by simp)
 rw [cw h.o (by simp) h.a]
 have go := bt hv ho
 have gx := bt hv hx
 have hc := fun (hn : 1 ≤ (vOf s o).n) => tD (c := c) (r := ae.mk 16 k o n [x] e) (o := vOf s o) (n := (vOf s o).n) hv (h.u (by simp)) h.e go.1 ⟨hn, go.2.2⟩
 unfold inV at ho hx
 simp only [aO, bf, be, bb, aV, ho, hx, and_self, Option.bind_some, iW, cC, dV, dW, dw, jo, List.length_cons, List.length_nil, List.getD_cons_zero, List.getD_cons_succ, kV, Nat.reduceAdd, Nat.reduceLT, if_true, if_false, reduceCtorEq, hZ, cK, jH, AC]
 by_cases hn : 1 ≤ (vOf s o).n
 ·have hcv : fG (vOf s o).n = (vOf s o).n := by unfold fG; rw [if_neg (by omega)]
  simp only [hcv, (hc hn).1, (hc hn).2, Option.bind_some]
  unfold okE at *
  refine ⟨?_, ?_⟩ <;> grind
 ·unfold okE at *
  refine ⟨?_, ?_⟩ <;> grind
end Pam

namespace Pam
open Go
theorem uv (l : List Int) : ∀ (a : List Int) (x : Int), x ∈ l.foldl ins a ↔ x ∈ a ∨ x ∈ l := by
 induction l with
 | nil => intro a x; simp
 | cons y l ih => intro a x; rw [List.foldl_cons, ih, vy]; simp; grind
theorem yB (e : List aI) : ∀ (a : List Int) (x : Int), x ∈ e.foldl (fun l p => if nmd p then l ++ [p.v] else l) a ↔ x ∈ a ∨ ∃ p ∈ e, nmd p = true ∧ p.v = x := by
 induction e with
 | nil => intro a x; simp
 | cons p e ih =>
  intro a x
  rw [List.foldl_cons, ih]
  by_cases h : nmd p = true
  ·rw [if_pos h]; simp; grind
  ·rw [if_neg h]; simp; grind
theorem oE (a : List Int) (e : List aI) (x : Int) : x ∈ kW a e ↔ x ∈ a ∨ ∃ p ∈ e, nmd p = true ∧ p.v = x := by
 unfold kW
 rw [uv, yB]
 simp
theorem AF (p : aI) : nmd p = true ↔ (p.op = 2 ∨ p.op = 3 ∨ p.op = 8) := by unfold nmd; simp; grind
def cG (r : ae) : List Int := if r.op < 14 then kW r.a [] else kW r.a r.e
theorem sw {r : ae} {x : Int} (h : x ∈ r.a) : x ∈ cG r := by
 unfold cG
 split <;> (rw [oE]; exact .inl h)
theorem AG {s : af} {r : ae} (h : ∀ x ∈ cG r, inV s x) (ho : 14 ≤ r.op) : ∀ p ∈ r.e, tv s p := by
 intro p hp hn
 refine h _ ?_
 unfold cG
 rw [if_neg (by omega), oE]
 exact .inr ⟨p, hp, (AF p).2 hn, rfl⟩
def cd (op : Int) : Int := if 1 ≤ op ∧ op ≤ 16 then ([0,0,1,1,2,3,2,2,1,3,3,1,2,2,0,1,1] : List Int).getD op.toNat 0 else -1
noncomputable def jc (s : af) (mk : List Int) (r : ae) : Int :=
 if ¬ inV s r.out_ then 16
 else if mk.contains r.out_ then 8
 else if cd r.op < 0 ∨ ¬ (r.a.length : Int) = cd r.op then 4
 else if (r.e.length : Int) > 24 then 7
 else if ∃ x ∈ cG r, ¬ inV s x then 16
 else if aE s r = some true then 0 else 10
def bz (s : af) (i : Nat) : List Int := s.in_ ++ (s.rules.take i).map (fun r => r.out_)
theorem tF (s : af) {i : Nat} (h : i < s.rules.length) : bz s (i + 1) = bz s i ++ [(s.rules.getD i default).out_] := by
 unfold bz
 rw [bD _ h, List.map_append, List.append_assoc]
 rfl
def bg (s : af) (l : List Int) : List Bool := (List.range s.vars.length).map (fun (v : Nat) => decide ((v : Int) ∈ l))
theorem dX (s : af) (l : List Int) : (bg s l).length = s.vars.length := by unfold bg; simp
theorem uS {s : af} {l : List Int} {v : Int} (h : inV s v) : (bg s l).getD v.toNat default = l.contains v := by
 unfold inV at h
 unfold bg
 have : v.toNat < s.vars.length := by omega
 have e : ((v.toNat : Nat) : Int) = v := by omega
 simp [List.getD, this, e]
theorem mC {s : af} {l : List Int} {v : Int} (h : inV s v) : (bg s l).set v.toNat true = bg s (l ++ [v]) := by
 unfold inV at h
 have e : ((v.toNat : Nat) : Int) = v := by omega
 apply List.ext_getElem
 ·simp [dX]
 ·intro i h1 h2
  have hi : i < s.vars.length := by simpa [dX] using h2
  rw [List.getElem_set]
  unfold bg
  simp only [List.getElem_map, List.getElem_range, List.mem_append, List.mem_singleton]
  split
  ·rename_i h3
   subst h3
   rw [e]; simp
  ·rename_i h3
   have : ¬ (i : Int) = v := by omega
   simp [this]
noncomputable def jI (s : af) (i : Nat) : Option au :=
 let c := jc s (bz s i) (s.rules.getD i default)
 if c = 0 then none else some (au.mk c (i : Int))
noncomputable def lg (s : af) (i : Nat) : Option au :=
 if ∃ x ∈ cG (s.rules.getD i default), ¬ x ∈ bz s s.rules.length then some (au.mk 9 (i : Int)) else none
def qG (s : af) (i : Nat) : Option au :=
 if s.out_.getD i default ∈ bz s s.rules.length then none else some (au.mk 9 (-1))
noncomputable def cD (s : af) : au :=
 if ¬ (lT s).code = 0 then lT s
 else match d2 s.rules.length (jI s) () with
  | .inr z => z
  | .inl _ => match d2 s.rules.length (lg s) () with
   | .inr z => z
   | .inl _ => match d2 s.out_.length (qG s) () with
    | .inr z => z
    | .inl _ => au.mk 0 0
end Pam

namespace Pam
open Go
theorem wm {s : af} {c : Int} {r : ae} (hv : jb s) (h : kE s r) (hp : ¬ cd r.op < 0) (hl : (r.a.length : Int) = cd r.op) :
  aO r (aH.mk s c) = aE s r ∧ aE s r ≠ none := by
 obtain ⟨op, k, o, n, a, e⟩ := r
 simp only at hp hl
 have hop : 1 ≤ op ∧ op ≤ 16 := by
  by_cases hc : 1 ≤ op ∧ op ≤ 16
  ·exact hc
  ·unfold cd at hp; rw [if_neg hc] at hp; omega
 have hcs : op = 1 ∨ op = 2 ∨ op = 3 ∨ op = 4 ∨ op = 5 ∨ op = 6 ∨ op = 7 ∨ op = 8 ∨ op = 9 ∨ op = 10 ∨ op = 11 ∨ op = 12 ∨ op = 13 ∨ op = 14 ∨ op = 15 ∨ op = 16 := by omega
 rcases hcs with rfl | rfl | rfl | rfl | rfl | rfl | rfl | rfl | rfl | rfl | rfl | rfl | rfl | rfl | rfl | rfl
 ·have hl' : a.length = 0 := by simpa [cd] using hl
  match a, hl' with | [], _ => exact CZ hv h
 ·have hl' : a.length = 1 := by simp [cd] at hl; omega
  match a, hl' with | [x], _ => exact C3 hv h
 ·have hl' : a.length = 1 := by simp [cd] at hl; omega
  match a, hl' with | [x], _ => exact C4 hv h
 ·have hl' : a.length = 2 := by simp [cd] at hl; omega
  match a, hl' with | [x, y], _ => exact C5 hv h
 ·have hl' : a.length = 3 := by simp [cd] at hl; omega
  match a, hl' with | [x, y, z], _ => exact C6 hv h
 ·have hl' : a.length = 2 := by simp [cd] at hl; omega
  match a, hl' with | [x, y], _ => exact C7 hv h
 ·have hl' : a.length = 2 := by simp [cd] at hl; omega
  match a, hl' with | [x, y], _ => exact C8 hv h
 ·have hl' : a.length = 1 := by simp [cd] at hl; omega
  match a, hl' with | [x], _ => exact C9 hv h
 ·have hl' : a.length = 3 := by simp [cd] at hl; omega
  match a, hl' with | [x, y, z], _ => exact Da hv h
 ·have hl' : a.length = 3 := by simp [cd] at hl; omega
  match a, hl' with | [x, y, z], _ => exact Cz hv h
 ·have hl' : a.length = 1 := by simp [cd] at hl; omega
  match a, hl' with | [x], _ => exact CA hv h
 ·have hl' : a.length = 2 := by simp [cd] at hl; omega
  match a, hl' with | [x, y], _ => exact CB hv h
 ·have hl' : a.length = 2 := by simp [cd] at hl; omega
  match a, hl' with | [x, y], _ => exact CC hv h
 ·have hl' : a.length = 0 := by simpa [cd] using hl
  match a, hl' with | [], _ => exact CD hv h
 ·have hl' : a.length = 1 := by simp [cd] at hl; omega
  match a, hl' with | [x], _ => exact CE hv h
 ·have hl' : a.length = 1 := by simp [cd] at hl; omega
  match a, hl' with | [x], _ => exact CF hv h
theorem rO (op : Int) : cd op ≤ 3 := by
 unfold cd
 split
 ·rename_i h
  have hcs : op = 1 ∨ op = 2 ∨ op = 3 ∨ op = 4 ∨ op = 5 ∨ op = 6 ∨ op = 7 ∨ op = 8 ∨ op = 9 ∨ op = 10 ∨ op = 11 ∨ op = 12 ∨ op = 13 ∨ op = 14 ∨ op = 15 ∨ op = 16 := by omega
  rcases hcs with rfl | rfl | rfl | rfl | rfl | rfl | rfl | rfl | rfl | rfl | rfl | rfl | rfl | rfl | rfl | rfl <;> decide
 ·decide
theorem wn (op : Int) : mA op = some (cd op) := by
 unfold mA cd
 by_cases h : 1 ≤ op ∧ op ≤ 16
 ·rw [if_neg (by omega), if_neg (by omega), if_pos (by omega), if_pos h]; rfl
 ·rw [if_neg h]
  by_cases h1 : op < 1
  ·rw [if_pos h1]
  ·rw [if_neg h1, if_pos (by omega)]
theorem wo (op : Int) : ky op = some (cd op) := by
 unfold ky cd
 by_cases h : 1 ≤ op ∧ op ≤ 16
 ·rw [if_neg (by omega), if_neg (by omega), if_pos (by omega), if_pos h]
  have hcs : op = 1 ∨ op = 2 ∨ op = 3 ∨ op = 4 ∨ op = 5 ∨ op = 6 ∨ op = 7 ∨ op = 8 ∨ op = 9 ∨ op = 10 ∨ op = 11 ∨ op = 12 ∨ op = 13 ∨ op = 14 ∨ op = 15 ∨ op = 16 := by omega
  rcases hcs with rfl | rfl | rfl | rfl | rfl | rfl | rfl | rfl | rfl | rfl | rfl | rfl | rfl | rfl | rfl | rfl <;> rfl
 ·rw [if_neg h]
  by_cases h1 : op < 0
  ·rw [if_pos h1]
  ·rw [if_neg h1]
   by_cases h2 : op ≥ 17
   ·rw [if_pos h2]
   ·rw [if_neg h2]
    have : op = 0 := by omega
    subst this
    rfl
theorem AH (b : Bool) (c k : Int) (s : af) : bK b c (aH.mk s k) = some (if b = true ∧ k = 0 then c else k) := by
 unfold bK
 cases b
 ·simp
 ·by_cases h : k = 0 <;> simp [h]
theorem tG (b : Bool) (c : Int) (s : af) : bK b c (aH.mk s 0) = some (if b = true then c else 0) := by
 unfold bK
 cases b <;> rfl
theorem tH {b : Bool} {c k : Int} {s : af} (h : k ≠ 0) : bK b c (aH.mk s k) = some k := by
 unfold bK
 cases b
 ·rfl
 ·simp [h]
theorem xd {s : af} {r : ae} {c x : Int} (h : x ≠ 0) : cX r (aH.mk s c) x = some (x, x) := by
 unfold cX
 rw [tH h]
 simp only [Option.bind_some]
 rw [if_pos h]
theorem zw {s : af} {r : ae} {c x : Int} (h : x ≠ 0) : cY r (aH.mk s c) x = some (x, x) := by
 unfold cY
 rw [wn]
 simp only [Option.bind_some, tH h]
 rw [xd h]
 split <;> rfl
theorem xe (s : af) (l : List Int) : ∀ a : Int, l.foldl (fun a x => if ¬ inV s x ∧ a = 0 then 16 else a) a = if (∃ x ∈ l, ¬ inV s x) ∧ a = 0 then 16 else a := by
 induction l with
 | nil => intro a; simp
 | cons y l ih =>
  intro a
  rw [List.foldl_cons, ih]
  by_cases ha : a = 0
  ·subst ha
   by_cases hy : inV s y
   ·simp [hy]
   ·simp [hy]
  ·simp [ha]
theorem xf {s : af} {c : Int} {l : List Int} (hl : l.length ≤ 1000) :
  aT (fun (x : Int × Int) => cl (aH.mk s c) l x.1 x.2) (0, 0) = some (if ∃ x ∈ l, ¬ inV s x then 16 else 0) := by
 obtain ⟨h1, _⟩ := lz (A := Int) (T := Int) (O := Int) (S := Int × Int) (fun a i => (a, i)) (body := fun x => cl (aH.mk s c) l x.1 x.2) l (fun a x => if ¬ inV s x ∧ a = 0 then 16 else a)
  (fun _ _ => True) (fun a => a) 0 trivial
  (by
   intro i a hi _
   refine ⟨?_, trivial⟩
   show cl (aH.mk s c) l a (i : Int) = _
   unfold cl
   rw [if_pos (ltI hi), if_pos (inI hi)]
   simp only [Int.toNat_natCast]
   rw [vw]
   simp only [Option.bind_some, AH]
   rw [wrs i (by omega)]
   have : ((!decide (0 ≤ l.getD i default ∧ l.getD i default < (s.vars.length : Int))) = true ∧ a = 0) ↔ (¬ inV s (l.getD i default) ∧ a = 0) := by unfold inV; simp; omega
   simp only [this])
  (by
   intro a _
   show cl (aH.mk s c) l a (l.length : Int) = _
   unfold cl
   rw [if_neg (aX _)])
 rw [xe] at h1
 rw [h1]
 simp
theorem oF (a : List Int) (e : List aI) : (kW a e).length ≤ a.length + e.length := by
 have k : ∀ (e : List aI) (a : List Int), (e.foldl (fun l p => if nmd p then l ++ [p.v] else l) a).length ≤ a.length + e.length := by
  intro e
  induction e with
  | nil => intro a; simp
  | cons p e ih =>
   intro a
   rw [List.foldl_cons]
   have := ih (if nmd p then a ++ [p.v] else a)
   have h2 : (if nmd p then a ++ [p.v] else a).length ≤ a.length + 1 := by split <;> simp
   simp only [List.length_cons]
   omega
 unfold kW
 have := uu (e.foldl (fun l p => if nmd p then l ++ [p.v] else l) a) []
 have := k e a
 simp at *
 omega
theorem tI {s : af} {r : ae} (h1 : inV s r.out_) (h2 : ¬ (r.e.length : Int) > 24) (h3 : ¬ ∃ x ∈ cG r, ¬ inV s x) : kE s r := by
 have h4 : ∀ x ∈ cG r, inV s x := fun x hx => Classical.byContradiction (fun hc => h3 ⟨x, hx, hc⟩)
 exact ⟨h1, fun x hx => h4 x (sw hx), fun ho => AG h4 ho, by omega⟩
theorem AI {s : af} {c : Int} {r : ae} {l : List Int} (hv : jb s) : jE r (aH.mk s c) (bg s l) = some (jc s l r, jc s l r) := by
 unfold jE jc
 rw [vw]
 simp only [Option.bind_some, tG]
 by_cases h1 : inV s r.out_
 ·have h1' : 0 ≤ r.out_ ∧ r.out_ < (s.vars.length : Int) := h1
  simp only [h1', and_self, decide_true, Bool.not_true, Bool.false_eq_true, if_false, if_true, dX, uS h1, not_true_eq_false, h1]
  rw [tG]
  simp only [Option.bind_some]
  by_cases h2 : l.contains r.out_ = true
  ·rw [if_pos h2, if_pos h2, zw (by decide)]
  ·rw [if_neg h2, if_neg h2]
   unfold cY
   rw [wn]
   simp only [Option.bind_some, tG]
   by_cases h3 : cd r.op < 0
   ·rw [if_pos h3, if_pos trivial, if_pos (.inl h3), xd (by decide)]
   ·rw [if_neg h3]
    by_cases h4 : (r.a.length : Int) = cd r.op
    ·rw [if_neg (by simpa using h4), if_neg (fun hc => hc.elim h3 (fun h => h h4))]
     unfold cX
     rw [tG]
     simp only [Option.bind_some]
     by_cases h5 : (r.e.length : Int) > 24
     ·have e5 : decide ((r.e.length : Int) > 24) = true := by simpa using h5
      simp only [e5, if_true]
      rw [if_pos (by decide), if_pos h5]
     ·have e5 : decide ((r.e.length : Int) > 24) = false := by simpa using h5
      simp only [e5, Bool.false_eq_true, if_false, not_true_eq_false]
      rw [if_neg h5]
      have hle := rO r.op
      have hj : ∀ l' : List Int, (∀ x, x ∈ l' ↔ x ∈ cG r) → l'.length ≤ 1000 → dP r (aH.mk s c) 0 l' =
        some (if ∃ x ∈ cG r, ¬ inV s x then 16 else if aE s r = some true then 0 else 10, if ∃ x ∈ cG r, ¬ inV s x then 16 else if aE s r = some true then 0 else 10) := by
       intro l' hm hl
       unfold dP
       show (aT (fun (x : Int × Int) => cl (aH.mk s c) l' x.1 x.2) (0, 0)).bind _ = _
       rw [xf hl]
       simp only [Option.bind_some, hm]
       unfold eU
       by_cases h6 : ∃ x ∈ cG r, ¬ inV s x
       ·simp only [if_pos h6]
        rw [if_neg (by decide)]
       ·simp only [if_neg h6]
        rw [if_pos trivial]
        obtain ⟨f1, f2⟩ := wm (c := 0) hv (tI h1 h5 h6) h3 h4
        simp only [tG]
        rw [f1]
        cases hf : aE s r with
        | none => exact absurd hf f2
        | some b => cases b <;> simp
      by_cases h7 : r.op ≥ 14
      ·rw [if_pos h7, oD _ (by omega) (by omega)]
       simp only [Option.bind_some]
       have hu : cG r = kW r.a r.e := by unfold cG; rw [if_neg (by omega)]
       have := oF r.a r.e
       exact hj _ (fun x => by rw [hu]) (by omega)
      ·rw [if_neg h7]
       have hu : cG r = kW r.a [] := by unfold cG; rw [if_pos (by omega)]
       exact hj _ (fun x => by rw [hu, oE]; simp) (by omega)
    ·rw [if_pos (by simpa using h4), if_pos (.inr h4), xd (by decide)]
 ·have h1' : ¬ (0 ≤ r.out_ ∧ r.out_ < (s.vars.length : Int)) := h1
  simp only [h1', decide_false, Bool.not_false, if_true, h1, not_false_eq_true]
  rw [if_neg (by decide), tH (by decide)]
  simp only [Option.bind_some]
  rw [zw (by decide)]
end Pam

namespace Pam
open Go
theorem py {T Z : Type} (l : List Int) (p : Int → Prop) [DecidablePred p] (z : Z) (t : T) :
  d2 l.length (fun k => if p (l.getD k default) then none else some z) t = if ∃ x ∈ l, ¬ p x then .inr z else .inl t := by
 rcases cO l.length (fun k => if p (l.getD k default) then none else some z) t with ⟨e, h⟩ | ⟨j, z', hj, hf, e⟩
 ·rw [e, if_neg]
  rintro ⟨x, hx, hp⟩
  obtain ⟨i, hi, rfl⟩ := List.mem_iff_getElem.1 hx
  have := h i hi
  have e2 : l.getD i default = l[i] := by simp [List.getD, hi]
  simp only [e2, if_neg hp] at this
  cases this
 ·rw [e, if_pos]
  ·split at hf
   ·cases hf
   ·simp only [Option.some.injEq] at hf; rw [hf]
  ·split at hf
   ·cases hf
   ·rename_i hp; exact ⟨_, bi hj, hp⟩
theorem xg (a b : Int) : fB a b = some (au.mk a b) := by unfold fB; rfl
structure lV (s : af) : Prop where
 v : jb s
 nv : s.vars.length ≤ 400
 nr : s.rules.length ≤ 400
 ni : s.in_.length ≤ 400
 no : s.out_.length ≤ 400
 i : ∀ x ∈ s.in_, inV s x
 o : ∀ x ∈ s.out_, inV s x
theorem rP {s : af} (h : (lT s).code = 0) : lV s := by
 unfold lT at h
 split at h
 ·cases h
 ·rename_i hl
  rcases cO s.vars.length (rM s) () with ⟨e1, h1⟩ | ⟨j, z, hj, hf, e⟩
  ·rw [e1] at h
   rcases cO s.in_.length (inF s) () with ⟨e2, h2⟩ | ⟨j, z, hj, hf, e⟩
   ·simp only [e2] at h
    rcases cO s.out_.length (qf s) () with ⟨e3, h3⟩ | ⟨j, z, hj, hf, e⟩
    ·refine ⟨⟨fun v hv => ?_, fun v hv => ?_⟩, by omega, by omega, by omega, by omega, fun x hx => ?_, fun x hx => ?_⟩
     ·obtain ⟨i, hi, rfl⟩ := List.mem_iff_getElem.1 hv
      have := h1 i hi
      have e2 : s.vars.getD i default = s.vars[i] := by simp [List.getD, hi]
      unfold rM yx at this
      rw [e2] at this
      split at this
      ·cases this
      ·unfold okE; omega
     ·obtain ⟨i, hi, rfl⟩ := List.mem_iff_getElem.1 hv
      have := h1 i hi
      have e2 : s.vars.getD i default = s.vars[i] := by simp [List.getD, hi]
      unfold rM yx at this
      rw [e2] at this
      split at this
      ·cases this
      ·split at this
       ·cases this
       ·omega
     ·obtain ⟨i, hi, rfl⟩ := List.mem_iff_getElem.1 hx
      have := h2 i hi
      have e2 : s.in_.getD i default = s.in_[i] := by simp [List.getD, hi]
      unfold inF at this
      rw [e2] at this
      by_cases hh : inV s s.in_[i]
      ·exact hh
      ·rw [if_pos hh] at this; cases this
     ·obtain ⟨i, hi, rfl⟩ := List.mem_iff_getElem.1 hx
      have := h3 i hi
      have e2 : s.out_.getD i default = s.out_[i] := by simp [List.getD, hi]
      unfold qf at this
      rw [e2] at this
      by_cases hh : inV s s.out_[i]
      ·exact hh
      ·rw [if_pos hh] at this; cases this
    ·simp only [e] at h
     unfold qf at hf
     split at hf
     ·simp only [Option.some.injEq] at hf; subst hf; cases h
     ·cases hf
   ·simp only [e] at h
    unfold inF at hf
    split at hf
    ·simp only [Option.some.injEq] at hf; subst hf; cases h
    ·split at hf
     ·simp only [Option.some.injEq] at hf; subst hf; cases h
     ·cases hf
  ·simp only [e] at h
   unfold rM yx at hf
   split at hf
   ·simp only [Option.some.injEq] at hf; subst hf; cases h
   ·split at hf
    ·simp only [Option.some.injEq] at hf; subst hf; cases h
    ·cases hf
theorem oG {s : af} {l : List Int} {r : ae} (h : jc s l r = 0) : kE s r ∧ (∀ x ∈ cG r, inV s x) ∧ r.a.length ≤ 3 ∧ ¬ l.contains r.out_ = true ∧ ¬ cd r.op < 0 ∧ (r.a.length : Int) = cd r.op ∧ aE s r = some true := by
 unfold jc at h
 by_cases h1 : inV s r.out_
 ·rw [if_neg (by simpa using h1)] at h
  by_cases h2 : l.contains r.out_ = true
  ·rw [if_pos h2] at h; cases h
  ·rw [if_neg h2] at h
   by_cases h3 : cd r.op < 0 ∨ ¬ (r.a.length : Int) = cd r.op
   ·rw [if_pos h3] at h; cases h
   ·rw [if_neg h3] at h
    by_cases h5 : (r.e.length : Int) > 24
    ·rw [if_pos h5] at h; cases h
    ·rw [if_neg h5] at h
     by_cases h6 : ∃ x ∈ cG r, ¬ inV s x
     ·rw [if_pos h6] at h; cases h
     ·rw [if_neg h6] at h
      have hle := rO r.op
      refine ⟨tI h1 h5 h6, fun x hx => Classical.byContradiction (fun hc => h6 ⟨x, hx, hc⟩), by omega, h2, fun hc => h3 (.inl hc), Classical.byContradiction (fun hc => h3 (.inr hc)), ?_⟩
      by_cases h7 : aE s r = some true
      ·exact h7
      ·rw [if_neg h7] at h; cases h
 ·rw [if_pos h1] at h; cases h
theorem jl {s : af} {l : List Int} {v : Int} (h : inV s v) : (bg s l).getD v.toNat default = true ↔ v ∈ l := by rw [uS h]; simp
theorem uT (s : af) : List.replicate s.vars.length false = bg s [] := by
 apply List.ext_getElem
 ·simp [dX]
 ·intro i h1 h2; simp [bg]
theorem AJ {s : af} (g : lV s) : aT (fun (x : List Bool × Int) => ex s x.1 x.2) (bg s [], 0) = some (bg s s.in_) := by
 have := b9 (S := List Bool × Int) (T := List Bool) (fun i => (bg s (s.in_.take i), (i : Int))) (body := fun x => ex s x.1 x.2) s.in_.length (bg s s.in_)
  (by
   intro i hi
   show ex s (bg s (s.in_.take i)) (i : Int) = _
   have gi := g.i _ (bi hi)
   have gi' := gi
   unfold inV at gi'
   unfold ex
   rw [if_pos (ltI hi), if_pos (inI hi)]
   simp only [Int.toNat_natCast]
   rw [dX, if_pos gi', mC gi, wrs i (by have := g.ni; omega), bD _ hi])
  (by
   show ex s (bg s (s.in_.take s.in_.length)) (s.in_.length : Int) = _
   unfold ex
   rw [if_neg (aX _), List.take_length])
 exact this
theorem xh {s : af} (g : lV s) : aT (fun (x : Int × List Bool × Int) => ew s x.1 x.2.1 x.2.2) (0, bg s s.in_, 0) = some (d2 s.rules.length (jI s) (0, bg s (bz s s.rules.length))) := by
 have e0 : bz s 0 = s.in_ := by simp [bz]
 have := sP (S := Int × List Bool × Int) (T := Int × List Bool) (Z := au) (fun i => (0, bg s (bz s i), (i : Int))) (body := fun x => ew s x.1 x.2.1 x.2.2) s.rules.length (jI s) (0, bg s (bz s s.rules.length))
  (by
   intro i hi
   show ew s 0 (bg s (bz s i)) (i : Int) = _
   unfold ew
   rw [if_pos (ltI hi), if_pos (inI hi)]
   simp only [Int.toNat_natCast]
   rw [AI g.v]
   simp only [Option.bind_some]
   unfold jI
   by_cases h : jc s (bz s i) (s.rules.getD i default) = 0
   ·obtain ⟨gr, _⟩ := oG h
    have go := gr.o
    have go' := go
    unfold inV at go'
    simp only [h, not_true_eq_false, if_false, if_true]
    rw [dX, if_pos go', mC go, wrs i (by have := g.nr; omega), tF s hi]
   ·simp only [h, not_false_eq_true, if_true, if_false])
  (by
   show ew s 0 (bg s (bz s s.rules.length)) (s.rules.length : Int) = _
   unfold ew
   rw [if_neg (aX _)])
 rw [e0] at this
 exact this
theorem yC {s : af} (g : lV s) (hr : ∀ i, i < s.rules.length → jI s i = none) :
  aT (fun x => jY s (bg s (bz s s.rules.length)) x) 0 = some (d2 s.rules.length (lg s) ()) := by
 refine br s.rules.length (lg s) () (fun i hi => ?_) ?_
 ·have h0 := hr i hi
  unfold jI at h0
  have h0' : jc s (bz s i) (s.rules.getD i default) = 0 := by
   by_cases h : jc s (bz s i) (s.rules.getD i default) = 0
   ·exact h
   ·simp only [if_neg h] at h0; cases h0
  obtain ⟨gr, hu, ha, _⟩ := oG h0'
  have he := gr.e
  unfold jY
  rw [if_pos (ltI hi), if_pos (inI hi)]
  simp only [Int.toNat_natCast]
  generalize hR : s.rules.getD i default = r at *
  have hj : ∀ l : List Int, (∀ x, x ∈ l ↔ x ∈ cG r) → l.length ≤ 1000 → iM (bg s (bz s s.rules.length)) (i : Int) l = some (match lg s i with | some z => .inr (.inr z) | none => .inl ((i + 1 : Nat) : Int)) := by
   intro l hm hl
   unfold iM
   rw [br l.length (fun k => if l.getD k default ∈ bz s s.rules.length then none else some (au.mk 9 (i : Int))) () (fun k hk => by
    have gk := hu _ ((hm _).1 (bi hk))
    have gk' := gk
    unfold inV at gk'
    unfold kO
    rw [if_pos (ltI hk), if_pos (inI hk)]
    simp only [Int.toNat_natCast]
    rw [dX, if_pos gk', wrs k (by omega)]
    by_cases hc : l.getD k default ∈ bz s s.rules.length
    ·rw [if_pos ((jl gk).2 hc), if_pos hc]
    ·rw [if_neg (fun h => hc ((jl gk).1 h)), if_neg hc]) (by unfold kO; rw [if_neg (aX _)])]
   rw [py l (fun x => x ∈ bz s s.rules.length)]
   unfold lg
   rw [hR]
   simp only [hm]
   by_cases h9 : ∃ x ∈ cG r, ¬ x ∈ bz s s.rules.length
   ·simp only [if_pos h9]; rfl
   ·simp only [if_neg h9, Option.bind_some, Sum.elim_inl]
    unfold jX
    rw [wrs i (by have := g.nr; omega)]
  by_cases h7 : r.op ≥ 14
  ·rw [if_pos h7, oD _ (by omega) (by omega)]
   simp only [Option.bind_some]
   have hu' : cG r = kW r.a r.e := by unfold cG; rw [if_neg (by omega)]
   have := oF r.a r.e
   rw [hj (kW r.a r.e) (fun x => by rw [hu']) (by omega)]
   cases lg s i <;> rfl
  ·rw [if_neg h7]
   have hu' : cG r = kW r.a [] := by unfold cG; rw [if_pos (by omega)]
   rw [hj r.a (fun x => by rw [hu', oE]; simp) (by omega)]
   cases lg s i <;> rfl
 ·unfold jY; rw [if_neg (aX _)]
theorem zx {s : af} (g : lV s) : aT (fun x => jV s (bg s (bz s s.rules.length)) x) 0 = some (d2 s.out_.length (qG s) ()) := by
 refine br s.out_.length (qG s) () (fun i hi => ?_) ?_
 ·have gk := g.o _ (bi hi)
  have gk' := gk
  unfold inV at gk'
  unfold jV qG
  rw [if_pos (ltI hi), if_pos (inI hi)]
  simp only [Int.toNat_natCast]
  rw [dX, if_pos gk', wrs i (by have := g.no; omega)]
  by_cases hc : s.out_.getD i default ∈ bz s s.rules.length
  ·rw [if_pos ((jl gk).2 hc), if_pos hc]
  ·rw [if_neg (fun h => hc ((jl gk).1 h)), if_neg hc]
 ·unfold jV; rw [if_neg (aX _)]
theorem pz (s : af) : lu s = some (cD s) := by
 unfold lu cD
 rw [w8]
 simp only [Option.bind_some]
 by_cases h : (lT s).code = 0
 ·have g := rP h
  simp only [h, not_true_eq_false, if_false]
  rw [if_pos ⟨by omega, tw _ (by have := g.nv; omega)⟩]
  rw [uT]
  show (aT (fun (x : List Bool × Int) => ex s x.1 x.2) (bg s [], 0)).bind (fun z46 => iO s z46) = _
  rw [AJ g]
  simp only [Option.bind_some]
  unfold iO
  show (aT (fun (x : Int × List Bool × Int) => ew s x.1 x.2.1 x.2.2) (0, bg s s.in_, 0)).bind (Sum.elim (fun z => iN s z.1 z.2) (fun z36 => some z36)) = _
  rw [xh g]
  simp only [Option.bind_some]
  rcases cO s.rules.length (jI s) ((0 : Int), bg s (bz s s.rules.length)) with ⟨e, h1⟩ | ⟨j, z, hj, hf, e⟩
  ·rw [e, cS h1]
   simp only [Sum.elim_inl]
   unfold iN
   rw [yC g h1]
   simp only [Option.bind_some]
   cases d2 s.rules.length (lg s) () with
   | inr z => rfl
   | inl u =>
    simp only [Sum.elim_inl]
    unfold jW
    rw [zx g]
    simp only [Option.bind_some]
    cases d2 s.out_.length (qG s) () <;> rfl
  ·rw [e]
   rcases cO s.rules.length (jI s) () with ⟨e', h1⟩ | ⟨j', z', hj', hf', e'⟩
   ·rw [h1 j hj] at hf; cases hf
   ·have : z = z' := by
     unfold d2 at e e'
     cases hq : (List.range s.rules.length).findSome? (jI s) with
     | none => rw [hq] at e; cases e
     | some q => rw [hq] at e e'; simp at e e'; rw [← e, ← e']
    rw [e', this]; rfl
 ·simp only [h, not_false_eq_true, if_true]
end Pam

namespace Pam
open Go
def eP (s : af) (i : Nat) : List Int := (s.rules.take i).map (fun r => r.out_)
theorem pY (s : af) {i : Nat} (h : i ≤ s.rules.length) : (eP s i).length = i := by unfold eP; simp [h]
theorem iX (s : af) (i : Nat) : bz s i = s.in_ ++ eP s i := rfl
theorem tJ {s : af} {n : Nat} (hn : n ≤ s.rules.length) (hb : s.rules.length ≤ 100000) : nW s (n : Int) = some (eP s n) := by
 unfold nW
 have := b9 (S := List Int × Int) (T := List Int) (fun i => (eP s i, (i : Int))) (body := fun x => gq s (n : Int) x.1 x.2) n (eP s n)
  (by
   intro i hi
   show gq s (n : Int) (eP s i) (i : Int) = _
   unfold gq
   rw [if_pos (ltI hi), if_pos ⟨inI (by omega), tB _ (by rw [pY s (by omega)]; omega)⟩, wrs i (by omega)]
   simp only [Int.toNat_natCast]
   have : eP s (i + 1) = eP s i ++ [(s.rules.getD i default).out_] := by unfold eP; rw [bD _ (by omega), List.map_append]; rfl
   rw [this]
   rfl)
  (by
   show gq s (n : Int) (eP s n) (n : Int) = _
   unfold gq
   rw [if_neg (aX _)])
 have e0 : eP s 0 = [] := rfl
 rw [e0] at this
 show (aT (fun x => gq s (n : Int) x.1 x.2) ([], 0)).bind _ = _
 rw [show ((0 : Nat) : Int) = 0 from rfl] at this
 rw [this]
 rfl
theorem qH (r : ae) (ha : r.a.length ≤ 100000) (he : r.e.length ≤ 100000) : mT r = some (cG r) := by
 unfold mT cG
 by_cases h : r.op < 14
 ·rw [if_pos h, if_pos h]
  unfold jy
  rw [tC _ (by simp only; omega) (by simp)]
  rfl
 ·rw [if_neg h, if_neg h]
  unfold jy
  rw [tC _ (by simp only; omega) (by simp only; omega)]
  rfl
theorem rQ (r : ae) : (cG r).length ≤ r.a.length + r.e.length := by
 unfold cG
 split
 ·have := oF r.a []; simp at this; omega
 ·exact oF _ _
theorem sx (s : af) (x : Int) : ¬ inV s x ↔ x < 0 ∨ x ≥ (s.vars.length : Int) := by unfold inV; omega
theorem zy {s : af} (g : lV s) {i : Nat} (hi : i < s.rules.length) : f9 s (i : Int) = some (match jI s i with | some z => .inr (.inr z) | none => .inl ((i + 1 : Nat) : Int)) := by
 unfold f9 jI jc
 rw [if_pos (ltI hi), if_pos (inI hi)]
 simp only [Int.toNat_natCast, xg, Option.bind_some]
 have hnr := g.nr
 generalize hR : s.rules.getD i default = r
 by_cases h1 : inV s r.out_
 ·have h1' := h1
  unfold inV at h1'
  rw [if_neg (by omega), if_neg (by omega)]
  rw [d3 _ _ (by have := g.ni; omega)]
  simp only [Option.bind_some, h1, not_true_eq_false, if_false]
  by_cases h2 : s.in_.contains r.out_ = true
  ·rw [if_pos h2]
   have : (bz s i).contains r.out_ = true := by rw [iX]; simp at h2 ⊢; exact .inl h2
   simp only [this, if_true]
   rfl
  ·rw [if_neg h2, tJ (by omega) (by omega)]
   simp only [Option.bind_some]
   rw [d3 _ _ (by rw [pY s (by omega)]; omega)]
   simp only [Option.bind_some]
   by_cases h3 : (eP s i).contains r.out_ = true
   ·rw [if_pos h3]
    have : (bz s i).contains r.out_ = true := by rw [iX]; simp at h3 ⊢; exact .inr h3
    simp only [this, if_true]
    rfl
   ·rw [if_neg h3]
    have : (bz s i).contains r.out_ = false := by rw [iX]; simp at h2 h3 ⊢; exact ⟨h2, h3⟩
    simp only [this, Bool.false_eq_true, if_false, wo, Option.bind_some]
    by_cases h4 : cd r.op < 0
    ·rw [if_pos h4]
     simp only [h4, true_or, if_true]
     rfl
    ·rw [if_neg h4]
     by_cases h5 : (r.a.length : Int) = cd r.op
     ·rw [if_neg (fun hc => hc h5.symm)]
      have h45 : ¬ (cd r.op < 0 ∨ ¬ (r.a.length : Int) = cd r.op) := fun hc => hc.elim h4 (fun h => h h5)
      simp only [if_neg h45]
      have hle := rO r.op
      by_cases h6 : (r.e.length : Int) > 24
      ·rw [if_pos h6]
       simp only [if_pos h6]
       rfl
      ·rw [if_neg h6]
       simp only [if_neg h6]
       rw [qH r (by omega) (by omega)]
       simp only [Option.bind_some]
       have hul := rQ r
       rw [br (cG r).length (fun k => if inV s ((cG r).getD k default) then none else some (au.mk 16 (i : Int))) () (fun k hk => by
        unfold i6
        rw [if_pos (ltI hk), if_pos (inI hk)]
        simp only [Int.toNat_natCast, xg, Option.bind_some]
        rw [wrs k (by omega)]
        by_cases hc : inV s ((cG r).getD k default)
        ·have hc' := hc
         unfold inV at hc'
         rw [if_neg (by omega), if_neg (by omega), if_pos hc]
        ·rw [if_neg hc]
         rcases (sx s _).1 hc with h | h
         ·rw [if_pos h]
         ·by_cases h' : (cG r).getD k default < 0
          ·rw [if_pos h']
          ·rw [if_neg h', if_pos h]) (by unfold i6; rw [if_neg (aX _)])]
       rw [py (cG r) (fun x => inV s x)]
       by_cases h7 : ∃ x ∈ cG r, ¬ inV s x
       ·simp only [if_pos h7]; rfl
       ·simp only [if_neg h7, Option.bind_some, Sum.elim_inl]
        unfold f8
        simp only [Int.toNat_natCast, hR]
        obtain ⟨_, f2⟩ := wm (c := 0) g.v (tI h1 h6 h7) h4 h5
        cases hf : aE s r with
        | none => exact absurd hf f2
        | some b =>
         cases b
         ·simp only [Option.bind_some, xg]; rfl
         ·simp only [Option.bind_some, if_true]
          unfold i5
          rw [wrs i (by omega)]
     ·rw [if_pos (fun hc => h5 hc.symm)]
      have h45 : cd r.op < 0 ∨ ¬ (r.a.length : Int) = cd r.op := .inr h5
      simp only [if_pos h45]
      rfl
 ·simp only [h1, not_false_eq_true, if_true]
  rcases (sx s _).1 h1 with h | h
  ·rw [if_pos h]; rfl
  ·by_cases h' : r.out_ < 0
   ·rw [if_pos h']; rfl
   ·rw [if_neg h', if_pos h]; rfl
theorem zz {s : af} (g : lV s) (hr : ∀ i, i < s.rules.length → jI s i = none) :
  aT (fun x => fY s (eP s s.rules.length) x) 0 = some (d2 s.rules.length (lg s) ()) := by
 have hnr := g.nr
 refine br s.rules.length (lg s) () (fun i hi => ?_) ?_
 ·have h0 := hr i hi
  unfold jI at h0
  have h0' : jc s (bz s i) (s.rules.getD i default) = 0 := by
   by_cases h : jc s (bz s i) (s.rules.getD i default) = 0
   ·exact h
   ·simp only [if_neg h] at h0; cases h0
  obtain ⟨gr, hu, ha, _⟩ := oG h0'
  have he := gr.e
  unfold fY lg
  rw [if_pos (ltI hi), if_pos (inI hi)]
  simp only [Int.toNat_natCast]
  generalize hR : s.rules.getD i default = r at *
  rw [qH r (by omega) (by omega)]
  simp only [Option.bind_some]
  have hul := rQ r
  rw [br (cG r).length (fun k => if (cG r).getD k default ∈ bz s s.rules.length then none else some (au.mk 9 (i : Int))) () (fun k hk => by
   unfold i4
   rw [if_pos (ltI hk), if_pos (inI hk)]
   simp only [Int.toNat_natCast, xg, Option.bind_some]
   rw [wrs k (by omega), d3 _ _ (by have := g.ni; omega)]
   simp only [Option.bind_some]
   rw [d3 _ _ (by rw [pY s (by omega)]; omega)]
   simp only [Option.bind_some]
   rw [iX]
   by_cases hc : (cG r).getD k default ∈ s.in_
   ·rw [if_pos (by simpa using hc), if_pos (List.mem_append.2 (.inl hc))]
   ·rw [if_neg (by simpa using hc)]
    by_cases hd : (cG r).getD k default ∈ eP s s.rules.length
    ·rw [if_pos (by simpa using hd), if_pos (List.mem_append.2 (.inr hd))]
    ·rw [if_neg (by simpa using hd), if_neg (fun h => (List.mem_append.1 h).elim hc hd)]) (by unfold i4; rw [if_neg (aX _)])]
  rw [py (cG r) (fun x => x ∈ bz s s.rules.length)]
  by_cases h9 : ∃ x ∈ cG r, ¬ x ∈ bz s s.rules.length
  ·simp only [if_pos h9]; rfl
  ·simp only [if_neg h9, Option.bind_some, Sum.elim_inl]
   unfold fX
   rw [wrs i (by omega)]
 ·unfold fY; rw [if_neg (aX _)]
theorem AK {s : af} (g : lV s) : aT (fun x => fV s (eP s s.rules.length) x) 0 = some (d2 s.out_.length (qG s) ()) := by
 have hno := g.no
 have hnr := g.nr
 refine br s.out_.length (qG s) () (fun i hi => ?_) ?_
 ·unfold fV qG
  rw [if_pos (ltI hi), if_pos (inI hi)]
  simp only [Int.toNat_natCast, xg, Option.bind_some]
  rw [wrs i (by omega), d3 _ _ (by have := g.ni; omega)]
  simp only [Option.bind_some]
  rw [d3 _ _ (by rw [pY s (by omega)]; omega)]
  simp only [Option.bind_some]
  rw [iX]
  by_cases hc : s.out_.getD i default ∈ s.in_
  ·rw [if_pos (by simpa using hc), if_pos (List.mem_append.2 (.inl hc))]
  ·rw [if_neg (by simpa using hc)]
   by_cases hd : s.out_.getD i default ∈ eP s s.rules.length
   ·rw [if_pos (by simpa using hd), if_pos (List.mem_append.2 (.inr hd))]
   ·rw [if_neg (by simpa using hd), if_neg (fun h => (List.mem_append.1 h).elim hc hd)]
 ·unfold fV; rw [if_neg (aX _)]
theorem nm (s : af) : gB s = some (cD s) := by
 unfold gB cD
 rw [w9]
 simp only [Option.bind_some]
 by_cases h : (lT s).code = 0
 ·have g := rP h
  simp only [h, not_true_eq_false, if_false]
  rw [br s.rules.length (jI s) () (fun i hi => by rw [zy g hi]; cases jI s i <;> rfl) (by unfold f9; rw [if_neg (aX _)])]
  simp only [Option.bind_some]
  rcases cO s.rules.length (jI s) () with ⟨e, h1⟩ | ⟨j, z, hj, hf, e⟩
  ·rw [e]
   simp only [Sum.elim_inl]
   unfold fZ
   rw [tJ (Nat.le_refl _) (by have := g.nr; omega)]
   simp only [Option.bind_some]
   rw [zz g h1]
   simp only [Option.bind_some]
   cases d2 s.rules.length (lg s) () with
   | inr z => rfl
   | inl u =>
    simp only [Sum.elim_inl]
    unfold fW
    rw [AK g]
    simp only [Option.bind_some]
    cases d2 s.out_.length (qG s) () <;> rfl
  ·rw [e]; rfl
 ·simp only [h, not_false_eq_true, if_true]
end Pam

namespace Pam
open Go
structure co (s : af) : Prop where
 h : lV s
 r : ∀ i, i < s.rules.length → jc s (bz s i) (s.rules.getD i default) = 0
 u : ∀ i, i < s.rules.length → ∀ x ∈ cG (s.rules.getD i default), x ∈ bz s s.rules.length
 o : ∀ x ∈ s.out_, x ∈ bz s s.rules.length
theorem fH {s : af} (h : (cD s).code = 0) : co s ∧ cD s = au.mk 0 0 := by
 unfold cD at h ⊢
 by_cases h0 : (lT s).code = 0
 ·simp only [h0, not_true_eq_false, if_false] at h ⊢
  have g := rP h0
  rcases cO s.rules.length (jI s) () with ⟨e1, h1⟩ | ⟨j, z, hj, hf, e⟩
  ·simp only [e1] at h ⊢
   rcases cO s.rules.length (lg s) () with ⟨e2, h2⟩ | ⟨j, z, hj, hf, e⟩
   ·simp only [e2] at h ⊢
    rcases cO s.out_.length (qG s) () with ⟨e3, h3⟩ | ⟨j, z, hj, hf, e⟩
    ·simp only [e3]
     refine ⟨⟨g, fun i hi => ?_, fun i hi x hx => ?_, fun x hx => ?_⟩, trivial⟩
     ·have := h1 i hi
      unfold jI at this
      by_cases hc : jc s (bz s i) (s.rules.getD i default) = 0
      ·exact hc
      ·simp only [if_neg hc] at this; cases this
     ·have := h2 i hi
      unfold lg at this
      refine Classical.byContradiction fun hc => ?_
      rw [if_pos ⟨x, hx, hc⟩] at this
      cases this
     ·obtain ⟨i, hi, rfl⟩ := List.mem_iff_getElem.1 hx
      have := h3 i hi
      unfold qG at this
      have e2 : s.out_.getD i default = s.out_[i] := by simp [List.getD, hi]
      rw [e2] at this
      refine Classical.byContradiction fun hc => ?_
      rw [if_neg hc] at this
      cases this
    ·simp only [e] at h
     unfold qG at hf
     split at hf
     ·cases hf
     ·simp only [Option.some.injEq] at hf; subst hf; cases h
   ·simp only [e] at h
    unfold lg at hf
    split at hf
    ·simp only [Option.some.injEq] at hf; subst hf; cases h
    ·cases hf
  ·simp only [e] at h
   unfold jI at hf
   by_cases hc : jc s (bz s j) (s.rules.getD j default) = 0
   ·simp only [if_pos hc] at hf; cases hf
   ·simp only [if_neg hc, Option.some.injEq] at hf; subst hf; exact absurd h hc
 ·simp only [h0, not_false_eq_true, if_true] at h
def aM (r : ae) : List Int := if r.op = 13 ∧ (r.a.length : Int) = 2 then [r.a.getD 0 default] else cG r
theorem iY {r : ae} {x : Int} (h : x ∈ aM r) : x ∈ cG r := by
 unfold aM at h
 split at h
 ·rename_i hc
  simp only [List.mem_singleton] at h
  subst h
  exact sw (bi (by omega))
 ·exact h
theorem eX (r : ae) : (aM r).length ≤ r.a.length + r.e.length := by
 unfold aM
 split
 ·simp; omega
 ·exact rQ r
theorem pA (r : ae) (ha : r.a.length ≤ 100000) (he : r.e.length ≤ 100000) : gJ r = some (aM r) := by
 have j1 : fD r = some (cG r) := by
  unfold fD cG
  by_cases h : r.op < 14
  ·rw [if_pos h, if_pos h]
   unfold fC
   rw [oD _ (by simp only; omega) (by simp)]
   rfl
  ·rw [if_neg h, if_neg h]
   unfold fC
   rw [oD _ (by simp only; omega) (by simp only; omega)]
   rfl
 unfold gJ aM
 by_cases h1 : r.op = 13
 ·rw [if_pos h1]
  by_cases h2 : (r.a.length : Int) = 2
  ·rw [if_pos h2, if_pos (by omega), if_pos ⟨h1, h2⟩]; rfl
  ·rw [if_neg h2, if_neg (fun h => h2 h.2), j1]
 ·rw [if_neg h1, if_neg (fun h => h1 h.1), j1]
theorem jJ (r : ae) (ha : r.a.length ≤ 100000) (he : r.e.length ≤ 100000) : ji r = some (aM r) := by
 have j1 : iS r = some (cG r) := by
  unfold iS
  rw [qH r ha he]
  rfl
 unfold ji aM
 by_cases h1 : r.op = 13
 ·rw [if_pos h1]
  by_cases h2 : (r.a.length : Int) = 2
  ·rw [if_pos h2, if_pos (by omega), if_pos ⟨h1, h2⟩]; rfl
  ·rw [if_neg h2, if_neg (fun h => h2 h.2), j1]
 ·rw [if_neg h1, if_neg (fun h => h1 h.1), j1]
def kX (l : List Int) (r : ae) : Prop := ∀ x ∈ aM r, x ∈ l
instance (l : List Int) (r : ae) : Decidable (kX l r) := inferInstanceAs (Decidable (∀ x ∈ aM r, x ∈ l))
theorem rm {s : af} {l : List Int} {r : ae} {a : List ak} {b c : List Int} {d : List ae} (hu : ∀ x ∈ aM r, inV s x) (ha : r.a.length ≤ 1000) (he : r.e.length ≤ 1000) :
  dq r a b c d (bg s l) = some (decide (kX l r)) := by
 unfold dq
 rw [pA r (by omega) (by omega)]
 simp only [Option.bind_some]
 unfold dx ey
 have hn := eX r
 rw [br (aM r).length (fun k => if (aM r).getD k default ∈ l then none else some (k : Int)) () (fun k hk => by
  have gk := hu _ (bi hk)
  have gk' := gk
  unfold inV at gk'
  unfold cM gK
  rw [if_pos (ltI hk), if_pos (inI hk)]
  simp only [Int.toNat_natCast]
  rw [dX, if_pos gk', wrs k (by omega)]
  simp only [Option.bind_some]
  by_cases hc : (aM r).getD k default ∈ l
  ·rw [(jl gk).2 hc, if_pos hc]; rfl
  ·have : (bg s l).getD ((aM r).getD k default).toNat default = false := by
    cases hh : (bg s l).getD ((aM r).getD k default).toNat default
    ·rfl
    ·exact absurd ((jl gk).1 hh) hc
   rw [this, if_neg hc]; rfl) (by unfold cM; rw [if_neg (aX _)])]
 rcases cO (aM r).length (fun k => if (aM r).getD k default ∈ l then none else some (k : Int)) () with ⟨e, h⟩ | ⟨j, z, hj, hf, e⟩
 ·rw [e]
  have : kX l r := by
   intro x hx
   obtain ⟨i, hi, rfl⟩ := List.mem_iff_getElem.1 hx
   have := h i hi
   have e2 : (aM r).getD i default = (aM r)[i] := by simp [List.getD, hi]
   rw [e2] at this
   refine Classical.byContradiction fun hc => ?_
   rw [if_neg hc] at this; cases this
  simp only [this, decide_true]
  rfl
 ·rw [e]
  split at hf
  ·cases hf
  ·rename_i hc
   simp only [Option.some.injEq] at hf
   have : ¬ kX l r := fun h => hc (h _ (bi hj))
   simp only [this, decide_false, ← hf]
   simp only [Option.bind_some, Sum.elim_inr]
   simp
def fP (s : af) : Prop := ∀ i, i < s.rules.length → kX (bz s i) (s.rules.getD i default)
instance (s : af) : Decidable (fP s) := inferInstanceAs (Decidable (∀ i, i < s.rules.length → kX (bz s i) (s.rules.getD i default)))
def qq (s : af) (i : Nat) : Option Bool := if kX (bz s i) (s.rules.getD i default) then none else some false
theorem uU {T : Type} (s : af) (t : T) : (match d2 s.rules.length (qq s) t with | .inl _ => true | .inr z => z) = decide (fP s) := by
 rcases cO s.rules.length (qq s) t with ⟨e, h⟩ | ⟨j, z, hj, hf, e⟩
 ·rw [e]
  have : fP s := by
   intro i hi
   have := h i hi
   unfold qq at this
   refine Classical.byContradiction fun hc => ?_
   rw [if_neg hc] at this; cases this
  simp only [this, decide_true]
 ·rw [e]
  unfold qq at hf
  split at hf
  ·cases hf
  ·rename_i hc
   simp only [Option.some.injEq] at hf
   have : ¬ fP s := fun h => hc (h j hj)
   simp only [this, decide_false, ← hf]
theorem co.rule {s : af} (g : co s) {i : Nat} (hi : i < s.rules.length) : kE s (s.rules.getD i default) ∧ (∀ x ∈ cG (s.rules.getD i default), inV s x) ∧ (s.rules.getD i default).a.length ≤ 3 ∧ ¬ (bz s i).contains (s.rules.getD i default).out_ = true ∧ ¬ cd (s.rules.getD i default).op < 0 ∧ ((s.rules.getD i default).a.length : Int) = cd (s.rules.getD i default).op := by
 obtain ⟨h1, h2, h3, h4, h5, h6, _⟩ := oG (g.r i hi)
 exact ⟨h1, h2, h3, h4, h5, h6⟩
theorem tK {s : af} (g : co s) : jF s = some (s.vars, s.in_, s.out_, s.rules, bg s s.in_) := by
 unfold jF
 rw [if_pos ⟨by omega, tw _ (by have := g.h.nv; omega)⟩, uT]
 have := b9 (S := List Bool × Int) (T := List Bool) (fun i => (bg s (s.in_.take i), (i : Int))) (body := fun x => dQ s x.1 x.2) s.in_.length (bg s s.in_)
  (by
   intro i hi
   show dQ s (bg s (s.in_.take i)) (i : Int) = _
   have gi := g.h.i _ (bi hi)
   have gi' := gi
   unfold inV at gi'
   unfold dQ
   rw [if_pos (ltI hi), if_pos (inI hi)]
   simp only [Int.toNat_natCast]
   rw [dX, if_pos gi', mC gi, wrs i (by have := g.h.ni; omega), bD _ hi])
  (by
   show dQ s (bg s (s.in_.take s.in_.length)) (s.in_.length : Int) = _
   unfold dQ
   rw [if_neg (aX _), List.take_length])
 show (aT (fun (x : List Bool × Int) => dQ s x.1 x.2) (bg s [], 0)).bind (fun z => ia s z) = _
 rw [show s.in_.take 0 = [] from rfl, show ((0 : Nat) : Int) = 0 from rfl] at this
 rw [this]
 rfl
theorem rR {s : af} (g : co s) : iP s = some (decide (fP s)) := by
 unfold iP
 rw [tK g]
 simp only [Option.bind_some]
 have e0 : bz s 0 = s.in_ := by simp [bz]
 have := sP (S := List Bool × Int) (T := List Bool) (Z := Bool) (fun i => (bg s (bz s i), (i : Int))) (body := fun x => di s (s.vars, s.in_, s.out_, s.rules, bg s s.in_) x.1 x.2) s.rules.length (qq s) (bg s (bz s s.rules.length))
  (by
   intro i hi
   show di s (s.vars, s.in_, s.out_, s.rules, bg s s.in_) (bg s (bz s i)) (i : Int) = _
   obtain ⟨gr, hu, ha, _⟩ := g.rule hi
   have he := gr.e
   have go := gr.o
   have go' := go
   unfold inV at go'
   unfold di
   rw [if_pos (ltI hi), if_pos (inI hi)]
   simp only [Int.toNat_natCast]
   rw [rm (fun x hx => hu x (iY hx)) (by omega) (by omega)]
   simp only [Option.bind_some]
   unfold qq
   by_cases hc : kX (bz s i) (s.rules.getD i default)
   ·simp only [hc, decide_true, if_true]
    rw [dX, if_pos go', mC go, wrs i (by have := g.h.nr; omega), tF s hi]
   ·simp only [hc, decide_false, Bool.false_eq_true, if_false])
  (by
   show di s (s.vars, s.in_, s.out_, s.rules, bg s s.in_) (bg s (bz s s.rules.length)) (s.rules.length : Int) = _
   unfold di
   rw [if_neg (aX _)])
 rw [e0, show ((0 : Nat) : Int) = 0 from rfl] at this
 show (aT (fun (x : List Bool × Int) => di s (s.vars, s.in_, s.out_, s.rules, bg s s.in_) x.1 x.2) (bg s s.in_, 0)).bind (Sum.elim (fun z14 => gc z14) (fun z15 => some z15)) = _
 rw [this]
 simp only [Option.bind_some]
 rw [← uU s (bg s (bz s s.rules.length))]
 cases d2 s.rules.length (qq s) (bg s (bz s s.rules.length)) <;> rfl
def byL (i : Nat) : List Int := ce i (fun k => (k : Int))
theorem BO (s : af) (y : Int) {i : Nat} (hi : i ≤ s.rules.length) : (byL i).any (fun x => (s.rules.getD x.toNat default).out_ == y) = (eP s i).contains y := by
 induction i with
 | zero => rfl
 | succ i ih =>
  have e1 : byL (i + 1) = byL i ++ [(i : Int)] := rN _ _
  have e2 : eP s (i + 1) = eP s i ++ [(s.rules.getD i default).out_] := by unfold eP; rw [bD _ (by omega), List.map_append]; rfl
  rw [e1, e2, List.any_append, ih (by omega)]
  simp [Bool.beq_comm]
  grind
theorem tL {T : Type} (p : T → Bool) : ∀ (l : List T) (b : Bool), l.foldl (fun b x => b || p x) b = (b || l.any p)
 | [], b => by simp
 | x :: l, b => by rw [List.foldl_cons, tL p l]; simp [Bool.or_assoc]
theorem AL {s : af} {r : ae} {i : Nat} (hi : i ≤ s.rules.length) (hn : s.rules.length ≤ 100000) (hin : s.in_.length ≤ 100000) (ha : r.a.length ≤ 1000) (he : r.e.length ≤ 1000) :
  kC s r (byL i) = some (decide (kX (bz s i) r)) := by
 unfold kC
 rw [jJ r (by omega) (by omega)]
 simp only [Option.bind_some]
 have hnl := eX r
 have hbl : (byL i).length = i := il _ _
 have inner : ∀ (k : Nat) (b : Bool), aT (fun (x : Bool × Int) => cb s (byL i) (aM r) (k : Int) x.1 x.2) (b, 0) = some (b || (eP s i).contains ((aM r).getD k default)) := by
  intro k b
  obtain ⟨h1, _⟩ := lz (A := Bool) (T := Int) (O := Bool) (S := Bool × Int) (fun a i => (a, i)) (body := fun x => cb s (byL i) (aM r) (k : Int) x.1 x.2) (byL i)
   (fun b x => b || (s.rules.getD x.toNat default).out_ == (aM r).getD k default) (fun _ _ => True) (fun a => a) b trivial
   (by
    intro j a hj _
    refine ⟨?_, trivial⟩
    show cb s (byL i) (aM r) (k : Int) a (j : Int) = _
    unfold cb
    rw [if_pos (ltI hj), wrs j (by omega)]
    cases a
    ·have e : (byL i).getD j default = (j : Int) := n7 (by omega)
     simp only [Bool.false_eq_true, if_false, Int.toNat_natCast, e]
     rw [if_pos ⟨inI hj, by omega⟩]
     simp
    ·simp)
   (by
    intro a _
    show cb s (byL i) (aM r) (k : Int) a ((byL i).length : Int) = _
    unfold cb
    rw [if_neg (aX _)])
  rw [h1, tL, BO s _ hi]
 rw [br (aM r).length (fun k => if (aM r).getD k default ∈ bz s i then none else some false) () (fun k hk => by
  unfold iT
  rw [if_pos (ltI hk), if_pos (inI hk)]
  simp only [Int.toNat_natCast]
  rw [d3 _ _ (by omega)]
  simp only [Option.bind_some]
  show (aT (fun (x : Bool × Int) => cb s (byL i) (aM r) (k : Int) x.1 x.2) (s.in_.contains ((aM r).getD k default), 0)).bind (fun z13 => fa (k : Int) z13) = _
  rw [inner]
  simp only [Option.bind_some]
  unfold fa j0
  rw [wrs k (by omega)]
  by_cases hc : (aM r).getD k default ∈ bz s i
  ·have : (s.in_.contains ((aM r).getD k default) || (eP s i).contains ((aM r).getD k default)) = true := by
    rw [iX] at hc
    rcases List.mem_append.1 hc with h | h
    ·rw [List.contains_iff_mem.2 h]; rfl
    ·rw [List.contains_iff_mem.2 h, Bool.or_true]
   rw [this, if_pos hc]; rfl
  ·have : (s.in_.contains ((aM r).getD k default) || (eP s i).contains ((aM r).getD k default)) = false := by
    rw [iX] at hc
    rw [Bool.or_eq_false_iff]
    constructor
    ·cases hq : s.in_.contains ((aM r).getD k default)
     ·rfl
     ·exact absurd (List.mem_append.2 (.inl (List.contains_iff_mem.1 hq))) hc
    ·cases hq : (eP s i).contains ((aM r).getD k default)
     ·rfl
     ·exact absurd (List.mem_append.2 (.inr (List.contains_iff_mem.1 hq))) hc
   rw [this, if_neg hc]; rfl) (by unfold iT; rw [if_neg (aX _)])]
 rw [py (aM r) (fun x => x ∈ bz s i)]
 by_cases h : kX (bz s i) r
 ·have : ¬ ∃ x ∈ aM r, ¬ x ∈ bz s i := fun ⟨x, h1, h2⟩ => h2 (h x h1)
  simp only [if_neg this, h, decide_true]
  rfl
 ·have : ∃ x ∈ aM r, ¬ x ∈ bz s i := Classical.byContradiction fun hc => h (fun x hx => Classical.byContradiction fun hd => hc ⟨x, hx, hd⟩)
  simp only [if_pos this, h, decide_false]
  rfl
theorem rn {s : af} (g : co s) : j4 s = some (decide (fP s)) := by
 unfold j4
 have hnr := g.h.nr
 have := sP (S := List Int × Int) (T := Unit) (Z := Bool) (fun i => (byL i, (i : Int))) (body := fun x => dj s x.1 x.2) s.rules.length (qq s) ()
  (by
   intro i hi
   show dj s (byL i) (i : Int) = _
   obtain ⟨gr, hu, ha, _⟩ := g.rule hi
   have he := gr.e
   have hbl : (byL i).length = i := il _ _
   unfold dj
   rw [if_pos (ltI hi), if_pos (inI hi)]
   simp only [Int.toNat_natCast]
   rw [AL (by omega) (by omega) (by have := g.h.ni; omega) (by omega) (by omega)]
   simp only [Option.bind_some]
   unfold qq
   by_cases hc : kX (bz s i) (s.rules.getD i default)
   ·simp only [hc, decide_true, if_true]
    rw [if_pos (tB _ (by omega)), wrs i (by omega)]
    have e1 : byL (i + 1) = byL i ++ [(i : Int)] := rN _ _
    rw [e1]
    rfl
   ·simp only [hc, decide_false, Bool.false_eq_true, if_false])
  (by
   show dj s (byL s.rules.length) (s.rules.length : Int) = _
   unfold dj
   rw [if_neg (aX _)])
 rw [show byL 0 = [] from rfl, show ((0 : Nat) : Int) = 0 from rfl] at this
 show (aT (fun (x : List Int × Int) => dj s x.1 x.2) ([], 0)).bind (Sum.elim (fun _ => gf) (fun z17 => some z17)) = _
 rw [this]
 simp only [Option.bind_some]
 rw [← uU s ()]
 cases d2 s.rules.length (qq s) () <;> rfl
end Pam

namespace Pam
open Go
theorem jm (l : List Int) (hl : l.length ≤ 9000000) : eC l l = some true := by
 unfold eC
 rw [if_neg (by simp)]
 rw [br l.length (fun _ => none) () (fun i hi => by
  simp only [i8, Int.toNat_natCast]
  rw [if_pos (ltI hi), if_pos ⟨inI hi, inI hi⟩, if_neg (by simp), wrs i (by omega)]) (by simp [i8]), cS (fun _ _ => rfl)]
 rfl
end Pam

namespace Pam
open Go
theorem uW {A T Z : Type} (P : T → Prop) (f : Nat → A → T → A ⊕ Z) (h : ∀ i a x a', f i a x = .inl a' → P x) : ∀ (l : List T) (i : Nat) (a b : A), m1 f i l a = .inl b → ∀ x ∈ l, P x
 | [], i, a, b, _, x, hx => by cases hx
 | y :: l, i, a, b, he, x, hx => by
  rw [m1] at he
  cases hf : f i a y with
  | inr z => rw [hf] at he; cases he
  | inl a' =>
   rw [hf] at he
   rcases List.mem_cons.1 hx with rfl | hx
   ·exact h _ _ _ _ hf
   ·exact uW P f h l _ _ _ he x hx
theorem rT {A T Z : Type} (P : Z → Prop) (f : Nat → A → T → A ⊕ Z) (h : ∀ i a x z, f i a x = .inr z → P z) : ∀ (l : List T) (i : Nat) (a : A) (z : Z), m1 f i l a = .inr z → P z
 | [], i, a, z, he => by cases he
 | y :: l, i, a, z, he => by
  rw [m1] at he
  cases hf : f i a y with
  | inr z' => rw [hf] at he; simp only [Sum.inr.injEq] at he; subst he; exact h _ _ _ _ hf
  | inl a' => rw [hf] at he; exact rT P f h l _ _ _ he
structure pB (s : af) (m : Nat) : Prop where
 nv : s.vars.length ≤ m
 nr : s.rules.length ≤ m
 ni : s.in_.length ≤ m
 no : s.out_.length ≤ m
 r : ∀ r ∈ s.rules, r.a.length ≤ 100 ∧ r.e.length ≤ 1000
theorem rp (s : af) (m : Nat) (hm : m ≤ 100000) : ∃ b, dZ s (m : Int) = some b ∧ (b = false → pB s m) := by
 unfold dZ
 by_cases h1 : (s.vars.length : Int) > m
 ·rw [if_pos h1]; exact ⟨true, rfl, fun h => by cases h⟩
 rw [if_neg h1]
 by_cases h2 : (s.rules.length : Int) > m
 ·rw [if_pos h2]; exact ⟨true, rfl, fun h => by cases h⟩
 rw [if_neg h2]
 by_cases h3 : (s.in_.length : Int) > m
 ·rw [if_pos h3]; exact ⟨true, rfl, fun h => by cases h⟩
 rw [if_neg h3]
 by_cases h4 : (s.out_.length : Int) > m
 ·rw [if_pos h4]; exact ⟨true, rfl, fun h => by cases h⟩
 rw [if_neg h4]
 obtain ⟨e1, _⟩ := oC (A := Int) (T := ak) (O := Int) (Z := Bool) (S := Int × Int) (fun a i => (a, i)) (body := fun x => cz s x.1 x.2) s.vars
  (fun _ a v => if v.n > 1000 then .inr true else .inl (IntKind.wrap .i64 (a + fG v.n))) (fun _ _ => True) (fun a => a) 0 trivial
  (by
   intro i a hi _
   refine ⟨?_, fun _ _ => trivial⟩
   show cz s a (i : Int) = _
   unfold cz
   rw [if_pos (ltI hi), if_pos (inI hi)]
   simp only [Int.toNat_natCast, jH, Option.bind_some]
   rw [wrs i (by omega)]
   by_cases h : (s.vars.getD i default).n > 1000
   ·rw [if_pos h, if_pos h]
   ·rw [if_neg h, if_neg h])
  (by
   intro a _
   show cz s a (s.vars.length : Int) = _
   unfold cz
   rw [if_neg (aX _)])
 show ∃ b, (aT (fun (x : Int × Int) => cz s x.1 x.2) (0, 0)).bind (Sum.elim (fun z18 => dp s m z18) (fun z19 => some z19)) = some b ∧ _
 rw [e1]
 simp only [Option.bind_some]
 cases hE : m1 (fun _ a v => if v.n > 1000 then .inr true else .inl (IntKind.wrap .i64 (a + fG v.n))) 0 s.vars (0 : Int) with
 | inr z =>
  refine ⟨z, rfl, fun hz => ?_⟩
  have := rT (fun z => z = true) _ (fun i a x z h => by
   split at h
   ·simp only [Sum.inr.injEq] at h; exact h.symm
   ·cases h) _ _ _ _ hE
  rw [hz] at this; cases this
 | inl a0 =>
  simp only [Sum.elim_inl]
  unfold dp
  obtain ⟨e2, _⟩ := oC (A := Int) (T := ae) (O := Int) (Z := Bool) (S := Int × Int) (fun a i => (a, i)) (body := fun x => cy s x.1 x.2) s.rules
   (fun _ a r => if (r.a.length : Int) > 100 ∨ (r.e.length : Int) > 1000 ∨ (r.op = 15 ∧ r.n > 1000) then .inr true else .inl (IntKind.wrap .i64 (a + IntKind.wrap .i64 ((r.a.length : Int) + (r.e.length : Int))))) (fun _ _ => True) (fun a => a) a0 trivial
   (by
    intro i a hi _
    refine ⟨?_, fun _ _ => trivial⟩
    show cy s a (i : Int) = _
    unfold cy d9
    rw [if_pos (ltI hi), if_pos (inI hi)]
    simp only [Int.toNat_natCast]
    rw [wrs i (by omega)]
    by_cases h1 : ((s.rules.getD i default).a.length : Int) > 100
    ·rw [if_pos h1, if_pos (.inl h1)]
    ·rw [if_neg h1]
     by_cases h2 : ((s.rules.getD i default).e.length : Int) > 1000
     ·rw [if_pos h2, if_pos (.inr (.inl h2))]
     ·rw [if_neg h2]
      by_cases h3 : (s.rules.getD i default).op = 15
      ·rw [if_pos h3]
       by_cases h4 : (s.rules.getD i default).n > 1000
       ·rw [if_pos h4, if_pos (.inr (.inr ⟨h3, h4⟩))]
       ·rw [if_neg h4, if_neg (fun h => h.elim h1 (fun h => h.elim h2 (fun h => h4 h.2)))]
      ·rw [if_neg h3, if_neg (fun h => h.elim h1 (fun h => h.elim h2 (fun h => h3 h.1)))])
   (by
    intro a _
    show cy s a (s.rules.length : Int) = _
    unfold cy
    rw [if_neg (aX _)])
  show ∃ b, (aT (fun (x : Int × Int) => cy s x.1 x.2) (a0, 0)).bind (Sum.elim (fun z9 => d8 m z9) (fun z10 => some z10)) = some b ∧ _
  rw [e2]
  simp only [Option.bind_some]
  cases hF : m1 (fun _ a r => if (r.a.length : Int) > 100 ∨ (r.e.length : Int) > 1000 ∨ (r.op = 15 ∧ r.n > 1000) then .inr true else .inl (IntKind.wrap .i64 (a + IntKind.wrap .i64 ((r.a.length : Int) + (r.e.length : Int))))) 0 s.rules a0 with
  | inr z =>
   refine ⟨z, rfl, fun hz => ?_⟩
   have := rT (fun z => z = true) _ (fun i a x z h => by
    split at h
    ·simp only [Sum.inr.injEq] at h; exact h.symm
    ·cases h) _ _ _ _ hF
   rw [hz] at this; cases this
  | inl a1 =>
   have hR := uW (fun r : ae => r.a.length ≤ 100 ∧ r.e.length ≤ 1000) _ (fun i a x a' h => by
    split at h
    ·cases h
    ·rename_i hc
     have h1 : ¬ (x.a.length : Int) > 100 := fun h => hc (.inl h)
     have h2 : ¬ (x.e.length : Int) > 1000 := fun h => hc (.inr (.inl h))
     omega) _ _ _ _ hF
   exact ⟨_, rfl, fun _ => ⟨by omega, by omega, by omega, by omega, hR⟩⟩
theorem pC (r : ae) (h : r.a.length ≤ 100 ∧ r.e.length ≤ 1000) : iK r = some r := by
 unfold iK
 have hm : maxLen = 9223372036854775807 := rfl
 rw [if_pos (by unfold dy; omega), if_pos (by unfold dy; omega)]
theorem xW {s : af} {m : Nat} (h : pB s m) (hm : m ≤ 100000) : hU s = some s := by
 unfold hU
 have hx : maxLen = 9223372036854775807 := rfl
 have h1 := h.nv
 have h2 := h.nr
 have h3 := h.ni
 have h4 := h.no
 rw [if_pos ⟨by unfold dy; omega, by unfold dy; omega, by unfold dy; omega⟩]
 have := b9 (S := List ae × Int) (T := List ae) (fun i => (s.rules.take i, (i : Int))) (body := fun x => cI s x.1 x.2) s.rules.length s.rules
  (by
   intro i hi
   show cI s (s.rules.take i) (i : Int) = _
   unfold cI
   rw [if_pos (ltI hi), if_pos (inI hi)]
   simp only [Int.toNat_natCast]
   rw [pC _ (h.r _ (bi hi))]
   simp only [Option.bind_some]
   rw [if_pos (by unfold dy; simp; omega), wrs i (by omega), bD _ hi]
   rfl)
  (by
   show cI s (s.rules.take s.rules.length) (s.rules.length : Int) = _
   unfold cI
   rw [if_neg (aX _), List.take_length])
 show (aT (fun x => cI s x.1 x.2) ([], 0)).bind (fun z21 => eR s z21) = _
 have e0 : s.rules.take 0 = [] := rfl
 rw [e0] at this
 rw [show ((0 : Nat) : Int) = 0 from rfl] at this
 rw [this]
 rfl
end Pam

namespace Pam
open Go
theorem uw (l : List aI) (hl : l.length ≤ 9000000) : kS l l = some true := by
 unfold kS
 rw [if_neg (by simp), br l.length (fun _ => none) ()]
 ·rw [cS (fun _ _ => rfl)]; rfl
 ·intro i hi
  unfold ja
  rw [if_pos (ltI hi), if_pos ⟨inI hi, inI hi⟩, if_pos (by simp), wrs i (by omega)]
 ·unfold ja; rw [if_neg (aX _)]
theorem nA (r : ae) (h : r.a.length ≤ 100 ∧ r.e.length ≤ 1000) : fb r r = some true := by
 unfold fb
 rw [if_pos rfl, if_pos rfl, if_pos rfl, if_pos rfl, jm _ (by omega)]
 simp only [Option.bind_some, if_true]
 rw [uw _ (by omega)]
 rfl
theorem gO {s : af} {m : Nat} (h : pB s m) (hm : m ≤ 100000) : c9 s s = some true := by
 have h1 := h.nv
 have h2 := h.nr
 have h3 := h.ni
 have h4 := h.no
 unfold c9
 rw [if_neg (by simp), if_neg (by simp), jm _ (by omega)]
 simp only [Option.bind_some, if_true]
 rw [jm _ (by omega)]
 simp only [Option.bind_some, if_true]
 rw [br s.vars.length (fun _ => none) () (fun i hi => by
  unfold gN
  rw [if_pos (ltI hi), if_pos ⟨inI hi, inI hi⟩, if_pos ⟨rfl, rfl⟩, wrs i (by omega)]) (by unfold gN; rw [if_neg (aX _)]), cS (fun _ _ => rfl)]
 simp only [Option.bind_some, Sum.elim_inl]
 unfold eV
 rw [br s.rules.length (fun _ => none) () (fun i hi => by
  unfold gM
  rw [if_pos (ltI hi), if_pos ⟨inI hi, inI hi⟩]
  simp only [Int.toNat_natCast]
  rw [nA _ (h.r _ (bi hi)), wrs i (by omega)]
  rfl) (by unfold gM; rw [if_neg (aX _)]), cS (fun _ _ => rfl)]
 rfl
end Pam
