/- The fault of all of a system but its rules: the program and the document tell the same. -/
import Derived.Test.YtpfekllhlfodiaaSysChecksFun1
import Derived.Test.YtpfekllhlfodiaaWide1
import Derived.Test.YtpfekllhlfodiaaBase3
set_option linter.all false
namespace Pam
open Go

theorem isI_eq (v : Int) (j : Tjudge) : sys_judge_is v j = some (decide (0 ≤ v ∧ v < (j.system.vars.length : Int))) := by
  unfold sys_judge_is
  by_cases h : v ≥ 0
  · rw [if_pos h]; congr 1; rw [decide_eq_decide]; omega
  · rw [if_neg h]; congr 1; symm; rw [decide_eq_false_iff_not]; omega

theorem index_contains (l : List Int) (v : Int) (hl : l.length ≤ 9000000) : ∃ k, slices_Index_int_int l v = some k ∧ (decide (k ≥ 0)) = l.contains v := by
  unfold slices_Index_int_int
  rw [loop_upto l.length (fun i => if l.getD i default = v then some (i : Int) else none) () (fun i hi => by
    unfold slices_Index_int_int_l1
    rw [if_pos (ltI hi), if_pos (inI hi)]
    simp only [Int.toNat_natCast]
    by_cases h : l.getD i default = v
    · rw [if_pos h.symm, if_pos h]
    · rw [if_neg (fun e => h e.symm), if_neg h, wrs i (by omega)]) (by unfold slices_Index_int_int_l1; rw [if_neg (not_ltI _)])]
  rcases upto_cases l.length (fun i => if l.getD i default = v then some (i : Int) else none) () with ⟨e, h⟩ | ⟨j, z, hj, hf, e⟩
  · rw [e]
    refine ⟨-1, rfl, ?_⟩
    have : ¬ v ∈ l := by
      intro hm
      obtain ⟨i, hi, rfl⟩ := List.mem_iff_getElem.1 hm
      have := h i hi
      simp [List.getD, hi] at this
    simp [this]
  · rw [e]
    refine ⟨z, rfl, ?_⟩
    by_cases hh : l.getD j default = v
    · rw [if_pos hh] at hf
      simp only [Option.some.injEq] at hf
      subst hf
      have : v ∈ l := by rw [← hh]; exact getD_mem hj
      simp [this]
    · rw [if_neg hh] at hf; cases hf

theorem contains_eq (l : List Int) (v : Int) (hl : l.length ≤ 9000000) : slices_Contains_int_int l v = some (l.contains v) := by
  unfold slices_Contains_int_int
  obtain ⟨k, h1, h2⟩ := index_contains l v hl
  rw [h1]
  simp only [Option.bind_some, h2]

theorem refIn_eq (l : List Int) (v : Int) (hl : l.length ≤ 9000000) : ref_In l v = some (l.contains v) := by
  unfold ref_In
  rw [loop_upto l.length (fun i => if l.getD i default = v then some true else none) () (fun i hi => by
    unfold ref_In_l1
    rw [if_pos (ltI hi), if_pos (inI hi)]
    simp only [Int.toNat_natCast]
    by_cases h : l.getD i default = v
    · rw [if_pos h, if_pos h]
    · rw [if_neg h, if_neg h, wrs i (by omega)]) (by unfold ref_In_l1; rw [if_neg (not_ltI _)])]
  rcases upto_cases l.length (fun i => if l.getD i default = v then some true else none) () with ⟨e, h⟩ | ⟨j, z, hj, hf, e⟩
  · rw [e]
    have : ¬ v ∈ l := by
      intro hm
      obtain ⟨i, hi, rfl⟩ := List.mem_iff_getElem.1 hm
      have := h i hi
      simp [List.getD, hi] at this
    show some false = _
    simp [this]
  · rw [e]
    by_cases hh : l.getD j default = v
    · rw [if_pos hh] at hf
      simp only [Option.some.injEq] at hf
      subst hf
      have : v ∈ l := by rw [← hh]; exact getD_mem hj
      show some true = _
      simp [this]
    · rw [if_neg hh] at hf; cases hf

def inV (s : TSystem) (v : Int) : Prop := 0 ≤ v ∧ v < (s.vars.length : Int)
instance (s : TSystem) (v : Int) : Decidable (inV s v) := inferInstanceAs (Decidable (_ ∧ _))

def varG (x : TVar) (i : Nat) : Option TFault :=
  if ¬ x.elem = 105 ∧ ¬ x.elem = 98 then some (TFault.mk 10 (-2 - i)) else if x.n < 0 ∨ x.n > 300 then some (TFault.mk 13 (-2 - i)) else none
def varF (s : TSystem) (i : Nat) : Option TFault := varG (s.vars.getD i default) i
def inF (s : TSystem) (i : Nat) : Option TFault :=
  if ¬ inV s (s.in_.getD i default) then some (TFault.mk 16 (-1)) else if (s.in_.take i).contains (s.in_.getD i default) then some (TFault.mk 8 (-1)) else none
def outF (s : TSystem) (i : Nat) : Option TFault := if ¬ inV s (s.out_.getD i default) then some (TFault.mk 16 (-1)) else none
/-- the fault of all but the rules -/
def headF (s : TSystem) : TFault :=
  if (s.vars.length : Int) > 400 ∨ (s.rules.length : Int) > 400 ∨ (s.in_.length : Int) > 400 ∨ (s.out_.length : Int) > 400 then TFault.mk 7 (-1)
  else match upto s.vars.length (varF s) () with
    | .inr z => z
    | .inl _ => match upto s.in_.length (inF s) () with
      | .inr z => z
      | .inl _ => match upto s.out_.length (outF s) () with
        | .inr z => z
        | .inl _ => TFault.mk 0 0

theorem wr2 (i : Nat) (h : i < 1000000) : IntKind.wrap .i64 (-2 - (i : Int)) = -2 - i := wr (by omega) (by omega)

theorem sysHead_eq (s : TSystem) (c : Int) : sys_judge_head (Tjudge.mk s c) = some (headF s) := by
  have out : s.out_.length ≤ 400 → sys_judge_head_j2 (Tjudge.mk s c) = some (match upto s.out_.length (outF s) () with | .inr z => z | .inl _ => TFault.mk 0 0) := by
    intro hl
    unfold sys_judge_head_j2
    rw [loop_upto s.out_.length (outF s) () (fun i hi => by
      unfold sys_judge_head_l1 outF inV
      rw [if_pos (ltI hi), if_pos (inI hi)]
      simp only [Int.toNat_natCast]
      rw [isI_eq]
      simp only [Option.bind_some]
      by_cases h : 0 ≤ s.out_.getD i default ∧ s.out_.getD i default < (s.vars.length : Int)
      · rw [if_pos (by simpa using h), if_neg (by simpa using h), wrs i (by omega)]
      · rw [if_neg (by simpa using h), if_pos h]) (by unfold sys_judge_head_l1; rw [if_neg (not_ltI _)])]
    cases upto s.out_.length (outF s) () <;> rfl
  have inn : s.in_.length ≤ 400 → s.out_.length ≤ 400 → sys_judge_head_j1 (Tjudge.mk s c) = some (match upto s.in_.length (inF s) () with
      | .inr z => z
      | .inl _ => match upto s.out_.length (outF s) () with | .inr z => z | .inl _ => TFault.mk 0 0) := by
    intro hl ho
    unfold sys_judge_head_j1
    rw [loop_upto s.in_.length (inF s) () (fun i hi => by
      unfold sys_judge_head_l2 inF inV
      rw [if_pos (ltI hi), if_pos (inI hi)]
      simp only [Int.toNat_natCast]
      rw [isI_eq]
      simp only [Option.bind_some]
      by_cases h : 0 ≤ s.in_.getD i default ∧ s.in_.getD i default < (s.vars.length : Int)
      · rw [if_pos (by simpa using h), if_pos ⟨by omega, by omega⟩, contains_eq _ _ (by simp; omega), if_neg (by simpa using h)]
        simp only [Option.bind_some]
        split
        · rfl
        · rw [wrs i (by omega)]
      · rw [if_neg (by simpa using h), if_pos h]) (by unfold sys_judge_head_l2; rw [if_neg (not_ltI _)])]
    cases upto s.in_.length (inF s) () with
    | inr z => rfl
    | inl _ => exact out ho
  have main : s.vars.length ≤ 400 → s.in_.length ≤ 400 → s.out_.length ≤ 400 → (loop (fun x14 => sys_judge_head_l3 (Tjudge.mk s c) x14) 0).bind (Sum.elim (fun _ => sys_judge_head_j1 (Tjudge.mk s c)) (fun z15 => some z15)) = some (match upto s.vars.length (varF s) () with
      | .inr z => z
      | .inl _ => match upto s.in_.length (inF s) () with
        | .inr z => z
        | .inl _ => match upto s.out_.length (outF s) () with | .inr z => z | .inl _ => TFault.mk 0 0) := by
    intro hv hl ho
    rw [loop_upto s.vars.length (varF s) () (fun i hi => by
      unfold sys_judge_head_l3 varF
      rw [if_pos (ltI hi), if_pos (inI hi)]
      simp only [Int.toNat_natCast]
      obtain ⟨x, hx⟩ : ∃ x, s.vars.getD i default = x := ⟨_, rfl⟩
      simp only [hx]
      unfold varG
      have tail : sys_judge_head_j4 (Tjudge.mk s c) (i : Int) = some (match (if x.n < 0 ∨ x.n > 300 then some (TFault.mk 13 (-2 - (i : Int))) else none) with | some z => .inr (.inr z) | none => .inl ((i + 1 : Nat) : Int)) := by
        unfold sys_judge_head_j4
        simp only [Int.toNat_natCast, hx]
        by_cases h1 : x.n < 0
        · rw [if_pos h1, if_pos (.inl h1), wr2 i (by omega)]
        · rw [if_neg h1]
          by_cases h2 : x.n > 300
          · rw [if_pos h2, if_pos (.inr h2), wr2 i (by omega)]
          · rw [if_neg h2, if_neg (by omega), wrs i (by omega)]
      by_cases h1 : x.elem = 105
      · rw [if_neg (by simpa using h1), if_neg (by simp [h1])]; rw [tail]; generalize (if x.n < 0 ∨ x.n > 300 then some (TFault.mk 13 (-2 - (i : Int))) else none) = q; cases q <;> rfl
      · rw [if_pos h1]
        by_cases h2 : x.elem = 98
        · rw [if_neg (by simpa using h2), if_neg (by simp [h2])]; rw [tail]; generalize (if x.n < 0 ∨ x.n > 300 then some (TFault.mk 13 (-2 - (i : Int))) else none) = q; cases q <;> rfl
        · rw [if_pos h2, if_pos ⟨h1, h2⟩, wr2 i (by omega)]) (by unfold sys_judge_head_l3; rw [if_neg (not_ltI _)])]
    cases upto s.vars.length (varF s) () with
    | inr z => rfl
    | inl _ => exact inn hl ho
  unfold sys_judge_head headF
  by_cases h1 : (s.vars.length : Int) > 400
  · rw [if_pos h1, if_pos (.inl h1)]
  rw [if_neg h1]
  by_cases h2 : (s.rules.length : Int) > 400
  · rw [if_pos h2, if_pos (.inr (.inl h2))]
  rw [if_neg h2]
  by_cases h3 : (s.in_.length : Int) > 400
  · rw [if_pos h3, if_pos (.inr (.inr (.inl h3)))]
  rw [if_neg h3]
  by_cases h4 : (s.out_.length : Int) > 400
  · rw [if_pos h4, if_pos (.inr (.inr (.inr h4)))]
  rw [if_neg h4, if_neg (by omega)]
  exact main (by omega) (by omega) (by omega)

theorem refHead_eq (s : TSystem) : ref_headOf s = some (headF s) := by
  have hF : ∀ a b, ref_F a b = some (TFault.mk a b) := fun _ _ => rfl
  have out : s.out_.length ≤ 400 → ref_headOf_j2 s = some (match upto s.out_.length (outF s) () with | .inr z => z | .inl _ => TFault.mk 0 0) := by
    intro hl
    unfold ref_headOf_j2
    rw [loop_upto s.out_.length (outF s) () (fun i hi => by
      unfold ref_headOf_l1 outF inV
      rw [if_pos (ltI hi), if_pos (inI hi)]
      simp only [Int.toNat_natCast]
      by_cases h1 : s.out_.getD i default < 0
      · rw [if_pos h1, if_pos (by omega), hF]; rfl
      · rw [if_neg h1]
        by_cases h2 : s.out_.getD i default ≥ (s.vars.length : Int)
        · rw [if_pos h2, if_pos (by omega), hF]; rfl
        · rw [if_neg h2, if_neg (by omega), wrs i (by omega)]) (by unfold ref_headOf_l1; rw [if_neg (not_ltI _)])]
    cases upto s.out_.length (outF s) () <;> rfl
  have inn : s.in_.length ≤ 400 → s.out_.length ≤ 400 → ref_headOf_j1 s = some (match upto s.in_.length (inF s) () with
      | .inr z => z
      | .inl _ => match upto s.out_.length (outF s) () with | .inr z => z | .inl _ => TFault.mk 0 0) := by
    intro hl ho
    unfold ref_headOf_j1
    rw [loop_upto s.in_.length (inF s) () (fun i hi => by
      unfold ref_headOf_l2 inF inV
      rw [if_pos (ltI hi), if_pos (inI hi)]
      simp only [Int.toNat_natCast]
      by_cases h1 : s.in_.getD i default < 0
      · rw [if_pos h1, if_pos (by omega), hF]; rfl
      · rw [if_neg h1]
        by_cases h2 : s.in_.getD i default ≥ (s.vars.length : Int)
        · rw [if_pos h2, if_pos (by omega), hF]; rfl
        · rw [if_neg h2, if_pos ⟨by omega, by omega⟩, if_neg (by omega), refIn_eq _ _ (by simp; omega)]
          simp only [Option.bind_some, hF]
          split
          · rfl
          · rw [wrs i (by omega)]) (by unfold ref_headOf_l2; rw [if_neg (not_ltI _)])]
    cases upto s.in_.length (inF s) () with
    | inr z => rfl
    | inl _ => exact out ho
  have main : s.vars.length ≤ 400 → s.in_.length ≤ 400 → s.out_.length ≤ 400 → (loop (fun x21 => ref_headOf_l3 s x21) 0).bind (Sum.elim (fun _ => ref_headOf_j1 s) (fun z25 => some z25)) = some (match upto s.vars.length (varF s) () with
      | .inr z => z
      | .inl _ => match upto s.in_.length (inF s) () with
        | .inr z => z
        | .inl _ => match upto s.out_.length (outF s) () with | .inr z => z | .inl _ => TFault.mk 0 0) := by
    intro hv hl ho
    rw [loop_upto s.vars.length (varF s) () (fun i hi => by
      unfold ref_headOf_l3 varF
      rw [if_pos (ltI hi), if_pos (inI hi)]
      simp only [Int.toNat_natCast]
      obtain ⟨x, hx⟩ : ∃ x, s.vars.getD i default = x := ⟨_, rfl⟩
      simp only [hx]
      unfold varG
      have tail : ref_headOf_j4 s (i : Int) = some (match (if x.n < 0 ∨ x.n > 300 then some (TFault.mk 13 (-2 - (i : Int))) else none) with | some z => .inr (.inr z) | none => .inl ((i + 1 : Nat) : Int)) := by
        unfold ref_headOf_j4
        rw [if_pos (inI hi)]
        simp only [Int.toNat_natCast, hx]
        by_cases h1 : x.n < 0
        · rw [if_pos h1, if_pos (.inl h1), wr2 i (by omega), hF]; rfl
        · rw [if_neg h1]
          by_cases h2 : x.n > 300
          · rw [if_pos h2, if_pos (.inr h2), wr2 i (by omega), hF]; rfl
          · rw [if_neg h2, if_neg (by omega), wrs i (by omega)]
      by_cases h1 : x.elem = 105
      · rw [if_neg (by simpa using h1), if_neg (by simp [h1])]; rw [tail]; generalize (if x.n < 0 ∨ x.n > 300 then some (TFault.mk 13 (-2 - (i : Int))) else none) = q; cases q <;> rfl
      · rw [if_pos h1]
        by_cases h2 : x.elem = 98
        · rw [if_neg (by simpa using h2), if_neg (by simp [h2])]; rw [tail]; generalize (if x.n < 0 ∨ x.n > 300 then some (TFault.mk 13 (-2 - (i : Int))) else none) = q; cases q <;> rfl
        · rw [if_pos h2, if_pos ⟨h1, h2⟩, wr2 i (by omega), hF]; rfl) (by unfold ref_headOf_l3; rw [if_neg (not_ltI _)])]
    cases upto s.vars.length (varF s) () with
    | inr z => rfl
    | inl _ => exact inn hl ho
  unfold ref_headOf headF
  by_cases h1 : (s.vars.length : Int) > 400
  · rw [if_pos h1, if_pos (.inl h1)]; rfl
  rw [if_neg h1]
  by_cases h3 : (s.in_.length : Int) > 400
  · rw [if_pos h3, if_pos (.inr (.inr (.inl h3)))]; rfl
  rw [if_neg h3]
  by_cases h4 : (s.out_.length : Int) > 400
  · rw [if_pos h4, if_pos (.inr (.inr (.inr h4)))]; rfl
  rw [if_neg h4]
  by_cases h2 : (s.rules.length : Int) > 400
  · rw [if_pos h2, if_pos (.inr (.inl h2))]; rfl
  rw [if_neg h2, if_neg (by omega)]
  exact main (by omega) (by omega) (by omega)
end Pam

/- Trees of a system: the program and the document find the same kind of cell, or none. -/
namespace Pam
open Go

/-- what an operator takes, makes, and of how many -/
def opT (k : Int) : Int × Int × Int :=
  if 1 ≤ k ∧ k ≤ 7 then (105, 105, 2) else if k = 8 ∨ k = 9 then (105, 98, 2) else if 10 ≤ k ∧ k ≤ 12 then (98, 98, 2) else if k = 13 then (105, 105, 1) else if k = 14 then (98, 98, 1) else (0, 0, 0)
theorem kop_eq (k : Int) : kinds_Op k = some (opT k) := by
  unfold kinds_Op opT
  repeat' split
  all_goals first
    | rfl
    | (exfalso; omega)
theorem refop_eq (k : Int) : ref_OpOf k = some (opT k) := by
  unfold ref_OpOf
  by_cases h1 : k < 1
  · rw [if_pos h1]; unfold opT
    rw [if_neg (by omega), if_neg (by omega), if_neg (by omega), if_neg (by omega), if_neg (by omega)]
  rw [if_neg h1]
  by_cases h2 : k > 14
  · rw [if_pos h2]; unfold opT
    rw [if_neg (by omega), if_neg (by omega), if_neg (by omega), if_neg (by omega), if_neg (by omega)]
  rw [if_neg h2]
  have : k = 1 ∨ k = 2 ∨ k = 3 ∨ k = 4 ∨ k = 5 ∨ k = 6 ∨ k = 7 ∨ k = 8 ∨ k = 9 ∨ k = 10 ∨ k = 11 ∨ k = 12 ∨ k = 13 ∨ k = 14 := by omega
  rcases this with rfl | rfl | rfl | rfl | rfl | rfl | rfl | rfl | rfl | rfl | rfl | rfl | rfl | rfl <;> rfl
theorem opT_nz (k : Int) : (opT k).2.2 = 0 ∨ ((opT k).1 = 105 ∨ (opT k).1 = 98) ∧ ((opT k).2.1 = 105 ∨ (opT k).2.1 = 98) := by
  unfold opT
  repeat' split
  all_goals simp
theorem opT_ar (k : Int) : (opT k).2.2 = 0 ∨ (opT k).2.2 = 1 ∨ (opT k).2.2 = 2 := by
  unfold opT
  repeat' split
  all_goals simp

/-- a step upon a stack, its top first -/
def nextS (s : TSystem) (n : Int) (p : TPush) (rs : List Int) : Option (List Int) :=
  if p.op = 1 then (if p.k = 0 then some (105 :: rs) else if p.k = 1 ∧ (p.n = 0 ∨ p.n = 1) then some (98 :: rs) else none)
  else if p.op = 2 then (if (s.vars.getD p.v.toNat default).n = 0 then some ((s.vars.getD p.v.toNat default).elem :: rs) else none)
  else if p.op = 3 then (if (s.vars.getD p.v.toNat default).n > 0 ∧ p.n ≥ 0 ∧ p.n ≤ (s.vars.getD p.v.toNat default).n - n then some ((s.vars.getD p.v.toNat default).elem :: rs) else none)
  else if p.op = 4 then (if p.n ≥ -1000000 ∧ p.n ≤ 1000000 then some (105 :: rs) else none)
  else if p.op = 5 then (match rs with
    | a :: r => if (opT p.k).2.2 = 1 ∧ a = (opT p.k).1 then some ((opT p.k).2.1 :: r) else none
    | [] => none)
  else if p.op = 6 then (match rs with
    | a :: b :: r => if (opT p.k).2.2 = 2 ∧ a = (opT p.k).1 ∧ b = (opT p.k).1 then some ((opT p.k).2.1 :: r) else none
    | _ => none)
  else if p.op = 7 then (match rs with
    | a :: b :: c :: r => if c = 98 ∧ b = a then some (a :: r) else none
    | _ => none)
  else if p.op = 8 then (match rs with
    | a :: b :: r => if (s.vars.getD p.v.toNat default).n > 0 ∧ b = 105 ∧ a = (s.vars.getD p.v.toNat default).elem then some ((s.vars.getD p.v.toNat default).elem :: r) else none
    | _ => none)
  else none

def okE (x : Int) : Prop := x = 105 ∨ x = 98
/-- a stack that trees make -/
def okS (rs : List Int) : Prop := ∀ x ∈ rs, okE x
/-- the variables of a system whose head is good -/
structure GoodV (s : TSystem) : Prop where
  e : ∀ v ∈ s.vars, okE v.elem
  n : ∀ v ∈ s.vars, 0 ≤ v.n ∧ v.n ≤ 300
def usesV (s : TSystem) (p : TPush) : Prop := (p.op = 2 ∨ p.op = 3 ∨ p.op = 8) → inV s p.v

theorem nextS_ok {s : TSystem} {n : Int} {p : TPush} {rs rs' : List Int} (hv : GoodV s) (hu : usesV s p) (hs : okS rs) (h : nextS s n p rs = some rs') : okS rs' ∧ rs'.length ≤ rs.length + 1 := by
  have hel : p.op = 2 ∨ p.op = 3 ∨ p.op = 8 → okE (s.vars.getD p.v.toNat default).elem := fun ho => hv.e _ (getD_mem (by have := hu ho; unfold inV at this; omega))
  have cons : ∀ {x : Int} {r : List Int}, okE x → okS r → okS (x :: r) := fun h1 h2 y hy => by
    rcases List.mem_cons.1 hy with rfl | hy
    · exact h1
    · exact h2 y hy
  have tl : ∀ {x : Int} {r : List Int}, okS (x :: r) → okS r := fun h1 y hy => h1 y (by simp [hy])
  have hk : ∀ m : Int, (opT p.k).2.2 = m → m ≠ 0 → okE (opT p.k).2.1 := fun m h1 h2 => by
    rcases opT_nz p.k with h | h
    · exact absurd (h1.symm.trans h) h2
    · exact h.2
  unfold nextS at h
  by_cases h1 : p.op = 1
  · rw [if_pos h1] at h
    split at h
    · simp only [Option.some.injEq] at h; subst h; exact ⟨cons (.inl rfl) hs, by simp⟩
    · split at h
      · simp only [Option.some.injEq] at h; subst h; exact ⟨cons (.inr rfl) hs, by simp⟩
      · cases h
  rw [if_neg h1] at h
  by_cases h2 : p.op = 2
  · rw [if_pos h2] at h
    split at h
    · simp only [Option.some.injEq] at h; subst h; exact ⟨cons (hel (.inl h2)) hs, by simp⟩
    · cases h
  rw [if_neg h2] at h
  by_cases h3 : p.op = 3
  · rw [if_pos h3] at h
    split at h
    · simp only [Option.some.injEq] at h; subst h; exact ⟨cons (hel (.inr (.inl h3))) hs, by simp⟩
    · cases h
  rw [if_neg h3] at h
  by_cases h4 : p.op = 4
  · rw [if_pos h4] at h
    split at h
    · simp only [Option.some.injEq] at h; subst h; exact ⟨cons (.inl rfl) hs, by simp⟩
    · cases h
  rw [if_neg h4] at h
  by_cases h5 : p.op = 5
  · rw [if_pos h5] at h
    split at h
    · split at h
      · rename_i hc
        simp only [Option.some.injEq] at h; subst h; exact ⟨cons (hk 1 hc.1 (by decide)) (tl hs), by simp⟩
      · cases h
    · cases h
  rw [if_neg h5] at h
  by_cases h6 : p.op = 6
  · rw [if_pos h6] at h
    split at h
    · split at h
      · rename_i hc
        simp only [Option.some.injEq] at h; subst h; exact ⟨cons (hk 2 hc.1 (by decide)) (tl (tl hs)), by simp⟩
      · cases h
    · cases h
  rw [if_neg h6] at h
  by_cases h7 : p.op = 7
  · rw [if_pos h7] at h
    split at h
    · split at h
      · simp only [Option.some.injEq] at h; subst h; exact ⟨cons (hs _ (by simp)) (tl (tl (tl hs))), by simp⟩
      · cases h
    · cases h
  rw [if_neg h7] at h
  by_cases h8 : p.op = 8
  · rw [if_pos h8] at h
    split at h
    · split at h
      · simp only [Option.some.injEq] at h; subst h; exact ⟨cons (hel (.inr (.inr h8))) (tl (tl hs)), by simp⟩
      · cases h
    · cases h
  rw [if_neg h8] at h
  cases h

theorem room1 (n : Nat) (h : n ≤ 1000000) : room n 1 := by
  unfold room
  have : maxLen = 9223372036854775807 := rfl
  omega

theorem rv_len (l : List Int) : l.reverse.length = l.length := by simp
theorem rv1 (a : Int) (r : List Int) : ((a :: r).reverse).getD r.length default = a ∧ ((a :: r).reverse).take r.length = r.reverse := by
  constructor
  · simp [List.getD]
  · simp
theorem rv2 (a b : Int) (r : List Int) : ((a :: b :: r).reverse).getD r.length default = b ∧ ((a :: b :: r).reverse).getD (r.length + 1) default = a ∧ ((a :: b :: r).reverse).take r.length = r.reverse := by
  refine ⟨?_, ?_, ?_⟩
  · simp [List.getD]
  · have := (rv1 a (b :: r)).1
    simpa using this
  · simp
theorem rv3 (a b c : Int) (r : List Int) : ((a :: b :: c :: r).reverse).getD r.length default = c ∧ ((a :: b :: c :: r).reverse).getD (r.length + 1) default = b ∧ ((a :: b :: c :: r).reverse).getD (r.length + 2) default = a ∧ ((a :: b :: c :: r).reverse).take r.length = r.reverse := by
  refine ⟨?_, ?_, ?_, ?_⟩
  · simp [List.getD]
  · have := (rv2 a b (c :: r)).1
    simpa using this
  · have := (rv1 a (b :: c :: r)).1
    simpa using this
  · simp

def topR (k : Nat) (rs : List Int) : Int := rs.getD (k - 1) 0
theorem top_eq (k : Nat) (rs : List Int) (hk : 1 ≤ k ∧ k ≤ 3) (hl : rs.length ≤ 1000) : sys_judge_step_1_2 (k : Int) rs.reverse = some (topR k rs) := by
  unfold sys_judge_step_1_2 topR
  rw [rv_len]
  by_cases h : (k : Int) > (rs.length : Int)
  · rw [if_pos h]
    have : rs.length ≤ k - 1 := by omega
    simp [List.getD, List.getElem?_eq_none this]
  · rw [if_neg h, wr (by omega) (by omega), if_pos (by omega)]
    congr 1
    have e : ((rs.length : Int) - (k : Int)).toNat = rs.length - k := by omega
    rw [e]
    have h1 : rs.length - k < rs.reverse.length := by simp; omega
    have h2 : k - 1 < rs.length := by omega
    simp only [List.getD, List.getElem?_eq_getElem h1, List.getElem?_eq_getElem h2, Option.getD_some, List.getElem_reverse]
    congr 1
    omega
end Pam

/- Trees of a system: both loops go as nextS says. -/
namespace Pam
open Go

theorem l1_fail {e : List TPush} {n : Int} {j : Tjudge} {l : List Int} {i : Nat} {t m : Int} (hi : i < e.length) (h : sys_judge_step_2 (e.getD i default) n j l = some (t, m, false)) :
    sys_judge_tree_l1 e n j l (i : Int) = some (.inr (.inr (0, false))) := by
  unfold sys_judge_tree_l1
  rw [if_pos (ltI hi), if_pos (inI hi)]
  simp only [Int.toNat_natCast]
  rw [h]
  rfl
theorem l1_short {e : List TPush} {n : Int} {j : Tjudge} {l : List Int} {i : Nat} {t m : Int} (hi : i < e.length) (h : sys_judge_step_2 (e.getD i default) n j l = some (t, m, true)) (hl : (l.length : Int) < t) :
    sys_judge_tree_l1 e n j l (i : Int) = some (.inr (.inr (0, false))) := by
  unfold sys_judge_tree_l1
  rw [if_pos (ltI hi), if_pos (inI hi)]
  simp only [Int.toNat_natCast]
  rw [h]
  simp only [Option.bind_some, if_true]
  rw [if_pos hl]
theorem l1_ok {e : List TPush} {n : Int} {j : Tjudge} {l : List Int} {i : Nat} {m : Int} (k : Nat) (hi : i < e.length) (h : sys_judge_step_2 (e.getD i default) n j l = some ((k : Int), m, true)) (hl : k ≤ l.length) (hb : l.length ≤ 1000) (hi' : i < 100000) :
    sys_judge_tree_l1 e n j l (i : Int) = some (.inl (l.take (l.length - k) ++ [m], ((i + 1 : Nat) : Int))) := by
  unfold sys_judge_tree_l1
  rw [if_pos (ltI hi), if_pos (inI hi)]
  simp only [Int.toNat_natCast]
  rw [h]
  simp only [Option.bind_some, if_true]
  rw [if_neg (by omega), wr (by omega) (by omega), if_pos ⟨by omega, room1 _ (by omega)⟩, wrs i (by omega)]
  have : ((l.length : Int) - (k : Int)).toNat = l.length - k := by omega
  rw [this]
  rfl

theorem push_rv (l : List Int) (x : Int) : l.reverse.take (l.reverse.length - 0) ++ [x] = (x :: l).reverse := by
  rw [Nat.sub_zero, List.take_length]; simp
theorem opT_tk {k m : Int} (h : (opT k).2.2 = m) (hm : m ≠ 0) : (opT k).1 ≠ 0 := by
  rcases opT_nz k with h' | h'
  · exact absurd (h.symm.trans h') hm
  · rcases h'.1 with h | h <;> omega

/-- what a body comes to by nextS -/
def outS {Z : Type} (z : Z) (i : Nat) : Option (List Int) → (List Int × Int) ⊕ (List Int ⊕ Z)
  | some rs' => .inl (rs'.reverse, ((i + 1 : Nat) : Int))
  | none => .inr (.inr z)

theorem sysBody {s : TSystem} {c : Int} {e : List TPush} {n : Int} {rs : List Int} {i : Nat} (hv : GoodV s) (hu : usesV s (e.getD i default)) (hs : okS rs) (hn : 1 ≤ n ∧ n ≤ 300) (hl : rs.length ≤ 900) (hi : i < e.length) (hi' : i < 100000) :
    sys_judge_tree_l1 e n (Tjudge.mk s c) rs.reverse (i : Int) = some (outS (0, false) i (nextS s n (e.getD i default) rs)) := by
  have hb : rs.reverse.length ≤ 1000 := by simp; omega
  have ok0 : ∀ m, sys_judge_step_2 (e.getD i default) n (Tjudge.mk s c) rs.reverse = some (0, m, true) → sys_judge_tree_l1 e n (Tjudge.mk s c) rs.reverse (i : Int) = some (.inl ((m :: rs).reverse, ((i + 1 : Nat) : Int))) := fun m h => by
    rw [l1_ok 0 hi h (by omega) hb hi', push_rv]
  have fail : ∀ t m, sys_judge_step_2 (e.getD i default) n (Tjudge.mk s c) rs.reverse = some (t, m, false) → sys_judge_tree_l1 e n (Tjudge.mk s c) rs.reverse (i : Int) = some (.inr (.inr (0, false))) := fun t m h => l1_fail hi h
  have okk : ∀ (k : Nat) (m : Int) (r : List Int), sys_judge_step_2 (e.getD i default) n (Tjudge.mk s c) rs.reverse = some ((k : Int), m, true) → rs.length = r.length + k → rs.reverse.take r.length = r.reverse →
      sys_judge_tree_l1 e n (Tjudge.mk s c) rs.reverse (i : Int) = some (.inl ((m :: r).reverse, ((i + 1 : Nat) : Int))) := fun k m r h h1 h2 => by
    rw [l1_ok k hi h (by rw [rv_len]; omega) hb hi', rv_len, show rs.length - k = r.length by omega, h2]
    simp
  have t1 := top_eq 1 rs (by omega) (by omega)
  have t2 := top_eq 2 rs (by omega) (by omega)
  have t3 := top_eq 3 rs (by omega) (by omega)
  simp only [Int.natCast_one, Int.cast_ofNat_Int] at t1 t2 t3
  generalize hp : e.getD i default = p at *
  have hvar : p.op = 2 ∨ p.op = 3 ∨ p.op = 8 → (0 ≤ p.v ∧ p.v < (s.vars.length : Int)) ∧ (0 ≤ (s.vars.getD p.v.toNat default).n ∧ (s.vars.getD p.v.toNat default).n ≤ 300) ∧ okE (s.vars.getD p.v.toNat default).elem := fun ho => by
    have h := hu ho
    have hm : s.vars.getD p.v.toNat default ∈ s.vars := getD_mem (by unfold inV at h; omega)
    exact ⟨h, hv.n _ hm, hv.e _ hm⟩
  by_cases h1 : p.op = 1
  · have hst : sys_judge_step_2 p n (Tjudge.mk s c) rs.reverse = if p.k = 1 then (if p.n = 0 then some (0, 98, true) else some (0, 98, p.n == 1)) else some (0, 105, p.k == 0) := by
      unfold sys_judge_step_2; rw [if_pos h1]
    unfold nextS; rw [if_pos h1]
    by_cases k0 : p.k = 0
    · rw [if_pos k0]; exact ok0 105 (by rw [hst, if_neg (by omega), k0]; rfl)
    · rw [if_neg k0]
      by_cases k1 : p.k = 1
      · by_cases n0 : p.n = 0
        · rw [if_pos ⟨k1, .inl n0⟩]; exact ok0 98 (by rw [hst, if_pos k1, if_pos n0])
        · by_cases n1 : p.n = 1
          · rw [if_pos ⟨k1, .inr n1⟩]; exact ok0 98 (by rw [hst, if_pos k1, if_neg n0, n1]; rfl)
          · rw [if_neg (by omega)]; exact fail 0 98 (by rw [hst, if_pos k1, if_neg n0, beq_eq_false_iff_ne.2 n1])
      · rw [if_neg (by omega)]; exact fail 0 105 (by rw [hst, if_neg k1, beq_eq_false_iff_ne.2 k0])
  by_cases h2 : p.op = 2
  · obtain ⟨q1, q2, q3⟩ := hvar (.inl h2)
    have hst : sys_judge_step_2 p n (Tjudge.mk s c) rs.reverse = some (0, (s.vars.getD p.v.toNat default).elem, (s.vars.getD p.v.toNat default).n == 0) := by
      unfold sys_judge_step_2; rw [if_neg h1, if_pos h2, if_pos q1]
    unfold nextS; rw [if_neg h1, if_pos h2]
    by_cases n0 : (s.vars.getD p.v.toNat default).n = 0
    · rw [if_pos n0]; exact ok0 _ (by rw [hst, n0]; rfl)
    · rw [if_neg n0]; exact fail _ _ (by rw [hst, beq_eq_false_iff_ne.2 n0])
  by_cases h3 : p.op = 3
  · obtain ⟨q1, q2, q3⟩ := hvar (.inr (.inl h3))
    have hst : sys_judge_step_2 p n (Tjudge.mk s c) rs.reverse = some (0, (s.vars.getD p.v.toNat default).elem, decide ((s.vars.getD p.v.toNat default).n > 0 ∧ p.n ≥ 0 ∧ p.n ≤ (s.vars.getD p.v.toNat default).n - n)) := by
      unfold sys_judge_step_2; rw [if_neg h1, if_neg h2, if_pos h3, if_pos q1]
      simp only
      rw [wr (by omega) (by omega)]
      by_cases a : (s.vars.getD p.v.toNat default).n > 0
      · rw [if_pos a]
        by_cases b : p.n ≥ 0
        · rw [if_pos b]; congr 3; rw [decide_eq_decide]; exact ⟨fun h => ⟨a, b, h⟩, fun h => h.2.2⟩
        · rw [if_neg b, decide_eq_false (fun h => b h.2.1)]
      · rw [if_neg a, decide_eq_false (fun h => a h.1)]
    unfold nextS; rw [if_neg h1, if_neg h2, if_pos h3]
    by_cases a : (s.vars.getD p.v.toNat default).n > 0 ∧ p.n ≥ 0 ∧ p.n ≤ (s.vars.getD p.v.toNat default).n - n
    · rw [if_pos a]; exact ok0 _ (by rw [hst, decide_eq_true a])
    · rw [if_neg a]; exact fail _ _ (by rw [hst, decide_eq_false a])
  by_cases h4 : p.op = 4
  · have hst : sys_judge_step_2 p n (Tjudge.mk s c) rs.reverse = some (0, 105, decide (p.n ≥ -1000000 ∧ p.n ≤ 1000000)) := by
      unfold sys_judge_step_2; rw [if_neg h1, if_neg h2, if_neg h3, if_pos h4]
      by_cases a : p.n ≥ -1000000
      · rw [if_pos a]; simp [a]
      · rw [if_neg a]; simp [a]
    unfold nextS; rw [if_neg h1, if_neg h2, if_neg h3, if_pos h4]
    by_cases a : p.n ≥ -1000000 ∧ p.n ≤ 1000000
    · rw [if_pos a]; exact ok0 _ (by rw [hst, decide_eq_true a])
    · rw [if_neg a]; exact fail _ _ (by rw [hst, decide_eq_false a])
  have w5 : IntKind.wrap .i64 (IntKind.wrap .i64 ((5 : Int) - 5) + 1) = 1 := by decide
  have w6 : IntKind.wrap .i64 (IntKind.wrap .i64 ((6 : Int) - 5) + 1) = 2 := by decide
  by_cases h5 : p.op = 5
  · have hst : sys_judge_step_2 p n (Tjudge.mk s c) rs.reverse = if (opT p.k).2.2 = 1 then (if topR 1 rs = (opT p.k).1 then some ((opT p.k).2.2, (opT p.k).2.1, true) else some ((opT p.k).2.2, (opT p.k).2.1, false)) else some ((opT p.k).2.2, (opT p.k).2.1, false) := by
      unfold sys_judge_step_2; rw [if_neg h1, if_neg h2, if_neg h3, if_neg h4, if_pos h5, show (p.op == 5) = true by simp [h5]]
      unfold sys_judge_step_2_j1
      rw [if_pos rfl, kop_eq]
      simp only [Option.bind_some]
      rw [h5, w5, t1]
      simp only [Option.bind_some]
      by_cases a : (opT p.k).2.2 = 1
      · rw [if_pos a, if_pos a, if_pos a]
      · rw [if_neg a, if_neg a]
    unfold nextS; rw [if_neg h1, if_neg h2, if_neg h3, if_neg h4, if_pos h5]
    by_cases a : (opT p.k).2.2 = 1
    · rw [if_pos a] at hst
      have nz := opT_tk a (by decide)
      cases rs with
      | nil =>
        rw [if_neg (by show ¬ (0 : Int) = _; omega)] at hst
        exact fail _ _ hst
      | cons x r =>
        by_cases b : x = (opT p.k).1
        · rw [if_pos (show topR 1 (x :: r) = _ from b), a] at hst
          simp only
          rw [if_pos ⟨a, b⟩]
          exact okk 1 _ r hst (by simp) (rv1 x r).2
        · rw [if_neg (show ¬ topR 1 (x :: r) = _ from b)] at hst
          simp only
          rw [if_neg (fun h => b h.2)]
          exact fail _ _ hst
    · rw [if_neg a] at hst
      have f := fail _ _ hst
      cases rs with
      | nil => exact f
      | cons x r => simp only; rw [if_neg (fun h => a h.1)]; exact f
  by_cases h6 : p.op = 6
  · have hst : sys_judge_step_2 p n (Tjudge.mk s c) rs.reverse = if (opT p.k).2.2 = 2 then (if topR 1 rs = (opT p.k).1 then some ((opT p.k).2.2, (opT p.k).2.1, topR 2 rs == (opT p.k).1) else some ((opT p.k).2.2, (opT p.k).2.1, false)) else some ((opT p.k).2.2, (opT p.k).2.1, false) := by
      unfold sys_judge_step_2; rw [if_neg h1, if_neg h2, if_neg h3, if_neg h4, if_neg h5, show (p.op == 6) = true by simp [h6]]
      unfold sys_judge_step_2_j1
      rw [if_pos rfl, kop_eq]
      simp only [Option.bind_some]
      rw [h6, w6, t1]
      simp only [Option.bind_some]
      by_cases a : (opT p.k).2.2 = 2
      · rw [if_pos a, if_pos a, if_neg (by omega : ¬ (opT p.k).2.2 = 1), t2]
        simp only [Option.bind_some]
      · rw [if_neg a, if_neg a]
    unfold nextS; rw [if_neg h1, if_neg h2, if_neg h3, if_neg h4, if_neg h5, if_pos h6]
    by_cases a : (opT p.k).2.2 = 2
    · rw [if_pos a] at hst
      have nz := opT_tk a (by decide)
      match rs, hst, okk, fail with
      | [], hst, _, fail =>
        rw [if_neg (by show ¬ (0 : Int) = _; omega)] at hst
        exact fail _ _ hst
      | [x], hst, _, fail =>
        have : (topR 2 [x] == (opT p.k).1) = false := beq_eq_false_iff_ne.2 (by show (0 : Int) ≠ _; omega)
        rw [this] at hst
        exact fail _ _ (by rw [hst]; split <;> rfl)
      | x :: y :: r, hst, okk, fail =>
        simp only
        by_cases b : x = (opT p.k).1
        · rw [if_pos (show topR 1 (x :: y :: r) = _ from b), a] at hst
          by_cases d : y = (opT p.k).1
          · rw [show (topR 2 (x :: y :: r) == (opT p.k).1) = true from beq_iff_eq.2 d] at hst
            rw [if_pos ⟨a, b, d⟩]
            exact okk 2 _ r hst (by simp) (rv2 x y r).2.2
          · rw [show (topR 2 (x :: y :: r) == (opT p.k).1) = false from beq_eq_false_iff_ne.2 d] at hst
            rw [if_neg (fun h => d h.2.2)]
            exact fail _ _ hst
        · rw [if_neg (show ¬ topR 1 (x :: y :: r) = _ from b)] at hst
          rw [if_neg (fun h => b h.2.1)]
          exact fail _ _ hst
    · rw [if_neg a] at hst
      have f := fail _ _ hst
      match rs, f with
      | [], f => exact f
      | [x], f => exact f
      | x :: y :: r, f => simp only; rw [if_neg (fun h => a h.1)]; exact f
  by_cases h7 : p.op = 7
  · have hst : sys_judge_step_2 p n (Tjudge.mk s c) rs.reverse = if topR 3 rs = 98 then (if topR 1 rs = topR 2 rs then some (3, topR 1 rs, topR 1 rs != 0) else some (3, topR 1 rs, false)) else some (3, topR 1 rs, false) := by
      unfold sys_judge_step_2; rw [if_neg h1, if_neg h2, if_neg h3, if_neg h4, if_neg h5, show (p.op == 6) = false by simp [h6]]
      unfold sys_judge_step_2_j1
      rw [if_neg (by decide), if_pos h7, t1, t3]
      simp only [Option.bind_some]
      rw [t2]
      simp only [Option.bind_some]
    unfold nextS; rw [if_neg h1, if_neg h2, if_neg h3, if_neg h4, if_neg h5, if_neg h6, if_pos h7]
    match rs, hst, okk, fail, hs with
    | [], hst, _, fail, _ => rw [if_neg (by show ¬ (0 : Int) = _; omega)] at hst; exact fail _ _ hst
    | [x], hst, _, fail, _ => rw [if_neg (by show ¬ (0 : Int) = _; omega)] at hst; exact fail _ _ hst
    | [x, y], hst, _, fail, _ => rw [if_neg (by show ¬ (0 : Int) = _; omega)] at hst; exact fail _ _ hst
    | x :: y :: z :: r, hst, okk, fail, hs =>
      simp only
      by_cases b : z = 98
      · rw [if_pos (show topR 3 (x :: y :: z :: r) = 98 from b)] at hst
        by_cases d : y = x
        · have hx : x ≠ 0 := by rcases hs x (by simp) with h | h <;> omega
          rw [if_pos (show topR 1 (x :: y :: z :: r) = topR 2 (x :: y :: z :: r) from d.symm), show (topR 1 (x :: y :: z :: r) != 0) = true from bne_iff_ne.2 hx] at hst
          rw [if_pos ⟨b, d⟩]
          exact okk 3 x r hst (by simp) (rv3 x y z r).2.2.2
        · rw [if_neg (show ¬ topR 1 (x :: y :: z :: r) = topR 2 (x :: y :: z :: r) from fun h => d h.symm)] at hst
          rw [if_neg (fun h => d h.2)]
          exact fail _ _ hst
      · rw [if_neg (show ¬ topR 3 (x :: y :: z :: r) = 98 from b)] at hst
        rw [if_neg (fun h => b h.1)]
        exact fail _ _ hst
  by_cases h8 : p.op = 8
  · obtain ⟨q1, q2, q3⟩ := hvar (.inr (.inr h8))
    have hst : sys_judge_step_2 p n (Tjudge.mk s c) rs.reverse = if (s.vars.getD p.v.toNat default).n > 0 then (if topR 1 rs = (s.vars.getD p.v.toNat default).elem then some (2, (s.vars.getD p.v.toNat default).elem, topR 2 rs == 105) else some (2, (s.vars.getD p.v.toNat default).elem, false)) else some (2, (s.vars.getD p.v.toNat default).elem, false) := by
      unfold sys_judge_step_2; rw [if_neg h1, if_neg h2, if_neg h3, if_neg h4, if_neg h5, show (p.op == 6) = false by simp [h6]]
      unfold sys_judge_step_2_j1
      rw [if_neg (by decide), if_neg h7, if_pos h8, if_pos q1, t1]
      simp only [Option.bind_some]
      rw [t2]
      simp only [Option.bind_some]
    unfold nextS; rw [if_neg h1, if_neg h2, if_neg h3, if_neg h4, if_neg h5, if_neg h6, if_neg h7, if_pos h8]
    match rs, hst, okk, fail with
    | [], hst, _, fail =>
      by_cases a : (s.vars.getD p.v.toNat default).n > 0
      · rw [if_pos a, if_neg (by show ¬ (0 : Int) = _; rcases q3 with h | h <;> omega)] at hst; exact fail _ _ hst
      · rw [if_neg a] at hst; exact fail _ _ hst
    | [x], hst, _, fail =>
      rw [show (topR 2 [x] == 105) = false from rfl] at hst
      exact fail _ _ (by rw [hst]; split <;> (try split) <;> rfl)
    | x :: y :: r, hst, okk, fail =>
      simp only
      by_cases a : (s.vars.getD p.v.toNat default).n > 0
      · rw [if_pos a] at hst
        by_cases b : x = (s.vars.getD p.v.toNat default).elem
        · rw [if_pos (show topR 1 (x :: y :: r) = _ from b)] at hst
          by_cases d : y = 105
          · rw [show (topR 2 (x :: y :: r) == 105) = true from beq_iff_eq.2 d] at hst
            rw [if_pos ⟨a, d, b⟩]
            exact okk 2 _ r hst (by simp) (rv2 x y r).2.2
          · rw [show (topR 2 (x :: y :: r) == 105) = false from beq_eq_false_iff_ne.2 d] at hst
            rw [if_neg (fun h => d h.2.1)]
            exact fail _ _ hst
        · rw [if_neg (show ¬ topR 1 (x :: y :: r) = _ from b)] at hst
          rw [if_neg (fun h => b h.2.2)]
          exact fail _ _ hst
      · rw [if_neg a] at hst
        rw [if_neg (fun h => a h.1)]
        exact fail _ _ hst
  · have hst : sys_judge_step_2 p n (Tjudge.mk s c) rs.reverse = some (0, 0, false) := by
      unfold sys_judge_step_2; rw [if_neg h1, if_neg h2, if_neg h3, if_neg h4, if_neg h5, show (p.op == 6) = false by simp [h6]]
      unfold sys_judge_step_2_j1
      rw [if_neg (by decide), if_neg h7, if_neg h8]
    unfold nextS; rw [if_neg h1, if_neg h2, if_neg h3, if_neg h4, if_neg h5, if_neg h6, if_neg h7, if_neg h8]
    exact fail _ _ hst
end Pam

/- Trees of a system: the document's loop, and both ends. -/
namespace Pam
open Go

theorem set_rv (x m : Int) (r : List Int) : ((x :: r).reverse).set r.length m = (m :: r).reverse := by simp
theorem wl1 (x : Int) (r : List Int) (h : r.length ≤ 1000) : IntKind.wrap .i64 (((x :: r).reverse.length : Int) - 1) = (r.length : Int) := by
  rw [rv_len, List.length_cons, wr (by omega) (by omega)]; omega
theorem wl2 (x y : Int) (r : List Int) (h : r.length ≤ 1000) : IntKind.wrap .i64 (((x :: y :: r).reverse.length : Int) - 2) = (r.length : Int) ∧ IntKind.wrap .i64 (((x :: y :: r).reverse.length : Int) - 1) = ((r.length + 1 : Nat) : Int) := by
  rw [rv_len, List.length_cons, List.length_cons, wr (by omega) (by omega), wr (by omega) (by omega)]; omega
theorem wl3 (x y z : Int) (r : List Int) (h : r.length ≤ 1000) : IntKind.wrap .i64 (((x :: y :: z :: r).reverse.length : Int) - 3) = (r.length : Int) ∧ IntKind.wrap .i64 (((x :: y :: z :: r).reverse.length : Int) - 2) = ((r.length + 1 : Nat) : Int) ∧
    IntKind.wrap .i64 (((x :: y :: z :: r).reverse.length : Int) - 1) = ((r.length + 2 : Nat) : Int) := by
  rw [rv_len, List.length_cons, List.length_cons, List.length_cons, wr (by omega) (by omega), wr (by omega) (by omega), wr (by omega) (by omega)]; omega
theorem push_rv' (l : List Int) (x : Int) : l.reverse ++ (lit ([x] : List Int)) = (x :: l).reverse := by simp [lit]
theorem small6_eq (n : Int) : ref_small6 n = some (decide (n ≥ -1000000 ∧ n ≤ 1000000)) := by
  unfold ref_small6
  by_cases a : n ≥ -1000000
  · rw [if_pos a]; simp [a]
  · rw [if_neg a]; simp [a]

theorem refBody {s : TSystem} {e : List TPush} {n : Int} {rs : List Int} {i : Nat} (hv : GoodV s) (hu : usesV s (e.getD i default)) (hn : 1 ≤ n ∧ n ≤ 300) (hl : rs.length ≤ 900) (hi : i < e.length) (hi' : i < 100000) :
    ref_Tree_l1 s e n rs.reverse (i : Int) = some (outS (0 : Int) i (nextS s n (e.getD i default) rs)) := by
  unfold ref_Tree_l1
  rw [if_pos (ltI hi), if_pos (inI hi)]
  simp only [Int.toNat_natCast]
  rw [wrs i (by omega)]
  obtain ⟨p, hp⟩ : ∃ p, e.getD i default = p := ⟨_, rfl⟩
  simp only [hp]
  rw [hp] at hu
  have hroom : room (rs.reverse.length + 1) 1 := room1 _ (by simp; omega)
  have hvar : p.op = 2 ∨ p.op = 3 ∨ p.op = 8 → (0 ≤ p.v ∧ p.v < (s.vars.length : Int)) ∧ (0 ≤ (s.vars.getD p.v.toNat default).n ∧ (s.vars.getD p.v.toNat default).n ≤ 300) := fun ho => by
    have h := hu ho
    have hm : s.vars.getD p.v.toNat default ∈ s.vars := getD_mem (by unfold inV at h; omega)
    exact ⟨h, hv.n _ hm⟩
  by_cases h1 : p.op = 1
  · unfold nextS; rw [if_pos h1, if_pos h1]
    by_cases k0 : p.k = 0
    · rw [if_pos k0, if_pos k0, if_pos hroom, push_rv']; rfl
    · rw [if_neg k0, if_neg k0]
      by_cases k1 : p.k = 1
      · rw [if_pos k1]
        by_cases n0 : p.n = 0
        · rw [if_pos n0, if_pos hroom, push_rv', if_pos ⟨k1, .inl n0⟩]; rfl
        · rw [if_neg n0]
          by_cases n1 : p.n = 1
          · rw [if_pos n1, if_pos hroom, push_rv', if_pos ⟨k1, .inr n1⟩]; rfl
          · rw [if_neg n1, if_neg (by omega)]; rfl
      · rw [if_neg k1, if_neg (fun h => k1 h.1)]; rfl
  rw [if_neg h1]
  by_cases h2 : p.op = 2
  · obtain ⟨q1, q2⟩ := hvar (.inl h2)
    unfold nextS; rw [if_pos h2, if_neg h1, if_pos h2, if_pos q1]
    by_cases n0 : (s.vars.getD p.v.toNat default).n = 0
    · rw [if_neg (fun h => h n0), if_pos hroom, push_rv', if_pos n0]; rfl
    · rw [if_pos n0, if_neg n0]; rfl
  rw [if_neg h2]
  by_cases h3 : p.op = 3
  · obtain ⟨q1, q2⟩ := hvar (.inr (.inl h3))
    unfold nextS; rw [if_pos h3, if_neg h1, if_neg h2, if_pos h3, if_pos q1]
    by_cases n0 : (s.vars.getD p.v.toNat default).n = 0
    · rw [if_pos n0, if_neg (by omega)]; rfl
    · rw [if_neg n0]
      by_cases a : p.n < 0
      · rw [if_pos a, if_neg (by omega)]; rfl
      · rw [if_neg a]
        by_cases b : (s.vars.getD p.v.toNat default).n < n
        · rw [if_pos b, if_neg (by omega)]; rfl
        · rw [if_neg b, wr (by omega) (by omega)]
          by_cases d : p.n > (s.vars.getD p.v.toNat default).n - n
          · rw [if_pos d, if_neg (by omega)]; rfl
          · rw [if_neg d, if_pos hroom, push_rv', if_pos (by omega)]; rfl
  rw [if_neg h3]
  by_cases h4 : p.op = 4
  · unfold nextS; rw [if_pos h4, if_neg h1, if_neg h2, if_neg h3, if_pos h4, small6_eq]
    simp only [Option.bind_some]
    by_cases a : p.n ≥ -1000000 ∧ p.n ≤ 1000000
    · rw [if_pos (decide_eq_true a), if_pos hroom, push_rv', if_pos a]; rfl
    · rw [if_neg (by simpa using a), if_neg a]; rfl
  rw [if_neg h4]
  by_cases h5 : p.op = 5
  · unfold nextS; rw [if_pos h5, if_neg h1, if_neg h2, if_neg h3, if_neg h4, if_pos h5, refop_eq]
    simp only [Option.bind_some]
    match rs, hl with
    | [], _ =>
      split
      · rfl
      · rw [if_pos (by simp)]; rfl
    | x :: r, hl =>
      simp only [List.length_cons] at hl
      simp only
      by_cases a : (opT p.k).2.2 = 1
      · rw [if_neg (fun h => h a), if_neg (by rw [rv_len]; simp; omega), wl1 _ _ (by omega), if_pos ⟨by omega, by rw [rv_len]; simp; omega⟩]
        simp only [Int.toNat_natCast]
        simp only [(rv1 x r).1]
        by_cases b : x = (opT p.k).1
        · rw [if_neg (fun h => h b), set_rv, if_pos ⟨a, b⟩]; rfl
        · rw [if_pos b, if_neg (fun h => b h.2)]; rfl
      · rw [if_pos a, if_neg (fun h => a h.1)]; rfl
  rw [if_neg h5]
  by_cases h6 : p.op = 6
  · unfold nextS; rw [if_pos h6, if_neg h1, if_neg h2, if_neg h3, if_neg h4, if_neg h5, if_pos h6, refop_eq]
    simp only [Option.bind_some]
    match rs, hl with
    | [], _ =>
      split
      · rfl
      · rw [if_pos (by simp)]; rfl
    | [x], _ =>
      split
      · rfl
      · rw [if_pos (by simp)]; rfl
    | x :: y :: r, hl =>
      simp only [List.length_cons] at hl
      simp only
      obtain ⟨w2, w1⟩ := wl2 x y r (by omega)
      obtain ⟨g1, g2, g3⟩ := rv2 x y r
      by_cases a : (opT p.k).2.2 = 2
      · rw [if_neg (fun h => h a), if_neg (by rw [rv_len]; simp; omega), w1, if_pos ⟨by omega, by rw [rv_len]; simp; omega⟩]
        simp only [Int.toNat_natCast]
        simp only [g2]
        by_cases b : x = (opT p.k).1
        · rw [if_neg (fun h => h b), w2, if_pos ⟨by omega, by rw [rv_len]; simp; omega⟩]
          simp only [Int.toNat_natCast]
          simp only [g1]
          by_cases d : y = (opT p.k).1
          · rw [if_neg (fun h => h d), if_pos ⟨⟨by omega, by rw [rv_len]; simp; omega⟩, room1 _ (by omega)⟩, g3, push_rv', if_pos ⟨a, b, d⟩]; rfl
          · rw [if_pos d, if_neg (fun h => d h.2.2)]; rfl
        · rw [if_pos b, if_neg (fun h => b h.2.1)]; rfl
      · rw [if_pos a, if_neg (fun h => a h.1)]; rfl
  rw [if_neg h6]
  by_cases h7 : p.op = 7
  · unfold nextS; rw [if_pos h7, if_neg h1, if_neg h2, if_neg h3, if_neg h4, if_neg h5, if_neg h6, if_pos h7]
    match rs, hl with
    | [], _ => rw [if_pos (by simp)]; rfl
    | [x], _ => rw [if_pos (by simp)]; rfl
    | [x, y], _ => rw [if_pos (by simp)]; rfl
    | x :: y :: z :: r, hl =>
      simp only [List.length_cons] at hl
      simp only
      obtain ⟨w3, w2, w1⟩ := wl3 x y z r (by omega)
      obtain ⟨g1, g2, g3, g4⟩ := rv3 x y z r
      rw [if_neg (by rw [rv_len]; simp; omega), w3, if_pos ⟨by omega, by rw [rv_len]; simp; omega⟩]
      simp only [Int.toNat_natCast]
      simp only [g1]
      by_cases b : z = 98
      · rw [if_neg (fun h => h b), w2, w1, if_pos ⟨⟨by omega, by rw [rv_len]; simp; omega⟩, by omega, by rw [rv_len]; simp; omega⟩]
        simp only [Int.toNat_natCast]
        simp only [g2, g3]
        by_cases d : y = x
        · rw [if_neg (fun h => h d), if_pos ⟨⟨by omega, by rw [rv_len]; simp; omega⟩, room1 _ (by omega)⟩, g4, push_rv', if_pos ⟨b, d⟩]; rfl
        · rw [if_pos d, if_neg (fun h => d h.2)]; rfl
      · rw [if_pos b, if_neg (fun h => b h.1)]; rfl
  rw [if_neg h7]
  by_cases h8 : p.op = 8
  · obtain ⟨q1, q2⟩ := hvar (.inr (.inr h8))
    unfold nextS; rw [if_pos h8, if_neg h1, if_neg h2, if_neg h3, if_neg h4, if_neg h5, if_neg h6, if_neg h7, if_pos h8, if_pos q1]
    match rs, hl with
    | [], _ =>
      split
      · rfl
      · rw [if_pos (by simp)]; rfl
    | [x], _ =>
      split
      · rfl
      · rw [if_pos (by simp)]; rfl
    | x :: y :: r, hl =>
      simp only [List.length_cons] at hl
      simp only
      obtain ⟨w2, w1⟩ := wl2 x y r (by omega)
      obtain ⟨g1, g2, g3⟩ := rv2 x y r
      by_cases a : (s.vars.getD p.v.toNat default).n = 0
      · rw [if_pos a, if_neg (by omega)]; rfl
      · rw [if_neg a, if_neg (by rw [rv_len]; simp; omega), w2, if_pos ⟨by omega, by rw [rv_len]; simp; omega⟩]
        simp only [Int.toNat_natCast]
        simp only [g1]
        by_cases b : y = 105
        · rw [if_neg (fun h => h b), w1, if_pos ⟨by omega, by rw [rv_len]; simp; omega⟩]
          simp only [Int.toNat_natCast]
          simp only [g2]
          by_cases d : x = (s.vars.getD p.v.toNat default).elem
          · rw [if_neg (fun h => h d), if_pos ⟨⟨by omega, by rw [rv_len]; simp; omega⟩, room1 _ (by omega)⟩, g3, push_rv', if_pos ⟨by omega, b, d⟩]; rfl
          · rw [if_pos d, if_neg (fun h => d h.2.2)]; rfl
        · rw [if_pos b, if_neg (fun h => b h.2.1)]; rfl
  · rw [if_neg h8]
    unfold nextS; rw [if_neg h1, if_neg h2, if_neg h3, if_neg h4, if_neg h5, if_neg h6, if_neg h7, if_neg h8]; rfl

/-- a tree, from a stack on -/
def treeS (s : TSystem) (n : Int) : List TPush → List Int → Option (List Int)
  | [], rs => some rs
  | p :: e, rs => match nextS s n p rs with | some rs' => treeS s n e rs' | none => none
/-- what a tree makes; 0: it is none -/
def treeV (s : TSystem) (n : Int) (e : List TPush) : Int := match treeS s n e [] with | some [x] => x | _ => 0

theorem foldE_tree {Z : Type} (s : TSystem) (n : Int) (z : Z) : ∀ (e : List TPush) (i : Nat) (rs : List Int), foldE (fun _ a p => match nextS s n p a with | some a' => .inl a' | none => .inr z) i e rs = match treeS s n e rs with | some a => .inl a | none => .inr z
  | [], i, rs => rfl
  | p :: e, i, rs => by
    rw [foldE, treeS]
    cases nextS s n p rs with
    | none => rfl
    | some a => exact foldE_tree s n z e (i + 1) a

theorem tree_both {s : TSystem} {c : Int} {e : List TPush} {n : Int} (hv : GoodV s) (hu : ∀ p ∈ e, usesV s p) (hn : 1 ≤ n ∧ n ≤ 300) (he : e.length ≤ 800) :
    (∃ q : Int × Bool, sys_judge_tree e n (Tjudge.mk s c) = some q ∧ (q.2 = true → q.1 = treeV s n e ∧ okE q.1) ∧ (q.2 = false → treeV s n e = 0)) ∧ ref_Tree s e n = some (treeV s n e) := by
  have I : ∀ (i : Nat) (a : List Int), i < e.length → (okS a ∧ a.length ≤ i) → ∀ a', nextS s n (e.getD i default) a = some a' → okS a' ∧ a'.length ≤ i + 1 := by
    intro i a hi ha a' h
    obtain ⟨k1, k2⟩ := nextS_ok hv (hu _ (getD_mem hi)) ha.1 h
    exact ⟨k1, by omega⟩
  obtain ⟨h1, h2⟩ := loop_foldE (A := List Int) (T := TPush) (O := List Int) (Z := Int × Bool) (S := List Int × Int) (fun a i => (a.reverse, i)) (body := fun x => sys_judge_tree_l1 e n (Tjudge.mk s c) x.1 x.2) e
    (fun _ a p => match nextS s n p a with | some a' => .inl a' | none => .inr (0, false)) (fun i a => okS a ∧ a.length ≤ i) (fun a => a.reverse) [] ⟨fun x hx => by simp at hx, by simp⟩
    (by
      intro i a hi ha
      refine ⟨?_, ?_⟩
      · show sys_judge_tree_l1 e n (Tjudge.mk s c) a.reverse (i : Int) = _
        rw [sysBody hv (hu _ (getD_mem hi)) ha.1 hn (by omega) hi (by omega)]
        cases nextS s n (e.getD i default) a <;> rfl
      · intro a' h
        cases hx : nextS s n (e.getD i default) a with
        | none => rw [hx] at h; cases h
        | some b =>
          rw [hx] at h
          simp only [Sum.inl.injEq] at h
          subst h
          exact I i a hi ha b hx)
    (by
      intro a _
      show sys_judge_tree_l1 e n (Tjudge.mk s c) a.reverse (e.length : Int) = _
      unfold sys_judge_tree_l1
      rw [if_neg (not_ltI _)])
  obtain ⟨h3, h4⟩ := loop_foldE (A := List Int) (T := TPush) (O := List Int) (Z := Int) (S := List Int × Int) (fun a i => (a.reverse, i)) (body := fun x => ref_Tree_l1 s e n x.1 x.2) e
    (fun _ a p => match nextS s n p a with | some a' => .inl a' | none => .inr 0) (fun i a => okS a ∧ a.length ≤ i) (fun a => a.reverse) [] ⟨fun x hx => by simp at hx, by simp⟩
    (by
      intro i a hi ha
      refine ⟨?_, ?_⟩
      · show ref_Tree_l1 s e n a.reverse (i : Int) = _
        rw [refBody hv (hu _ (getD_mem hi)) hn (by omega) hi (by omega)]
        cases nextS s n (e.getD i default) a <;> rfl
      · intro a' h
        cases hx : nextS s n (e.getD i default) a with
        | none => rw [hx] at h; cases h
        | some b =>
          rw [hx] at h
          simp only [Sum.inl.injEq] at h
          subst h
          exact I i a hi ha b hx)
    (by
      intro a _
      show ref_Tree_l1 s e n a.reverse (e.length : Int) = _
      unfold ref_Tree_l1
      rw [if_neg (not_ltI _)])
  rw [foldE_tree] at h1 h2 h3
  have e1 : sys_judge_tree e n (Tjudge.mk s c) = (loop (fun x : List Int × Int => sys_judge_tree_l1 e n (Tjudge.mk s c) x.1 x.2) (([] : List Int).reverse, 0)).bind (Sum.elim (fun z => sys_judge_tree_j1 z) (fun z => some z)) := rfl
  have e2 : ref_Tree s e n = (loop (fun x : List Int × Int => ref_Tree_l1 s e n x.1 x.2) (([] : List Int).reverse, 0)).bind (Sum.elim (fun z => ref_Tree_j1 z) (fun z => some z)) := rfl
  rw [e1, e2, h1, h3]
  simp only [Option.bind_some]
  unfold treeV
  cases ht : treeS s n e [] with
  | none => exact ⟨⟨(0, false), rfl, fun h => (by cases h), fun _ => rfl⟩, rfl⟩
  | some a =>
    have ha := (h2 a (by rw [ht])).1
    simp only [Sum.elim_inl]
    match a, ha with
    | [], _ =>
      refine ⟨⟨(0, false), ?_, fun h => (by cases h), fun _ => rfl⟩, ?_⟩
      · unfold sys_judge_tree_j1; rw [if_pos (by simp)]
      · unfold ref_Tree_j1; rw [if_pos (by simp)]
    | [x], ha =>
      refine ⟨⟨(x, true), ?_, fun _ => ⟨rfl, ha x (by simp)⟩, fun h => by cases h⟩, ?_⟩
      · unfold sys_judge_tree_j1; rw [if_neg (by simp), if_pos (by simp)]; rfl
      · unfold ref_Tree_j1; rw [if_neg (by simp), if_pos (by simp)]; rfl
    | x :: y :: r, _ =>
      refine ⟨⟨(0, false), ?_, fun h => (by cases h), fun _ => rfl⟩, ?_⟩
      · unfold sys_judge_tree_j1; rw [if_pos (by simp; omega)]
      · unfold ref_Tree_j1; rw [if_pos (by simp; omega)]
end Pam

/- What a rule makes fits what it takes: the program and the document tell the same. -/
namespace Pam
open Go

def vOf (s : TSystem) (x : Int) : TVar := s.vars.getD x.toNat default
theorem vOf_eq (s : TSystem) (x : Int) : s.vars.getD x.toNat default = vOf s x := by rw [vOf]
def sameB (a b : TVar) : Bool := a.elem == b.elem && a.n == b.n
def sameF (s : TSystem) (l : List Int) (i : Nat) : Option Bool := if sameB (vOf s (l.getD i default)) (vOf s (l.getD 0 default)) then none else some false

theorem sameF_all (s : TSystem) (l : List Int) : (match upto l.length (sameF s l) () with | .inr z => z | .inl _ => true) = l.all (fun x => sameB (vOf s x) (vOf s (l.getD 0 default))) := by
  rcases upto_cases l.length (sameF s l) () with ⟨e, h⟩ | ⟨j, z, hj, hf, e⟩
  · rw [e]
    symm
    show _ = true
    rw [List.all_eq_true]
    intro x hx
    obtain ⟨i, hi, rfl⟩ := List.mem_iff_getElem.1 hx
    have := h i hi
    unfold sameF at this
    have e2 : l.getD i default = l[i] := by simp [List.getD, hi]
    rw [e2] at this
    split at this
    · assumption
    · cases this
  · rw [e]
    unfold sameF at hf
    split at hf
    · cases hf
    · rename_i hb
      simp only [Option.some.injEq] at hf
      subst hf
      symm
      show _ = false
      rw [List.all_eq_false]
      exact ⟨_, getD_mem hj, hb⟩

theorem sameB_iff (a b : TVar) : sameB a b = true ↔ a.elem = b.elem ∧ a.n = b.n := by unfold sameB; simp

theorem same_eq {s : TSystem} {c : Int} {l : List Int} (hl : 0 < l.length) (hb : l.length ≤ 1000) (hin : ∀ x ∈ l, inV s x) :
    sys_judge_same l (Tjudge.mk s c) = some (l.all (fun x => sameB (vOf s x) (vOf s (l.getD 0 default)))) := by
  unfold sys_judge_same
  rw [loop_upto l.length (sameF s l) () (fun i hi => by
    unfold sys_judge_same_l1 sameF
    have g0 := hin _ (getD_mem (l := l) (i := 0) hl)
    have gi := hin _ (getD_mem hi)
    unfold inV at g0 gi
    rw [if_pos (ltI hi), if_pos (inI hi)]
    simp only [Int.toNat_natCast]
    rw [if_pos ⟨gi, by omega, g0⟩, wrs i (by omega)]
    simp only [vOf_eq]
    by_cases h : sameB (vOf s (l.getD i default)) (vOf s (l.getD 0 default)) = true
    · rw [if_pos ((sameB_iff _ _).1 h), if_pos h]
    · rw [if_neg (fun h' => h ((sameB_iff _ _).2 h')), if_neg h]) (by unfold sys_judge_same_l1; rw [if_neg (not_ltI _)])]
  rw [← sameF_all]
  cases upto l.length (sameF s l) () <;> rfl
theorem same2_eq {s : TSystem} {c : Int} {l : List Int} (hl : 0 < l.length) (hb : l.length ≤ 1000) (hin : ∀ x ∈ l, inV s x) :
    sys_judge_same_2 (Tjudge.mk s c) l = some (l.all (fun x => sameB (vOf s x) (vOf s (l.getD 0 default)))) := by
  unfold sys_judge_same_2
  rw [loop_upto l.length (sameF s l) () (fun i hi => by
    unfold sys_judge_same_2_l1 sameF
    have g0 := hin _ (getD_mem (l := l) (i := 0) hl)
    have gi := hin _ (getD_mem hi)
    unfold inV at g0 gi
    rw [if_pos (ltI hi), if_pos (inI hi)]
    simp only [Int.toNat_natCast]
    rw [if_pos ⟨gi, by omega, g0⟩, wrs i (by omega)]
    simp only [vOf_eq]
    by_cases h : sameB (vOf s (l.getD i default)) (vOf s (l.getD 0 default)) = true
    · rw [if_pos ((sameB_iff _ _).1 h), if_pos h]
    · rw [if_neg (fun h' => h ((sameB_iff _ _).2 h')), if_neg h]) (by unfold sys_judge_same_2_l1; rw [if_neg (not_ltI _)])]
  rw [← sameF_all]
  cases upto l.length (sameF s l) () <;> rfl

def foldsK (k : Int) : Bool := (opT k).2.2 == 2 && (opT k).1 == (opT k).2.1
theorem kfolds_eq (k : Int) : kinds_Folds k = some (foldsK k) := by
  unfold kinds_Folds foldsK
  rw [kop_eq]
  simp only [Option.bind_some]
  split
  · rename_i h; rw [h]; rfl
  · rename_i h; rw [beq_eq_false_iff_ne.2 h]; rfl
theorem rfolds_eq (k : Int) : ref_Folds k = some (foldsK k) := by
  unfold ref_Folds foldsK
  rw [refop_eq]
  simp only [Option.bind_some]
  split
  · rename_i h; rw [h]; rfl
  · rename_i h; rw [beq_eq_false_iff_ne.2 h]; rfl

def cellsV (n : Int) : Int := if n < 1 then 1 else n
theorem refCells_eq (n : Int) : ref_Cells n = some (cellsV n) := by
  unfold ref_Cells cellsV; split <;> rfl
theorem maxV (n : Int) : (if 1 > n then 1 else n) = cellsV n := rfl

/-- the kinds of what is taken, three of them -/
def argsV (s : TSystem) (a : List Int) : List TVar := [if 0 < a.length then vOf s (a.getD 0 default) else ⟨0, 0⟩, if 1 < a.length then vOf s (a.getD 1 default) else ⟨0, 0⟩, if 2 < a.length then vOf s (a.getD 2 default) else ⟨0, 0⟩]

theorem l1_step {s : TSystem} {r : TRule} {i : Nat} {l : List TVar} (hi : i < r.a.length) (h3 : r.a.length ≤ 3) (hl : l.length = 3) (hin : ∀ x ∈ r.a, inV s x) :
    ref_typesFit_l1 s r l (i : Int) = some (.inl (l.set i (vOf s (r.a.getD i default)), ((i + 1 : Nat) : Int))) := by
  unfold ref_typesFit_l1
  have gi := hin _ (getD_mem hi)
  unfold inV at gi
  rw [if_pos (ltI hi)]
  simp only [Int.toNat_natCast]
  rw [if_pos ⟨inI hi, gi, by omega, by omega⟩, wrs i (by omega)]
  rfl

theorem fit_loop {s : TSystem} {r : TRule} (h3 : r.a.length ≤ 3) (hin : ∀ x ∈ r.a, inV s x) :
    loop (fun x : List TVar × Int => ref_typesFit_l1 s r x.1 x.2) (List.replicate 3 (TVar.mk 0 0), 0) = some (argsV s r.a) := by
  have fin : ∀ l, loop (fun x : List TVar × Int => ref_typesFit_l1 s r x.1 x.2) (l, (r.a.length : Int)) = some l := fun l => loop_done (by
    show ref_typesFit_l1 s r l (r.a.length : Int) = _
    unfold ref_typesFit_l1
    rw [if_neg (not_ltI _)])
  have nx : ∀ (i : Nat) (l : List TVar), i < r.a.length → l.length = 3 → loop (fun x : List TVar × Int => ref_typesFit_l1 s r x.1 x.2) (l, (i : Int)) = loop (fun x : List TVar × Int => ref_typesFit_l1 s r x.1 x.2) (l.set i (vOf s (r.a.getD i default)), ((i + 1 : Nat) : Int)) :=
    fun i l hi hl => loop_next (l1_step hi h3 hl hin)
  have e : r.a.length = 0 ∨ r.a.length = 1 ∨ r.a.length = 2 ∨ r.a.length = 3 := by omega
  unfold argsV
  rcases e with e | e | e | e
  · have := fin (List.replicate 3 (TVar.mk 0 0))
    rw [e] at this ⊢
    exact this
  · have h0 := nx 0 (List.replicate 3 (TVar.mk 0 0)) (by omega) rfl
    have := fin ((List.replicate 3 (TVar.mk 0 0)).set 0 (vOf s (r.a.getD 0 default)))
    rw [e] at this ⊢
    exact h0.trans this
  · have h0 := nx 0 (List.replicate 3 (TVar.mk 0 0)) (by omega) rfl
    have h1 := nx 1 ((List.replicate 3 (TVar.mk 0 0)).set 0 (vOf s (r.a.getD 0 default))) (by omega) rfl
    have := fin (((List.replicate 3 (TVar.mk 0 0)).set 0 (vOf s (r.a.getD 0 default))).set 1 (vOf s (r.a.getD 1 default)))
    rw [e] at this ⊢
    exact h0.trans (h1.trans this)
  · have h0 := nx 0 (List.replicate 3 (TVar.mk 0 0)) (by omega) rfl
    have h1 := nx 1 ((List.replicate 3 (TVar.mk 0 0)).set 0 (vOf s (r.a.getD 0 default))) (by omega) rfl
    have h2 := nx 2 (((List.replicate 3 (TVar.mk 0 0)).set 0 (vOf s (r.a.getD 0 default))).set 1 (vOf s (r.a.getD 1 default))) (by omega) rfl
    have := fin ((((List.replicate 3 (TVar.mk 0 0)).set 0 (vOf s (r.a.getD 0 default))).set 1 (vOf s (r.a.getD 1 default))).set 2 (vOf s (r.a.getD 2 default)))
    rw [e] at this ⊢
    exact h0.trans (h1.trans (h2.trans this))

theorem refFit_eq {s : TSystem} {r : TRule} (ho : inV s r.out_) (h3 : r.a.length ≤ 3) (hin : ∀ x ∈ r.a, inV s x) : ref_typesFit s r = ref_typesFit_j1 s r (argsV s r.a) := by
  unfold ref_typesFit
  unfold inV at ho
  rw [if_pos ho]
  show (loop (fun x : List TVar × Int => ref_typesFit_l1 s r x.1 x.2) (List.replicate 3 (TVar.mk 0 0), 0)).bind (fun z21 => ref_typesFit_j1 s r z21) = _
  rw [fit_loop h3 hin]
  rfl
end Pam

/- The variables that a rule uses: the program and the document tell the same list. -/
namespace Pam
open Go

def nmd (p : TPush) : Bool := p.op == 2 || p.op == 3 || p.op == 8
/-- all variables that are named, one behind the other -/
def namesL (l : List Int) : List TPush → List Int
  | [] => l
  | p :: e => namesL (if nmd p then l ++ [p.v] else l) e
theorem namesL_eq (l : List Int) (e : List TPush) : namesL l e = e.foldl (fun l p => if nmd p then l ++ [p.v] else l) l := by
  induction e generalizing l with
  | nil => rfl
  | cons p e ih => rw [namesL, ih]; rfl

def usesOf (a : List Int) (e : List TPush) : List Int := (e.foldl (fun l p => if nmd p then l ++ [p.v] else l) a).foldl ins []

theorem wrN (i : Nat) (h : i < 1000000000) : IntKind.wrap .i64 ((i : Int) + 1) = ((i + 1 : Nat) : Int) := wrs i (by omega)

theorem room8 (n : Nat) (h : n ≤ 1000000) : room n 8 := by
  unfold room
  have : maxLen = 9223372036854775807 := rfl
  omega

theorem clone_eq (l : List Int) (h : l.length ≤ 1000000) : slices_Clone_int_int l = some l := by
  unfold slices_Clone_int_int
  by_cases e : l = []
  · rw [if_pos e, e]
  · rw [if_neg e, if_pos (room8 _ h)]
theorem clone_eq2 (l : List Int) (h : l.length ≤ 1000000) : slices_Clone_int_int_2 l = some l := by
  unfold slices_Clone_int_int_2
  by_cases e : l.length = 0
  · rw [if_pos e, List.length_eq_zero_iff.1 e]
  · rw [if_neg e, if_pos (room8 _ h)]

theorem usesEnd (l : List Int) (h : l.length ≤ 2000000) : (slices_Sort_int_int l).bind (fun y6 => (slices_Compact_int_int l.length y6).bind fun y7 => some y7) = some (l.foldl ins []) := by
  unfold slices_Sort_int_int slices_Compact_int_int
  rw [if_pos (by omega)]
  show (if l.length = (sortI l).length ∧ (sortI l).length ≤ 140737488355328 then some (Go.Lib.compact (sortI l)) else none).bind (fun y7 => some y7) = _
  rw [if_pos ⟨(sortI_length l).symm, by rw [sortI_length]; omega⟩, compact_sort_eq]
  rfl

theorem sysUses_eq (r : TRule) (ha : r.a.length ≤ 500000) (he : r.e.length ≤ 500000) : sys_Uses r = some (usesOf r.a r.e) := by
  unfold sys_Uses
  rw [clone_eq _ (by omega)]
  show (loop (fun (x : List Int × Int) => sys_Uses_l1 r x.1 x.2) (r.a, 0)).bind (fun z26 => sys_Uses_j1 z26) = _
  obtain ⟨h1, h2⟩ := loop_fold (A := List Int) (T := TPush) (O := List Int) (S := List Int × Int) (fun a i => (a, i)) (body := fun x => sys_Uses_l1 r x.1 x.2) r.e (fun l p => if nmd p then l ++ [p.v] else l)
    (fun i a => a.length ≤ r.a.length + i) (fun a => a) r.a (by omega)
    (by
      intro i a hi hI
      have step : ∀ b : Bool, b = nmd (r.e.getD i default) → sys_Uses_j2 r a (i : Int) b = some (.inl ((if nmd (r.e.getD i default) then a ++ [(r.e.getD i default).v] else a), ((i + 1 : Nat) : Int))) := by
        intro b hb
        subst hb
        unfold sys_Uses_j2
        rw [wrN i (by omega)]
        cases nmd (r.e.getD i default)
        · rfl
        · rw [if_pos rfl, if_pos (room8 _ (by omega))]; rfl
      refine ⟨?_, ?_⟩
      · show sys_Uses_l1 r a (i : Int) = _
        unfold sys_Uses_l1
        rw [if_pos (ltI hi), if_pos (inI hi)]
        simp only [Int.toNat_natCast]
        split
        · rename_i h; exact step _ (by unfold nmd; rw [h]; rfl)
        · rename_i h
          split
          · rename_i h'; exact step _ (by unfold nmd; rw [h']; rfl)
          · rename_i h'; exact step _ (by unfold nmd; rw [beq_eq_false_iff_ne.2 h, beq_eq_false_iff_ne.2 h']; rfl)
      · split
        · simp; omega
        · omega)
    (by
      intro a hI
      show sys_Uses_l1 r a (r.e.length : Int) = _
      unfold sys_Uses_l1
      rw [if_neg (not_ltI _)])
  rw [h1]
  exact usesEnd _ (by omega)

theorem sysUses_eq2 (p1 p2 p3 p4 : Int) (la : List Int) (le : List TPush) (ha : la.length ≤ 500000) (he : le.length ≤ 500000) : sys_Uses_2 p1 p2 p3 p4 la le = some (usesOf la le) := by
  unfold sys_Uses_2
  rw [clone_eq2 _ (by omega)]
  show (loop (fun (x : List Int × Int) => sys_Uses_2_l1 le x.1 x.2) (la, 0)).bind (fun z26 => sys_Uses_2_j1 z26) = _
  obtain ⟨h1, h2⟩ := loop_fold (A := List Int) (T := TPush) (O := List Int) (S := List Int × Int) (fun a i => (a, i)) (body := fun x => sys_Uses_2_l1 le x.1 x.2) le (fun l p => if nmd p then l ++ [p.v] else l)
    (fun i a => a.length ≤ la.length + i) (fun a => a) la (by omega)
    (by
      intro i a hi hI
      have step : ∀ b : Bool, b = nmd (le.getD i default) → sys_Uses_2_j2 le a (i : Int) b = some (.inl ((if nmd (le.getD i default) then a ++ [(le.getD i default).v] else a), ((i + 1 : Nat) : Int))) := by
        intro b hb
        subst hb
        unfold sys_Uses_2_j2
        rw [wrN i (by omega)]
        cases nmd (le.getD i default)
        · rfl
        · rw [if_pos rfl, if_pos (room8 _ (by omega))]; rfl
      refine ⟨?_, ?_⟩
      · show sys_Uses_2_l1 le a (i : Int) = _
        unfold sys_Uses_2_l1
        rw [if_pos (ltI hi), if_pos (inI hi)]
        simp only [Int.toNat_natCast]
        split
        · rename_i h; exact step _ (by unfold nmd; rw [h]; rfl)
        · rename_i h
          split
          · rename_i h'; exact step _ (by unfold nmd; rw [h']; rfl)
          · rename_i h'; exact step _ (by unfold nmd; rw [beq_eq_false_iff_ne.2 h, beq_eq_false_iff_ne.2 h']; rfl)
      · split
        · simp; omega
        · omega)
    (by
      intro a hI
      show sys_Uses_2_l1 le a (le.length : Int) = _
      unfold sys_Uses_2_l1
      rw [if_neg (not_ltI _)])
  rw [h1]
  exact usesEnd _ (by omega)

/-- the document's way of putting one number in -/
def insS (n : Int) (s : List Int × Bool) (x : Int) : List Int × Bool :=
  if s.2 then (s.1 ++ [x], true) else if x ≥ n then (if x > n then (s.1 ++ [n] ++ [x], true) else (s.1 ++ [x], true)) else (s.1 ++ [x], false)

theorem insS_true (n : Int) (l : List Int) : ∀ (a : List Int), l.foldl (insS n) (a, true) = (a ++ l, true) := by
  induction l with
  | nil => intro a; simp
  | cons x l ih => intro a; rw [List.foldl_cons]; show l.foldl (insS n) (a ++ [x], true) = _; rw [ih]; simp
theorem insS_false (n : Int) (l : List Int) : ∀ (a : List Int), (let s := l.foldl (insS n) (a, false); if s.2 then s.1 else s.1 ++ [n]) = a ++ ins l n := by
  induction l with
  | nil => intro a; simp [ins]
  | cons x l ih =>
    intro a
    rw [List.foldl_cons]
    by_cases h : x ≥ n
    · by_cases h' : x > n
      · have e : insS n (a, false) x = (a ++ [n] ++ [x], true) := by simp [insS, h, h']
        rw [e, insS_true]
        simp [ins, h, h']
      · have e : insS n (a, false) x = (a ++ [x], true) := by simp [insS, h, h']
        rw [e, insS_true]
        simp [ins, h, h']
    · have e : insS n (a, false) x = (a ++ [x], false) := by simp [insS, h]
      rw [e, ih]
      simp [ins, h]

theorem ins_len (l : List Int) (n : Int) : (ins l n).length ≤ l.length + 1 := by
  induction l with
  | nil => simp [ins]
  | cons x l ih =>
    unfold ins
    split
    · split <;> simp
    · simp; omega

theorem refInsert_eq (l : List Int) (n : Int) (h : l.length ≤ 900000) : ref_insert l n = some (ins l n) := by
  unfold ref_insert
  obtain ⟨h1, h2⟩ := loop_fold (A := List Int × Bool) (T := Int) (O := List Int × Bool) (S := List Int × Bool × Int) (fun a i => (a.1, a.2, i)) (body := fun x => ref_insert_l1 l n x.1 x.2.1 x.2.2) l (insS n)
    (fun i a => a.1.length ≤ i + (if a.2 then 1 else 0)) (fun a => a) ([], false) (by simp)
    (by
      intro i a hi hI
      obtain ⟨a, b⟩ := a
      simp only at hI
      have hlen : a.length ≤ i + 1 := by revert hI; cases b <;> simp <;> omega
      have j2 : ∀ (q : List Int) (c : Bool), q.length ≤ 999999 → ref_insert_j2 l (i : Int) q c = some (.inl (q ++ [l.getD i default], c, ((i + 1 : Nat) : Int))) := by
        intro q c hq
        unfold ref_insert_j2
        rw [if_pos ⟨inI hi, room8 _ (by omega)⟩, wrN i (by omega)]
        rfl
      refine ⟨?_, ?_⟩
      · show ref_insert_l1 l n a b (i : Int) = _
        unfold ref_insert_l1
        rw [if_pos (ltI hi)]
        cases b with
        | true =>
          rw [if_pos rfl, j2 _ _ (by omega)]
          rfl
        | false =>
          rw [if_neg (by decide), if_pos (inI hi)]
          simp only [Int.toNat_natCast]
          by_cases hge : l.getD i default ≥ n
          · rw [if_pos hge]
            by_cases hgt : l.getD i default > n
            · rw [if_pos hgt, if_pos (room8 _ (by omega)), j2 _ _ (by simp [lit]; omega)]
              have e : insS n (a, false) (l.getD i default) = (a ++ [n] ++ [l.getD i default], true) := by unfold insS; rw [if_neg (by simp), if_pos hge, if_pos hgt]
              rw [e]; rfl
            · rw [if_neg hgt, j2 _ _ (by omega)]
              have e : insS n (a, false) (l.getD i default) = (a ++ [l.getD i default], true) := by unfold insS; rw [if_neg (by simp), if_pos hge, if_neg hgt]
              rw [e]
          · rw [if_neg hge, j2 _ _ (by omega)]
            have e : insS n (a, false) (l.getD i default) = (a ++ [l.getD i default], false) := by unfold insS; rw [if_neg (by simp), if_neg hge]
            rw [e]
      · have gen : ∀ x : Int, (insS n (a, b) x).1.length ≤ i + 1 + (if (insS n (a, b) x).2 = true then 1 else 0) := by
          intro x
          unfold insS
          cases b with
          | true => simp at hI ⊢; omega
          | false =>
            simp at hI
            by_cases hge : x ≥ n
            · by_cases hgt : x > n
              · simp only [Bool.false_eq_true, if_false, if_pos hge, if_pos hgt]; simp; omega
              · simp only [Bool.false_eq_true, if_false, if_pos hge, if_neg hgt]; simp; omega
            · simp only [Bool.false_eq_true, if_false, if_neg hge]; simp; omega
        exact gen _)
    (by
      intro a hI
      show ref_insert_l1 l n a.1 a.2 (l.length : Int) = _
      unfold ref_insert_l1
      rw [if_neg (not_ltI _)])
  show (loop (fun (x : List Int × Bool × Int) => ref_insert_l1 l n x.1 x.2.1 x.2.2) ([], false, 0)).bind (fun z => ref_insert_j1 n z.1 z.2) = _
  rw [h1]
  have h3 := insS_false n l []
  simp only [List.nil_append] at h3
  have hl := ins_len l n
  rw [← h3] at hl ⊢
  simp only [Option.bind_some]
  unfold ref_insert_j1
  cases hs : (l.foldl (insS n) ([], false)).2 with
  | true => simp
  | false =>
    rw [hs] at h2
    simp only [Bool.false_eq_true, if_false, Nat.add_zero] at h2 ⊢
    rw [if_pos (room8 _ (by omega))]
    rfl

theorem foldl_ins_len (l a : List Int) : (l.foldl ins a).length ≤ a.length + l.length := by
  induction l generalizing a with
  | nil => simp
  | cons x l ih => rw [List.foldl_cons]; have := ih (ins a x); have := ins_len a x; simp; omega

theorem refUses_eq (r : TRule) (ha : r.a.length ≤ 400000) (he : r.e.length ≤ 400000) : ref_Uses r = some (usesOf r.a r.e) := by
  unfold ref_Uses
  obtain ⟨h1, h2⟩ := loop_fold (A := List Int) (T := Int) (O := List Int) (S := List Int × Int) (fun a i => (a, i)) (body := fun x => ref_Uses_l2 r x.1 x.2) r.a ins
    (fun i a => a.length ≤ i) (fun a => a) [] (by simp)
    (by
      intro i a hi hI
      refine ⟨?_, by have := ins_len a (r.a.getD i default); omega⟩
      show ref_Uses_l2 r a (i : Int) = _
      unfold ref_Uses_l2
      rw [if_pos (ltI hi), if_pos (inI hi)]
      simp only [Int.toNat_natCast]
      rw [refInsert_eq _ _ (by omega), wrN i (by omega)]
      rfl)
    (by
      intro a hI
      show ref_Uses_l2 r a (r.a.length : Int) = _
      unfold ref_Uses_l2
      rw [if_neg (not_ltI _)])
  show (loop (fun (x : List Int × Int) => ref_Uses_l2 r x.1 x.2) ([], 0)).bind (fun z => ref_Uses_j1 r z) = _
  rw [h1]
  simp only [Option.bind_some]
  unfold ref_Uses_j1
  obtain ⟨h3, h4⟩ := loop_fold (A := List Int) (T := TPush) (O := List Int) (S := List Int × Int) (fun a i => (a, i)) (body := fun x => ref_Uses_l1 r x.1 x.2) r.e (fun l p => if nmd p then ins l p.v else l)
    (fun i a => a.length ≤ r.a.length + i) (fun a => a) (r.a.foldl ins []) (by simpa using h2)
    (by
      intro i a hi hI
      have hn : ref_named (r.e.getD i default) = some (nmd (r.e.getD i default)) := by
        unfold ref_named nmd
        split
        · rename_i h; rw [h]; rfl
        · rename_i h
          split
          · rename_i h'; rw [h']; rfl
          · rename_i h'; rw [beq_eq_false_iff_ne.2 h, beq_eq_false_iff_ne.2 h']; rfl
      refine ⟨?_, ?_⟩
      · show ref_Uses_l1 r a (i : Int) = _
        unfold ref_Uses_l1
        rw [if_pos (ltI hi), if_pos (inI hi)]
        simp only [Int.toNat_natCast]
        rw [hn, wrN i (by omega)]
        simp only [Option.bind_some]
        cases nmd (r.e.getD i default)
        · rfl
        · simp only [if_true]
          rw [refInsert_eq _ _ (by omega)]
          rfl
      · split
        · have := ins_len a (r.e.getD i default).v; omega
        · omega)
    (by
      intro a hI
      show ref_Uses_l1 r a (r.e.length : Int) = _
      unfold ref_Uses_l1
      rw [if_neg (not_ltI _)])
  show (loop (fun (x : List Int × Int) => ref_Uses_l1 r x.1 x.2) (r.a.foldl ins [], 0)).bind (fun z => ref_Uses_j2 z) = _
  rw [h3]
  have key : ∀ (e : List TPush) (a b : List Int), e.foldl (fun l p => if nmd p then ins l p.v else l) (a.foldl ins b) = (e.foldl (fun l p => if nmd p then l ++ [p.v] else l) a).foldl ins b := by
    intro e
    induction e with
    | nil => intro a b; rfl
    | cons p e ih =>
      intro a b
      rw [List.foldl_cons, List.foldl_cons]
      cases nmd p
      · simp only [Bool.false_eq_true, if_false]; exact ih a b
      · simp only [if_true]
        rw [← ih, List.foldl_append]
        rfl
  rw [key]
  rfl
end Pam

/- What a rule makes fits what it takes, operator by operator: the program and the document tell the same. Printed by fits2.py. -/
namespace Pam
open Go

/-- a rule whose variables are there -/
structure GoodR (s : TSystem) (r : TRule) : Prop where
  o : inV s r.out_
  a : ∀ x ∈ r.a, inV s x
  u : 14 ≤ r.op → ∀ p ∈ r.e, usesV s p
  e : r.e.length ≤ 24

theorem vOf_good {s : TSystem} (hv : GoodV s) {x : Int} (h : inV s x) : okE (vOf s x).elem ∧ 0 ≤ (vOf s x).n ∧ (vOf s x).n ≤ 300 := by
  have : s.vars.getD x.toNat default ∈ s.vars := getD_mem (by unfold inV at h; omega)
  exact ⟨hv.e _ this, hv.n _ this⟩
theorem scalar_eq (e : Int) : sys_scalar e = some (TVar.mk e 0) := by unfold sys_scalar; rfl
theorem elem_eq {s : TSystem} {c x : Int} (h : inV s x) : sys_judge_elem x (Tjudge.mk s c) = some (TVar.mk (vOf s x).elem 0, decide ((vOf s x).n > 0)) := by
  unfold sys_judge_elem
  unfold inV at h
  rw [if_pos h, scalar_eq]
  rfl
theorem wrd {a b : Int} (ha : 0 ≤ a ∧ a ≤ 300) (hb : 0 ≤ b ∧ b ≤ 300) : IntKind.wrap .i64 (a - b) = a - b ∧ IntKind.wrap .i64 (a + b) = a + b := ⟨wr (by omega) (by omega), wr (by omega) (by omega)⟩

theorem each2_eq {s : TSystem} {c : Int} {r : TRule} {o : TVar} {n : Int} (hv : GoodV s) (hu : ∀ p ∈ r.e, usesV s p) (he : r.e.length ≤ 24) (ho : okE o.elem) (hn : 1 ≤ n ∧ n ≤ 300) :
    sys_judge_each_j2 r o (Tjudge.mk s c) n = some (treeV s n r.e == o.elem) ∧ ref_Tree s r.e n = some (treeV s n r.e) := by
  obtain ⟨⟨q, h1, h2, h3⟩, h4⟩ := tree_both (c := c) hv hu hn (by omega)
  refine ⟨?_, h4⟩
  unfold sys_judge_each_j2
  rw [h1]
  simp only [Option.bind_some]
  by_cases hq : q.2 = true
  · rw [if_pos hq, (h2 hq).1]
  · rw [if_neg hq, h3 (by simpa using hq)]
    congr 1
    symm
    rw [beq_eq_false_iff_ne]
    unfold okE at ho
    omega

theorem fit1 {s : TSystem} {c : Int} {k o n : Int} {e : List TPush} (hv : GoodV s) (h : GoodR s (TRule.mk 1 k o n [] e)) :
    sys_judge_fits (TRule.mk 1 k o n [] e) (Tjudge.mk s c) = ref_typesFit s (TRule.mk 1 k o n [] e) ∧ ref_typesFit s (TRule.mk 1 k o n [] e) ≠ none := by
  have ho : inV s o := h.o
  rw [refFit_eq h.o (by simp) h.a]
  have go := vOf_good hv ho
  unfold inV at ho
  simp only [sys_judge_fits, sys_judge_fits_j1, sys_judge_fits_j2, sys_judge_fits_j3, ref_typesFit_j1, ho, and_self, Option.bind_some, kop_eq, refop_eq, kfolds_eq, rfolds_eq, scalar_eq, vOf_eq, List.length_cons, List.length_nil, List.getD_cons_zero, List.getD_cons_succ, argsV, Nat.reduceAdd, Nat.reduceLT, if_true, if_false, reduceCtorEq]
  unfold okE at *
  refine ⟨?_, ?_⟩ <;> grind
theorem fit2 {s : TSystem} {c : Int} {k o n x : Int} {e : List TPush} (hv : GoodV s) (h : GoodR s (TRule.mk 2 k o n [x] e)) :
    sys_judge_fits (TRule.mk 2 k o n [x] e) (Tjudge.mk s c) = ref_typesFit s (TRule.mk 2 k o n [x] e) ∧ ref_typesFit s (TRule.mk 2 k o n [x] e) ≠ none := by
  have ho : inV s o := h.o
  have hx : inV s x := h.a x (by simp)
  rw [refFit_eq h.o (by simp) h.a]
  have go := vOf_good hv ho
  have gx := vOf_good hv hx
  unfold inV at ho hx
  simp only [sys_judge_fits, sys_judge_fits_j1, sys_judge_fits_j2, sys_judge_fits_j3, ref_typesFit_j1, ho, hx, and_self, Option.bind_some, kop_eq, refop_eq, kfolds_eq, rfolds_eq, scalar_eq, vOf_eq, List.length_cons, List.length_nil, List.getD_cons_zero, List.getD_cons_succ, argsV, Nat.reduceAdd, Nat.reduceLT, if_true, if_false, reduceCtorEq]
  unfold okE at *
  refine ⟨?_, ?_⟩ <;> grind
theorem fit3 {s : TSystem} {c : Int} {k o n x : Int} {e : List TPush} (hv : GoodV s) (h : GoodR s (TRule.mk 3 k o n [x] e)) :
    sys_judge_fits (TRule.mk 3 k o n [x] e) (Tjudge.mk s c) = ref_typesFit s (TRule.mk 3 k o n [x] e) ∧ ref_typesFit s (TRule.mk 3 k o n [x] e) ≠ none := by
  have ho : inV s o := h.o
  have hx : inV s x := h.a x (by simp)
  rw [refFit_eq h.o (by simp) h.a]
  have go := vOf_good hv ho
  have gx := vOf_good hv hx
  unfold inV at ho hx
  simp only [sys_judge_fits, sys_judge_fits_j1, sys_judge_fits_j2, sys_judge_fits_j3, ref_typesFit_j1, ho, hx, and_self, Option.bind_some, kop_eq, refop_eq, kfolds_eq, rfolds_eq, scalar_eq, vOf_eq, List.length_cons, List.length_nil, List.getD_cons_zero, List.getD_cons_succ, argsV, Nat.reduceAdd, Nat.reduceLT, if_true, if_false, reduceCtorEq]
  unfold okE at *
  refine ⟨?_, ?_⟩ <;> grind
theorem fit4 {s : TSystem} {c : Int} {k o n x y : Int} {e : List TPush} (hv : GoodV s) (h : GoodR s (TRule.mk 4 k o n [x, y] e)) :
    sys_judge_fits (TRule.mk 4 k o n [x, y] e) (Tjudge.mk s c) = ref_typesFit s (TRule.mk 4 k o n [x, y] e) ∧ ref_typesFit s (TRule.mk 4 k o n [x, y] e) ≠ none := by
  have ho : inV s o := h.o
  have hx : inV s x := h.a x (by simp)
  have hy : inV s y := h.a y (by simp)
  rw [refFit_eq h.o (by simp) h.a]
  have go := vOf_good hv ho
  have gx := vOf_good hv hx
  have gy := vOf_good hv hy
  have hs := same_eq (s := s) (c := c) (l := [x, y]) (by simp) (by simp) h.a
  simp only [List.getD_cons_zero, List.all_cons, List.all_nil, Bool.and_true] at hs
  unfold inV at ho hx hy
  simp only [sys_judge_fits, sys_judge_fits_j1, sys_judge_fits_j2, sys_judge_fits_j3, ref_typesFit_j1, ho, hx, hy, and_self, Option.bind_some, kop_eq, refop_eq, kfolds_eq, rfolds_eq, scalar_eq, vOf_eq, List.length_cons, List.length_nil, List.getD_cons_zero, List.getD_cons_succ, argsV, Nat.reduceAdd, Nat.reduceLT, if_true, if_false, reduceCtorEq, hs]
  unfold sameB
  unfold okE at *
  refine ⟨?_, ?_⟩ <;> grind
theorem fit5 {s : TSystem} {c : Int} {k o n x y z : Int} {e : List TPush} (hv : GoodV s) (h : GoodR s (TRule.mk 5 k o n [x, y, z] e)) :
    sys_judge_fits (TRule.mk 5 k o n [x, y, z] e) (Tjudge.mk s c) = ref_typesFit s (TRule.mk 5 k o n [x, y, z] e) ∧ ref_typesFit s (TRule.mk 5 k o n [x, y, z] e) ≠ none := by
  have ho : inV s o := h.o
  have hx : inV s x := h.a x (by simp)
  have hy : inV s y := h.a y (by simp)
  have hz : inV s z := h.a z (by simp)
  rw [refFit_eq h.o (by simp) h.a]
  have go := vOf_good hv ho
  have gx := vOf_good hv hx
  have gy := vOf_good hv hy
  have gz := vOf_good hv hz
  have hs := same2_eq (s := s) (c := c) (l := [y, z, o]) (by simp) (by simp) (by intro w hw; simp at hw; rcases hw with rfl | rfl | rfl <;> assumption)
  simp only [List.getD_cons_zero, List.all_cons, List.all_nil, Bool.and_true] at hs
  unfold inV at ho hx hy hz
  simp only [sys_judge_fits, sys_judge_fits_j1, sys_judge_fits_j2, sys_judge_fits_j3, ref_typesFit_j1, ho, hx, hy, hz, and_self, Option.bind_some, kop_eq, refop_eq, kfolds_eq, rfolds_eq, scalar_eq, vOf_eq, List.length_cons, List.length_nil, List.getD_cons_zero, List.getD_cons_succ, argsV, Nat.reduceAdd, Nat.reduceLT, if_true, if_false, reduceCtorEq, hs, lit]
  unfold sameB
  unfold okE at *
  refine ⟨?_, ?_⟩ <;> grind
theorem fit6 {s : TSystem} {c : Int} {k o n x y : Int} {e : List TPush} (hv : GoodV s) (h : GoodR s (TRule.mk 6 k o n [x, y] e)) :
    sys_judge_fits (TRule.mk 6 k o n [x, y] e) (Tjudge.mk s c) = ref_typesFit s (TRule.mk 6 k o n [x, y] e) ∧ ref_typesFit s (TRule.mk 6 k o n [x, y] e) ≠ none := by
  have ho : inV s o := h.o
  have hx : inV s x := h.a x (by simp)
  have hy : inV s y := h.a y (by simp)
  rw [refFit_eq h.o (by simp) h.a]
  have go := vOf_good hv ho
  have gx := vOf_good hv hx
  have gy := vOf_good hv hy
  unfold inV at ho hx hy
  simp only [sys_judge_fits, sys_judge_fits_j1, sys_judge_fits_j2, sys_judge_fits_j3, ref_typesFit_j1, ho, hx, hy, and_self, Option.bind_some, kop_eq, refop_eq, kfolds_eq, rfolds_eq, scalar_eq, vOf_eq, List.length_cons, List.length_nil, List.getD_cons_zero, List.getD_cons_succ, argsV, Nat.reduceAdd, Nat.reduceLT, if_true, if_false, reduceCtorEq]
  unfold okE at *
  refine ⟨?_, ?_⟩ <;> grind
theorem fit7 {s : TSystem} {c : Int} {k o n x y : Int} {e : List TPush} (hv : GoodV s) (h : GoodR s (TRule.mk 7 k o n [x, y] e)) :
    sys_judge_fits (TRule.mk 7 k o n [x, y] e) (Tjudge.mk s c) = ref_typesFit s (TRule.mk 7 k o n [x, y] e) ∧ ref_typesFit s (TRule.mk 7 k o n [x, y] e) ≠ none := by
  have ho : inV s o := h.o
  have hx : inV s x := h.a x (by simp)
  have hy : inV s y := h.a y (by simp)
  rw [refFit_eq h.o (by simp) h.a]
  have go := vOf_good hv ho
  have gx := vOf_good hv hx
  have gy := vOf_good hv hy
  unfold inV at ho hx hy
  simp only [sys_judge_fits, sys_judge_fits_j1, sys_judge_fits_j2, sys_judge_fits_j3, ref_typesFit_j1, ho, hx, hy, and_self, Option.bind_some, kop_eq, refop_eq, kfolds_eq, rfolds_eq, scalar_eq, vOf_eq, List.length_cons, List.length_nil, List.getD_cons_zero, List.getD_cons_succ, argsV, Nat.reduceAdd, Nat.reduceLT, if_true, if_false, reduceCtorEq]
  unfold okE at *
  refine ⟨?_, ?_⟩ <;> grind
theorem fit8 {s : TSystem} {c : Int} {k o n x : Int} {e : List TPush} (hv : GoodV s) (h : GoodR s (TRule.mk 8 k o n [x] e)) :
    sys_judge_fits (TRule.mk 8 k o n [x] e) (Tjudge.mk s c) = ref_typesFit s (TRule.mk 8 k o n [x] e) ∧ ref_typesFit s (TRule.mk 8 k o n [x] e) ≠ none := by
  have ho : inV s o := h.o
  have hx : inV s x := h.a x (by simp)
  rw [refFit_eq h.o (by simp) h.a]
  have go := vOf_good hv ho
  have gx := vOf_good hv hx
  unfold inV at ho hx
  simp only [sys_judge_fits, sys_judge_fits_j1, sys_judge_fits_j2, sys_judge_fits_j3, ref_typesFit_j1, ho, hx, and_self, Option.bind_some, kop_eq, refop_eq, kfolds_eq, rfolds_eq, scalar_eq, vOf_eq, List.length_cons, List.length_nil, List.getD_cons_zero, List.getD_cons_succ, argsV, Nat.reduceAdd, Nat.reduceLT, if_true, if_false, reduceCtorEq]
  unfold okE at *
  refine ⟨?_, ?_⟩ <;> grind
theorem fit9 {s : TSystem} {c : Int} {k o n x y z : Int} {e : List TPush} (hv : GoodV s) (h : GoodR s (TRule.mk 9 k o n [x, y, z] e)) :
    sys_judge_fits (TRule.mk 9 k o n [x, y, z] e) (Tjudge.mk s c) = ref_typesFit s (TRule.mk 9 k o n [x, y, z] e) ∧ ref_typesFit s (TRule.mk 9 k o n [x, y, z] e) ≠ none := by
  have ho : inV s o := h.o
  have hx : inV s x := h.a x (by simp)
  have hy : inV s y := h.a y (by simp)
  have hz : inV s z := h.a z (by simp)
  rw [refFit_eq h.o (by simp) h.a]
  have go := vOf_good hv ho
  have gx := vOf_good hv hx
  have gy := vOf_good hv hy
  have gz := vOf_good hv hz
  have he := elem_eq (c := c) hx
  unfold inV at ho hx hy hz
  simp only [sys_judge_fits, sys_judge_fits_j1, sys_judge_fits_j2, sys_judge_fits_j3, ref_typesFit_j1, ho, hx, hy, hz, and_self, Option.bind_some, kop_eq, refop_eq, kfolds_eq, rfolds_eq, scalar_eq, vOf_eq, List.length_cons, List.length_nil, List.getD_cons_zero, List.getD_cons_succ, argsV, Nat.reduceAdd, Nat.reduceLT, if_true, if_false, reduceCtorEq, he]
  unfold okE at *
  refine ⟨?_, ?_⟩ <;> grind
theorem fit10 {s : TSystem} {c : Int} {k o n x y z : Int} {e : List TPush} (hv : GoodV s) (h : GoodR s (TRule.mk 10 k o n [x, y, z] e)) :
    sys_judge_fits (TRule.mk 10 k o n [x, y, z] e) (Tjudge.mk s c) = ref_typesFit s (TRule.mk 10 k o n [x, y, z] e) ∧ ref_typesFit s (TRule.mk 10 k o n [x, y, z] e) ≠ none := by
  have ho : inV s o := h.o
  have hx : inV s x := h.a x (by simp)
  have hy : inV s y := h.a y (by simp)
  have hz : inV s z := h.a z (by simp)
  rw [refFit_eq h.o (by simp) h.a]
  have go := vOf_good hv ho
  have gx := vOf_good hv hx
  have gy := vOf_good hv hy
  have gz := vOf_good hv hz
  have he := elem_eq (c := c) hx
  unfold inV at ho hx hy hz
  simp only [sys_judge_fits, sys_judge_fits_j1, sys_judge_fits_j2, sys_judge_fits_j3, ref_typesFit_j1, ho, hx, hy, hz, and_self, Option.bind_some, kop_eq, refop_eq, kfolds_eq, rfolds_eq, scalar_eq, vOf_eq, List.length_cons, List.length_nil, List.getD_cons_zero, List.getD_cons_succ, argsV, Nat.reduceAdd, Nat.reduceLT, if_true, if_false, reduceCtorEq, he]
  unfold okE at *
  refine ⟨?_, ?_⟩ <;> grind
theorem fit11 {s : TSystem} {c : Int} {k o n x : Int} {e : List TPush} (hv : GoodV s) (h : GoodR s (TRule.mk 11 k o n [x] e)) :
    sys_judge_fits (TRule.mk 11 k o n [x] e) (Tjudge.mk s c) = ref_typesFit s (TRule.mk 11 k o n [x] e) ∧ ref_typesFit s (TRule.mk 11 k o n [x] e) ≠ none := by
  have ho : inV s o := h.o
  have hx : inV s x := h.a x (by simp)
  rw [refFit_eq h.o (by simp) h.a]
  have go := vOf_good hv ho
  have gx := vOf_good hv hx
  have hw := (wrd gx.2 go.2).1
  unfold inV at ho hx
  simp only [sys_judge_fits, sys_judge_fits_j1, sys_judge_fits_j2, sys_judge_fits_j3, ref_typesFit_j1, ho, hx, and_self, Option.bind_some, kop_eq, refop_eq, kfolds_eq, rfolds_eq, scalar_eq, vOf_eq, List.length_cons, List.length_nil, List.getD_cons_zero, List.getD_cons_succ, argsV, Nat.reduceAdd, Nat.reduceLT, if_true, if_false, reduceCtorEq, hw]
  unfold okE at *
  by_cases hle : (vOf s o).n ≤ (vOf s x).n
  · refine ⟨?_, ?_⟩ <;> grind
  · by_cases hn0 : n ≥ 0
    · have hd : decide (n ≤ (vOf s x).n - (vOf s o).n) = false := by simp; omega
      simp only [hd]
      refine ⟨?_, ?_⟩ <;> grind
    · refine ⟨?_, ?_⟩ <;> grind
theorem fit12 {s : TSystem} {c : Int} {k o n x y : Int} {e : List TPush} (hv : GoodV s) (h : GoodR s (TRule.mk 12 k o n [x, y] e)) :
    sys_judge_fits (TRule.mk 12 k o n [x, y] e) (Tjudge.mk s c) = ref_typesFit s (TRule.mk 12 k o n [x, y] e) ∧ ref_typesFit s (TRule.mk 12 k o n [x, y] e) ≠ none := by
  have ho : inV s o := h.o
  have hx : inV s x := h.a x (by simp)
  have hy : inV s y := h.a y (by simp)
  rw [refFit_eq h.o (by simp) h.a]
  have go := vOf_good hv ho
  have gx := vOf_good hv hx
  have gy := vOf_good hv hy
  have hw := (wrd gx.2 gy.2).2
  unfold inV at ho hx hy
  simp only [sys_judge_fits, sys_judge_fits_j1, sys_judge_fits_j2, sys_judge_fits_j3, ref_typesFit_j1, ho, hx, hy, and_self, Option.bind_some, kop_eq, refop_eq, kfolds_eq, rfolds_eq, scalar_eq, vOf_eq, List.length_cons, List.length_nil, List.getD_cons_zero, List.getD_cons_succ, argsV, Nat.reduceAdd, Nat.reduceLT, if_true, if_false, reduceCtorEq, hw]
  unfold okE at *
  refine ⟨?_, ?_⟩ <;> grind
theorem fit13 {s : TSystem} {c : Int} {k o n x y : Int} {e : List TPush} (hv : GoodV s) (h : GoodR s (TRule.mk 13 k o n [x, y] e)) :
    sys_judge_fits (TRule.mk 13 k o n [x, y] e) (Tjudge.mk s c) = ref_typesFit s (TRule.mk 13 k o n [x, y] e) ∧ ref_typesFit s (TRule.mk 13 k o n [x, y] e) ≠ none := by
  have ho : inV s o := h.o
  have hx : inV s x := h.a x (by simp)
  have hy : inV s y := h.a y (by simp)
  rw [refFit_eq h.o (by simp) h.a]
  have go := vOf_good hv ho
  have gx := vOf_good hv hx
  have gy := vOf_good hv hy
  have hs := same2_eq (s := s) (c := c) (l := [x, y, o]) (by simp) (by simp) (by intro w hw; simp at hw; rcases hw with rfl | rfl | rfl <;> assumption)
  simp only [List.getD_cons_zero, List.all_cons, List.all_nil, Bool.and_true] at hs
  unfold inV at ho hx hy
  simp only [sys_judge_fits, sys_judge_fits_j1, sys_judge_fits_j2, sys_judge_fits_j3, ref_typesFit_j1, ho, hx, hy, and_self, Option.bind_some, kop_eq, refop_eq, kfolds_eq, rfolds_eq, scalar_eq, vOf_eq, List.length_cons, List.length_nil, List.getD_cons_zero, List.getD_cons_succ, argsV, Nat.reduceAdd, Nat.reduceLT, if_true, if_false, reduceCtorEq, hs, lit]
  unfold sameB
  unfold okE at *
  refine ⟨?_, ?_⟩ <;> grind
theorem fit14 {s : TSystem} {c : Int} {k o n : Int} {e : List TPush} (hv : GoodV s) (h : GoodR s (TRule.mk 14 k o n [] e)) :
    sys_judge_fits (TRule.mk 14 k o n [] e) (Tjudge.mk s c) = ref_typesFit s (TRule.mk 14 k o n [] e) ∧ ref_typesFit s (TRule.mk 14 k o n [] e) ≠ none := by
  have ho : inV s o := h.o
  rw [refFit_eq h.o (by simp) h.a]
  have go := vOf_good hv ho
  have hc := each2_eq (c := c) (r := TRule.mk 14 k o n [] e) (o := vOf s o) (n := cellsV (vOf s o).n) hv (h.u (by simp)) h.e go.1 (by unfold cellsV; split <;> omega)
  unfold inV at ho
  simp only [sys_judge_fits, sys_judge_fits_j1, sys_judge_fits_j2, sys_judge_fits_j3, ref_typesFit_j1, ho, and_self, Option.bind_some, kop_eq, refop_eq, kfolds_eq, rfolds_eq, scalar_eq, vOf_eq, List.length_cons, List.length_nil, List.getD_cons_zero, List.getD_cons_succ, argsV, Nat.reduceAdd, Nat.reduceLT, if_true, if_false, reduceCtorEq, sys_judge_each, sys_judge_each_j1, refCells_eq, maxV]
  simp only [hc.1, hc.2]
  refine ⟨?_, ?_⟩ <;> grind
theorem fit15 {s : TSystem} {c : Int} {k o n x : Int} {e : List TPush} (hv : GoodV s) (h : GoodR s (TRule.mk 15 k o n [x] e)) :
    sys_judge_fits (TRule.mk 15 k o n [x] e) (Tjudge.mk s c) = ref_typesFit s (TRule.mk 15 k o n [x] e) ∧ ref_typesFit s (TRule.mk 15 k o n [x] e) ≠ none := by
  have ho : inV s o := h.o
  have hx : inV s x := h.a x (by simp)
  rw [refFit_eq h.o (by simp) h.a]
  have go := vOf_good hv ho
  have gx := vOf_good hv hx
  have hc := fun (hn : 1 ≤ n ∧ n ≤ 300) => each2_eq (c := c) (r := TRule.mk 15 k o n [x] e) (o := vOf s o) (n := n) hv (h.u (by simp)) h.e go.1 hn
  unfold inV at ho hx
  simp only [sys_judge_fits, sys_judge_fits_j1, sys_judge_fits_j2, sys_judge_fits_j3, ref_typesFit_j1, ho, hx, and_self, Option.bind_some, kop_eq, refop_eq, kfolds_eq, rfolds_eq, scalar_eq, vOf_eq, List.length_cons, List.length_nil, List.getD_cons_zero, List.getD_cons_succ, argsV, Nat.reduceAdd, Nat.reduceLT, if_true, if_false, reduceCtorEq, sys_judge_each, sys_judge_each_j1, refCells_eq, maxV]
  by_cases hn : 1 ≤ n ∧ n ≤ 300
  · simp only [(hc hn).1, (hc hn).2, Option.bind_some]
    unfold okE at *
    refine ⟨?_, ?_⟩ <;> grind
  · unfold okE at *
    refine ⟨?_, ?_⟩ <;> grind
theorem fit16 {s : TSystem} {c : Int} {k o n x : Int} {e : List TPush} (hv : GoodV s) (h : GoodR s (TRule.mk 16 k o n [x] e)) :
    sys_judge_fits (TRule.mk 16 k o n [x] e) (Tjudge.mk s c) = ref_typesFit s (TRule.mk 16 k o n [x] e) ∧ ref_typesFit s (TRule.mk 16 k o n [x] e) ≠ none := by
  have ho : inV s o := h.o
  have hx : inV s x := h.a x (by simp)
  rw [refFit_eq h.o (by simp) h.a]
  have go := vOf_good hv ho
  have gx := vOf_good hv hx
  have hc := fun (hn : 1 ≤ (vOf s o).n) => each2_eq (c := c) (r := TRule.mk 16 k o n [x] e) (o := vOf s o) (n := (vOf s o).n) hv (h.u (by simp)) h.e go.1 ⟨hn, go.2.2⟩
  unfold inV at ho hx
  simp only [sys_judge_fits, sys_judge_fits_j1, sys_judge_fits_j2, sys_judge_fits_j3, ref_typesFit_j1, ho, hx, and_self, Option.bind_some, kop_eq, refop_eq, kfolds_eq, rfolds_eq, scalar_eq, vOf_eq, List.length_cons, List.length_nil, List.getD_cons_zero, List.getD_cons_succ, argsV, Nat.reduceAdd, Nat.reduceLT, if_true, if_false, reduceCtorEq, sys_judge_each, sys_judge_each_j1, refCells_eq, maxV]
  by_cases hn : 1 ≤ (vOf s o).n
  · have hcv : cellsV (vOf s o).n = (vOf s o).n := by unfold cellsV; rw [if_neg (by omega)]
    simp only [hcv, (hc hn).1, (hc hn).2, Option.bind_some]
    unfold okE at *
    refine ⟨?_, ?_⟩ <;> grind
  · unfold okE at *
    refine ⟨?_, ?_⟩ <;> grind
end Pam

/- What Check tells, in plain Lean: turn by turn. -/
namespace Pam
open Go

theorem mem_foldl_ins (l : List Int) : ∀ (a : List Int) (x : Int), x ∈ l.foldl ins a ↔ x ∈ a ∨ x ∈ l := by
  induction l with
  | nil => intro a x; simp
  | cons y l ih => intro a x; rw [List.foldl_cons, ih, mem_ins]; simp; grind

theorem mem_names (e : List TPush) : ∀ (a : List Int) (x : Int), x ∈ e.foldl (fun l p => if nmd p then l ++ [p.v] else l) a ↔ x ∈ a ∨ ∃ p ∈ e, nmd p = true ∧ p.v = x := by
  induction e with
  | nil => intro a x; simp
  | cons p e ih =>
    intro a x
    rw [List.foldl_cons, ih]
    by_cases h : nmd p = true
    · rw [if_pos h]; simp; grind
    · rw [if_neg h]; simp; grind

theorem mem_usesOf (a : List Int) (e : List TPush) (x : Int) : x ∈ usesOf a e ↔ x ∈ a ∨ ∃ p ∈ e, nmd p = true ∧ p.v = x := by
  unfold usesOf
  rw [mem_foldl_ins, mem_names]
  simp

theorem nmd_iff (p : TPush) : nmd p = true ↔ (p.op = 2 ∨ p.op = 3 ∨ p.op = 8) := by unfold nmd; simp; grind

/-- the document's list of what a rule of its kind uses -/
def usesR (r : TRule) : List Int := if r.op < 14 then usesOf r.a [] else usesOf r.a r.e
/-- the program's -/
def usesP (r : TRule) : List Int := if r.op < 14 then r.a else usesOf r.a r.e
theorem mem_usesP (r : TRule) (x : Int) : x ∈ usesP r ↔ x ∈ usesR r := by
  unfold usesP usesR
  split
  · rw [mem_usesOf]; simp
  · rfl
theorem mem_usesR_a {r : TRule} {x : Int} (h : x ∈ r.a) : x ∈ usesR r := by
  unfold usesR
  split <;> (rw [mem_usesOf]; exact .inl h)
theorem usesR_e {s : TSystem} {r : TRule} (h : ∀ x ∈ usesR r, inV s x) (ho : 14 ≤ r.op) : ∀ p ∈ r.e, usesV s p := by
  intro p hp hn
  refine h _ ?_
  unfold usesR
  rw [if_neg (by omega), mem_usesOf]
  exact .inr ⟨p, hp, (nmd_iff p).2 hn, rfl⟩

def partsT (op : Int) : Int := if 1 ≤ op ∧ op ≤ 16 then ([0,0,1,1,2,3,2,2,1,3,3,1,2,2,0,1,1] : List Int).getD op.toNat 0 else -1

/-- the code of a rule's fault; mk: what is made ahead of it -/
noncomputable def ruleF (s : TSystem) (mk : List Int) (r : TRule) : Int :=
  if ¬ inV s r.out_ then 16
  else if mk.contains r.out_ then 8
  else if partsT r.op < 0 ∨ ¬ (r.a.length : Int) = partsT r.op then 4
  else if (r.e.length : Int) > 24 then 7
  else if ∃ x ∈ usesR r, ¬ inV s x then 16
  else if ref_typesFit s r = some true then 0 else 10

def madeL (s : TSystem) (i : Nat) : List Int := s.in_ ++ (s.rules.take i).map (fun r => r.out_)
theorem madeL_succ (s : TSystem) {i : Nat} (h : i < s.rules.length) : madeL s (i + 1) = madeL s i ++ [(s.rules.getD i default).out_] := by
  unfold madeL
  rw [take_succ_getD _ h, List.map_append, List.append_assoc]
  rfl
/-- flags: what is made -/
def madeB (s : TSystem) (l : List Int) : List Bool := (List.range s.vars.length).map (fun (v : Nat) => decide ((v : Int) ∈ l))
theorem madeB_len (s : TSystem) (l : List Int) : (madeB s l).length = s.vars.length := by unfold madeB; simp
theorem madeB_get {s : TSystem} {l : List Int} {v : Int} (h : inV s v) : (madeB s l).getD v.toNat default = l.contains v := by
  unfold inV at h
  unfold madeB
  have : v.toNat < s.vars.length := by omega
  have e : ((v.toNat : Nat) : Int) = v := by omega
  simp [List.getD, this, e]
theorem madeB_set {s : TSystem} {l : List Int} {v : Int} (h : inV s v) : (madeB s l).set v.toNat true = madeB s (l ++ [v]) := by
  unfold inV at h
  have e : ((v.toNat : Nat) : Int) = v := by omega
  apply List.ext_getElem
  · simp [madeB_len]
  · intro i h1 h2
    have hi : i < s.vars.length := by simpa [madeB_len] using h2
    rw [List.getElem_set]
    unfold madeB
    simp only [List.getElem_map, List.getElem_range, List.mem_append, List.mem_singleton]
    split
    · rename_i h3
      subst h3
      rw [e]; simp
    · rename_i h3
      have : ¬ (i : Int) = v := by omega
      simp [this]

noncomputable def ruleO (s : TSystem) (i : Nat) : Option TFault :=
  let c := ruleF s (madeL s i) (s.rules.getD i default)
  if c = 0 then none else some (TFault.mk c (i : Int))
noncomputable def lastF (s : TSystem) (i : Nat) : Option TFault :=
  if ∃ x ∈ usesR (s.rules.getD i default), ¬ x ∈ madeL s s.rules.length then some (TFault.mk 9 (i : Int)) else none
def endF (s : TSystem) (i : Nat) : Option TFault :=
  if s.out_.getD i default ∈ madeL s s.rules.length then none else some (TFault.mk 9 (-1))
noncomputable def checkF (s : TSystem) : TFault :=
  if ¬ (headF s).code = 0 then headF s
  else match upto s.rules.length (ruleO s) () with
    | .inr z => z
    | .inl _ => match upto s.rules.length (lastF s) () with
      | .inr z => z
      | .inl _ => match upto s.out_.length (endF s) () with
        | .inr z => z
        | .inl _ => TFault.mk 0 0
end Pam

/- A rule's fault: the program's and the document's. -/
namespace Pam
open Go

theorem fits_all {s : TSystem} {c : Int} {r : TRule} (hv : GoodV s) (h : GoodR s r) (hp : ¬ partsT r.op < 0) (hl : (r.a.length : Int) = partsT r.op) :
    sys_judge_fits r (Tjudge.mk s c) = ref_typesFit s r ∧ ref_typesFit s r ≠ none := by
  obtain ⟨op, k, o, n, a, e⟩ := r
  simp only at hp hl
  have hop : 1 ≤ op ∧ op ≤ 16 := by
    by_cases hc : 1 ≤ op ∧ op ≤ 16
    · exact hc
    · unfold partsT at hp; rw [if_neg hc] at hp; omega
  have hcs : op = 1 ∨ op = 2 ∨ op = 3 ∨ op = 4 ∨ op = 5 ∨ op = 6 ∨ op = 7 ∨ op = 8 ∨ op = 9 ∨ op = 10 ∨ op = 11 ∨ op = 12 ∨ op = 13 ∨ op = 14 ∨ op = 15 ∨ op = 16 := by omega
  rcases hcs with rfl | rfl | rfl | rfl | rfl | rfl | rfl | rfl | rfl | rfl | rfl | rfl | rfl | rfl | rfl | rfl
  · have hl' : a.length = 0 := by simpa [partsT] using hl
    match a, hl' with | [], _ => exact fit1 hv h
  · have hl' : a.length = 1 := by simp [partsT] at hl; omega
    match a, hl' with | [x], _ => exact fit2 hv h
  · have hl' : a.length = 1 := by simp [partsT] at hl; omega
    match a, hl' with | [x], _ => exact fit3 hv h
  · have hl' : a.length = 2 := by simp [partsT] at hl; omega
    match a, hl' with | [x, y], _ => exact fit4 hv h
  · have hl' : a.length = 3 := by simp [partsT] at hl; omega
    match a, hl' with | [x, y, z], _ => exact fit5 hv h
  · have hl' : a.length = 2 := by simp [partsT] at hl; omega
    match a, hl' with | [x, y], _ => exact fit6 hv h
  · have hl' : a.length = 2 := by simp [partsT] at hl; omega
    match a, hl' with | [x, y], _ => exact fit7 hv h
  · have hl' : a.length = 1 := by simp [partsT] at hl; omega
    match a, hl' with | [x], _ => exact fit8 hv h
  · have hl' : a.length = 3 := by simp [partsT] at hl; omega
    match a, hl' with | [x, y, z], _ => exact fit9 hv h
  · have hl' : a.length = 3 := by simp [partsT] at hl; omega
    match a, hl' with | [x, y, z], _ => exact fit10 hv h
  · have hl' : a.length = 1 := by simp [partsT] at hl; omega
    match a, hl' with | [x], _ => exact fit11 hv h
  · have hl' : a.length = 2 := by simp [partsT] at hl; omega
    match a, hl' with | [x, y], _ => exact fit12 hv h
  · have hl' : a.length = 2 := by simp [partsT] at hl; omega
    match a, hl' with | [x, y], _ => exact fit13 hv h
  · have hl' : a.length = 0 := by simpa [partsT] using hl
    match a, hl' with | [], _ => exact fit14 hv h
  · have hl' : a.length = 1 := by simp [partsT] at hl; omega
    match a, hl' with | [x], _ => exact fit15 hv h
  · have hl' : a.length = 1 := by simp [partsT] at hl; omega
    match a, hl' with | [x], _ => exact fit16 hv h

theorem partsT_le (op : Int) : partsT op ≤ 3 := by
  unfold partsT
  split
  · rename_i h
    have hcs : op = 1 ∨ op = 2 ∨ op = 3 ∨ op = 4 ∨ op = 5 ∨ op = 6 ∨ op = 7 ∨ op = 8 ∨ op = 9 ∨ op = 10 ∨ op = 11 ∨ op = 12 ∨ op = 13 ∨ op = 14 ∨ op = 15 ∨ op = 16 := by omega
    rcases hcs with rfl | rfl | rfl | rfl | rfl | rfl | rfl | rfl | rfl | rfl | rfl | rfl | rfl | rfl | rfl | rfl <;> decide
  · decide
theorem parts_eq (op : Int) : sys_parts op = some (partsT op) := by
  unfold sys_parts partsT
  by_cases h : 1 ≤ op ∧ op ≤ 16
  · rw [if_neg (by omega), if_neg (by omega), if_pos (by omega), if_pos h]; rfl
  · rw [if_neg h]
    by_cases h1 : op < 1
    · rw [if_pos h1]
    · rw [if_neg h1, if_pos (by omega)]
theorem refParts_eq (op : Int) : ref_partsOf op = some (partsT op) := by
  unfold ref_partsOf partsT
  by_cases h : 1 ≤ op ∧ op ≤ 16
  · rw [if_neg (by omega), if_neg (by omega), if_pos (by omega), if_pos h]
    have hcs : op = 1 ∨ op = 2 ∨ op = 3 ∨ op = 4 ∨ op = 5 ∨ op = 6 ∨ op = 7 ∨ op = 8 ∨ op = 9 ∨ op = 10 ∨ op = 11 ∨ op = 12 ∨ op = 13 ∨ op = 14 ∨ op = 15 ∨ op = 16 := by omega
    rcases hcs with rfl | rfl | rfl | rfl | rfl | rfl | rfl | rfl | rfl | rfl | rfl | rfl | rfl | rfl | rfl | rfl <;> rfl
  · rw [if_neg h]
    by_cases h1 : op < 0
    · rw [if_pos h1]
    · rw [if_neg h1]
      by_cases h2 : op ≥ 17
      · rw [if_pos h2]
      · rw [if_neg h2]
        have : op = 0 := by omega
        subst this
        rfl

theorem fail_eq (b : Bool) (c k : Int) (s : TSystem) : sys_judge_fail b c (Tjudge.mk s k) = some (if b = true ∧ k = 0 then c else k) := by
  unfold sys_judge_fail
  cases b
  · simp
  · by_cases h : k = 0 <;> simp [h]
theorem fail_0 (b : Bool) (c : Int) (s : TSystem) : sys_judge_fail b c (Tjudge.mk s 0) = some (if b = true then c else 0) := by
  unfold sys_judge_fail
  cases b <;> rfl
theorem fail_bad {b : Bool} {c k : Int} {s : TSystem} (h : k ≠ 0) : sys_judge_fail b c (Tjudge.mk s k) = some k := by
  unfold sys_judge_fail
  cases b
  · rfl
  · simp [h]

theorem j2_bad {s : TSystem} {r : TRule} {c x : Int} (h : x ≠ 0) : sys_judge_rule_j2 r (Tjudge.mk s c) x = some (x, x) := by
  unfold sys_judge_rule_j2
  rw [fail_bad h]
  simp only [Option.bind_some]
  rw [if_pos h]
theorem j1_bad {s : TSystem} {r : TRule} {c x : Int} (h : x ≠ 0) : sys_judge_rule_j1 r (Tjudge.mk s c) x = some (x, x) := by
  unfold sys_judge_rule_j1
  rw [parts_eq]
  simp only [Option.bind_some, fail_bad h]
  rw [j2_bad h]
  split <;> rfl

theorem range_fold (s : TSystem) (l : List Int) : ∀ a : Int, l.foldl (fun a x => if ¬ inV s x ∧ a = 0 then 16 else a) a = if (∃ x ∈ l, ¬ inV s x) ∧ a = 0 then 16 else a := by
  induction l with
  | nil => intro a; simp
  | cons y l ih =>
    intro a
    rw [List.foldl_cons, ih]
    by_cases ha : a = 0
    · subst ha
      by_cases hy : inV s y
      · simp [hy]
      · simp [hy]
    · simp [ha]
theorem range_loop {s : TSystem} {c : Int} {l : List Int} (hl : l.length ≤ 1000) :
    loop (fun (x : Int × Int) => sys_judge_rule_l1 (Tjudge.mk s c) l x.1 x.2) (0, 0) = some (if ∃ x ∈ l, ¬ inV s x then 16 else 0) := by
  obtain ⟨h1, _⟩ := loop_fold (A := Int) (T := Int) (O := Int) (S := Int × Int) (fun a i => (a, i)) (body := fun x => sys_judge_rule_l1 (Tjudge.mk s c) l x.1 x.2) l (fun a x => if ¬ inV s x ∧ a = 0 then 16 else a)
    (fun _ _ => True) (fun a => a) 0 trivial
    (by
      intro i a hi _
      refine ⟨?_, trivial⟩
      show sys_judge_rule_l1 (Tjudge.mk s c) l a (i : Int) = _
      unfold sys_judge_rule_l1
      rw [if_pos (ltI hi), if_pos (inI hi)]
      simp only [Int.toNat_natCast]
      rw [isI_eq]
      simp only [Option.bind_some, fail_eq]
      rw [wrs i (by omega)]
      have : ((!decide (0 ≤ l.getD i default ∧ l.getD i default < (s.vars.length : Int))) = true ∧ a = 0) ↔ (¬ inV s (l.getD i default) ∧ a = 0) := by unfold inV; simp; omega
      simp only [this])
    (by
      intro a _
      show sys_judge_rule_l1 (Tjudge.mk s c) l a (l.length : Int) = _
      unfold sys_judge_rule_l1
      rw [if_neg (not_ltI _)])
  rw [range_fold] at h1
  rw [h1]
  simp

theorem usesOf_len (a : List Int) (e : List TPush) : (usesOf a e).length ≤ a.length + e.length := by
  have k : ∀ (e : List TPush) (a : List Int), (e.foldl (fun l p => if nmd p then l ++ [p.v] else l) a).length ≤ a.length + e.length := by
    intro e
    induction e with
    | nil => intro a; simp
    | cons p e ih =>
      intro a
      rw [List.foldl_cons]
      have := ih (if nmd p then a ++ [p.v] else a)
      have h2 : (if nmd p then a ++ [p.v] else a).length ≤ a.length + 1 := by split <;> simp
      simp only [List.length_cons]
      omega
  unfold usesOf
  have := foldl_ins_len (e.foldl (fun l p => if nmd p then l ++ [p.v] else l) a) []
  have := k e a
  simp at *
  omega

theorem goodR_of {s : TSystem} {r : TRule} (h1 : inV s r.out_) (h2 : ¬ (r.e.length : Int) > 24) (h3 : ¬ ∃ x ∈ usesR r, ¬ inV s x) : GoodR s r := by
  have h4 : ∀ x ∈ usesR r, inV s x := fun x hx => Classical.byContradiction (fun hc => h3 ⟨x, hx, hc⟩)
  exact ⟨h1, fun x hx => h4 x (mem_usesR_a hx), fun ho => usesR_e h4 ho, by omega⟩

theorem rule_eq {s : TSystem} {c : Int} {r : TRule} {l : List Int} (hv : GoodV s) : sys_judge_rule r (Tjudge.mk s c) (madeB s l) = some (ruleF s l r, ruleF s l r) := by
  unfold sys_judge_rule ruleF
  rw [isI_eq]
  simp only [Option.bind_some, fail_0]
  by_cases h1 : inV s r.out_
  · have h1' : 0 ≤ r.out_ ∧ r.out_ < (s.vars.length : Int) := h1
    simp only [h1', and_self, decide_true, Bool.not_true, Bool.false_eq_true, if_false, if_true, madeB_len, madeB_get h1, not_true_eq_false, h1]
    rw [fail_0]
    simp only [Option.bind_some]
    by_cases h2 : l.contains r.out_ = true
    · rw [if_pos h2, if_pos h2, j1_bad (by decide)]
    · rw [if_neg h2, if_neg h2]
      unfold sys_judge_rule_j1
      rw [parts_eq]
      simp only [Option.bind_some, fail_0]
      by_cases h3 : partsT r.op < 0
      · rw [if_pos h3, if_pos trivial, if_pos (.inl h3), j2_bad (by decide)]
      · rw [if_neg h3]
        by_cases h4 : (r.a.length : Int) = partsT r.op
        · rw [if_neg (by simpa using h4), if_neg (fun hc => hc.elim h3 (fun h => h h4))]
          unfold sys_judge_rule_j2
          rw [fail_0]
          simp only [Option.bind_some]
          by_cases h5 : (r.e.length : Int) > 24
          · have e5 : decide ((r.e.length : Int) > 24) = true := by simpa using h5
            simp only [e5, if_true]
            rw [if_pos (by decide), if_pos h5]
          · have e5 : decide ((r.e.length : Int) > 24) = false := by simpa using h5
            simp only [e5, Bool.false_eq_true, if_false, not_true_eq_false]
            rw [if_neg h5]
            have hle := partsT_le r.op
            have hj : ∀ l' : List Int, (∀ x, x ∈ l' ↔ x ∈ usesR r) → l'.length ≤ 1000 → sys_judge_rule_j3 r (Tjudge.mk s c) 0 l' =
                some (if ∃ x ∈ usesR r, ¬ inV s x then 16 else if ref_typesFit s r = some true then 0 else 10, if ∃ x ∈ usesR r, ¬ inV s x then 16 else if ref_typesFit s r = some true then 0 else 10) := by
              intro l' hm hl
              unfold sys_judge_rule_j3
              show (loop (fun (x : Int × Int) => sys_judge_rule_l1 (Tjudge.mk s c) l' x.1 x.2) (0, 0)).bind _ = _
              rw [range_loop hl]
              simp only [Option.bind_some, hm]
              unfold sys_judge_rule_j4
              by_cases h6 : ∃ x ∈ usesR r, ¬ inV s x
              · simp only [if_pos h6]
                rw [if_neg (by decide)]
              · simp only [if_neg h6]
                rw [if_pos trivial]
                obtain ⟨f1, f2⟩ := fits_all (c := 0) hv (goodR_of h1 h5 h6) h3 h4
                simp only [fail_0]
                rw [f1]
                cases hf : ref_typesFit s r with
                | none => exact absurd hf f2
                | some b => cases b <;> simp
            by_cases h7 : r.op ≥ 14
            · rw [if_pos h7, sysUses_eq _ (by omega) (by omega)]
              simp only [Option.bind_some]
              have hu : usesR r = usesOf r.a r.e := by unfold usesR; rw [if_neg (by omega)]
              have := usesOf_len r.a r.e
              exact hj _ (fun x => by rw [hu]) (by omega)
            · rw [if_neg h7]
              have hu : usesR r = usesOf r.a [] := by unfold usesR; rw [if_pos (by omega)]
              exact hj _ (fun x => by rw [hu, mem_usesOf]; simp) (by omega)
        · rw [if_pos (by simpa using h4), if_pos (.inr h4), j2_bad (by decide)]
  · have h1' : ¬ (0 ≤ r.out_ ∧ r.out_ < (s.vars.length : Int)) := h1
    simp only [h1', decide_false, Bool.not_false, if_true, h1, not_false_eq_true]
    rw [if_neg (by decide), fail_bad (by decide)]
    simp only [Option.bind_some]
    rw [j1_bad (by decide)]
end Pam

/- Check: the program and the document tell the same fault of every system. -/
namespace Pam
open Go

theorem upto_all {T Z : Type} (l : List Int) (p : Int → Prop) [DecidablePred p] (z : Z) (t : T) :
    upto l.length (fun k => if p (l.getD k default) then none else some z) t = if ∃ x ∈ l, ¬ p x then .inr z else .inl t := by
  rcases upto_cases l.length (fun k => if p (l.getD k default) then none else some z) t with ⟨e, h⟩ | ⟨j, z', hj, hf, e⟩
  · rw [e, if_neg]
    rintro ⟨x, hx, hp⟩
    obtain ⟨i, hi, rfl⟩ := List.mem_iff_getElem.1 hx
    have := h i hi
    have e2 : l.getD i default = l[i] := by simp [List.getD, hi]
    simp only [e2, if_neg hp] at this
    cases this
  · rw [e, if_pos]
    · split at hf
      · cases hf
      · simp only [Option.some.injEq] at hf; rw [hf]
    · split at hf
      · cases hf
      · rename_i hp; exact ⟨_, getD_mem hj, hp⟩

theorem F_eq (a b : Int) : ref_F a b = some (TFault.mk a b) := by unfold ref_F; rfl

/-- what a head that is good says -/
structure GoodH (s : TSystem) : Prop where
  v : GoodV s
  nv : s.vars.length ≤ 400
  nr : s.rules.length ≤ 400
  ni : s.in_.length ≤ 400
  no : s.out_.length ≤ 400
  i : ∀ x ∈ s.in_, inV s x
  o : ∀ x ∈ s.out_, inV s x

theorem head_good {s : TSystem} (h : (headF s).code = 0) : GoodH s := by
  unfold headF at h
  split at h
  · cases h
  · rename_i hl
    rcases upto_cases s.vars.length (varF s) () with ⟨e1, h1⟩ | ⟨j, z, hj, hf, e⟩
    · rw [e1] at h
      rcases upto_cases s.in_.length (inF s) () with ⟨e2, h2⟩ | ⟨j, z, hj, hf, e⟩
      · simp only [e2] at h
        rcases upto_cases s.out_.length (outF s) () with ⟨e3, h3⟩ | ⟨j, z, hj, hf, e⟩
        · refine ⟨⟨fun v hv => ?_, fun v hv => ?_⟩, by omega, by omega, by omega, by omega, fun x hx => ?_, fun x hx => ?_⟩
          · obtain ⟨i, hi, rfl⟩ := List.mem_iff_getElem.1 hv
            have := h1 i hi
            have e2 : s.vars.getD i default = s.vars[i] := by simp [List.getD, hi]
            unfold varF varG at this
            rw [e2] at this
            split at this
            · cases this
            · unfold okE; omega
          · obtain ⟨i, hi, rfl⟩ := List.mem_iff_getElem.1 hv
            have := h1 i hi
            have e2 : s.vars.getD i default = s.vars[i] := by simp [List.getD, hi]
            unfold varF varG at this
            rw [e2] at this
            split at this
            · cases this
            · split at this
              · cases this
              · omega
          · obtain ⟨i, hi, rfl⟩ := List.mem_iff_getElem.1 hx
            have := h2 i hi
            have e2 : s.in_.getD i default = s.in_[i] := by simp [List.getD, hi]
            unfold inF at this
            rw [e2] at this
            by_cases hh : inV s s.in_[i]
            · exact hh
            · rw [if_pos hh] at this; cases this
          · obtain ⟨i, hi, rfl⟩ := List.mem_iff_getElem.1 hx
            have := h3 i hi
            have e2 : s.out_.getD i default = s.out_[i] := by simp [List.getD, hi]
            unfold outF at this
            rw [e2] at this
            by_cases hh : inV s s.out_[i]
            · exact hh
            · rw [if_pos hh] at this; cases this
        · simp only [e] at h
          unfold outF at hf
          split at hf
          · simp only [Option.some.injEq] at hf; subst hf; cases h
          · cases hf
      · simp only [e] at h
        unfold inF at hf
        split at hf
        · simp only [Option.some.injEq] at hf; subst hf; cases h
        · split at hf
          · simp only [Option.some.injEq] at hf; subst hf; cases h
          · cases hf
    · simp only [e] at h
      unfold varF varG at hf
      split at hf
      · simp only [Option.some.injEq] at hf; subst hf; cases h
      · split at hf
        · simp only [Option.some.injEq] at hf; subst hf; cases h
        · cases hf

/-- what a rule that is good says -/
theorem ruleF_good {s : TSystem} {l : List Int} {r : TRule} (h : ruleF s l r = 0) : GoodR s r ∧ (∀ x ∈ usesR r, inV s x) ∧ r.a.length ≤ 3 ∧ ¬ l.contains r.out_ = true ∧ ¬ partsT r.op < 0 ∧ (r.a.length : Int) = partsT r.op ∧ ref_typesFit s r = some true := by
  unfold ruleF at h
  by_cases h1 : inV s r.out_
  · rw [if_neg (by simpa using h1)] at h
    by_cases h2 : l.contains r.out_ = true
    · rw [if_pos h2] at h; cases h
    · rw [if_neg h2] at h
      by_cases h3 : partsT r.op < 0 ∨ ¬ (r.a.length : Int) = partsT r.op
      · rw [if_pos h3] at h; cases h
      · rw [if_neg h3] at h
        by_cases h5 : (r.e.length : Int) > 24
        · rw [if_pos h5] at h; cases h
        · rw [if_neg h5] at h
          by_cases h6 : ∃ x ∈ usesR r, ¬ inV s x
          · rw [if_pos h6] at h; cases h
          · rw [if_neg h6] at h
            have hle := partsT_le r.op
            refine ⟨goodR_of h1 h5 h6, fun x hx => Classical.byContradiction (fun hc => h6 ⟨x, hx, hc⟩), by omega, h2, fun hc => h3 (.inl hc), Classical.byContradiction (fun hc => h3 (.inr hc)), ?_⟩
            by_cases h7 : ref_typesFit s r = some true
            · exact h7
            · rw [if_neg h7] at h; cases h
  · rw [if_pos h1] at h; cases h

theorem madeB_iff {s : TSystem} {l : List Int} {v : Int} (h : inV s v) : (madeB s l).getD v.toNat default = true ↔ v ∈ l := by rw [madeB_get h]; simp
theorem madeB_nil (s : TSystem) : List.replicate s.vars.length false = madeB s [] := by
  apply List.ext_getElem
  · simp [madeB_len]
  · intro i h1 h2; simp [madeB]
theorem room1L (n : Nat) (h : n ≤ 1000000) : room n 1 := room1 n h

theorem in_loop {s : TSystem} (g : GoodH s) : loop (fun (x : List Bool × Int) => sys_Check_l5 s x.1 x.2) (madeB s [], 0) = some (madeB s s.in_) := by
  have := loop_mk0 (S := List Bool × Int) (T := List Bool) (fun i => (madeB s (s.in_.take i), (i : Int))) (body := fun x => sys_Check_l5 s x.1 x.2) s.in_.length (madeB s s.in_)
    (by
      intro i hi
      show sys_Check_l5 s (madeB s (s.in_.take i)) (i : Int) = _
      have gi := g.i _ (getD_mem hi)
      have gi' := gi
      unfold inV at gi'
      unfold sys_Check_l5
      rw [if_pos (ltI hi), if_pos (inI hi)]
      simp only [Int.toNat_natCast]
      rw [madeB_len, if_pos gi', madeB_set gi, wrs i (by have := g.ni; omega), take_succ_getD _ hi])
    (by
      show sys_Check_l5 s (madeB s (s.in_.take s.in_.length)) (s.in_.length : Int) = _
      unfold sys_Check_l5
      rw [if_neg (not_ltI _), List.take_length])
  exact this

theorem rules_loop {s : TSystem} (g : GoodH s) : loop (fun (x : Int × List Bool × Int) => sys_Check_l4 s x.1 x.2.1 x.2.2) (0, madeB s s.in_, 0) = some (upto s.rules.length (ruleO s) (0, madeB s (madeL s s.rules.length))) := by
  have e0 : madeL s 0 = s.in_ := by simp [madeL]
  have := loop_mk (S := Int × List Bool × Int) (T := Int × List Bool) (Z := TFault) (fun i => (0, madeB s (madeL s i), (i : Int))) (body := fun x => sys_Check_l4 s x.1 x.2.1 x.2.2) s.rules.length (ruleO s) (0, madeB s (madeL s s.rules.length))
    (by
      intro i hi
      show sys_Check_l4 s 0 (madeB s (madeL s i)) (i : Int) = _
      unfold sys_Check_l4
      rw [if_pos (ltI hi), if_pos (inI hi)]
      simp only [Int.toNat_natCast]
      rw [rule_eq g.v]
      simp only [Option.bind_some]
      unfold ruleO
      by_cases h : ruleF s (madeL s i) (s.rules.getD i default) = 0
      · obtain ⟨gr, _⟩ := ruleF_good h
        have go := gr.o
        have go' := go
        unfold inV at go'
        simp only [h, not_true_eq_false, if_false, if_true]
        rw [madeB_len, if_pos go', madeB_set go, wrs i (by have := g.nr; omega), madeL_succ s hi]
      · simp only [h, not_false_eq_true, if_true, if_false])
    (by
      show sys_Check_l4 s 0 (madeB s (madeL s s.rules.length)) (s.rules.length : Int) = _
      unfold sys_Check_l4
      rw [if_neg (not_ltI _)])
  rw [e0] at this
  exact this

theorem last_loop {s : TSystem} (g : GoodH s) (hr : ∀ i, i < s.rules.length → ruleO s i = none) :
    loop (fun x => sys_Check_l2 s (madeB s (madeL s s.rules.length)) x) 0 = some (upto s.rules.length (lastF s) ()) := by
  refine loop_upto s.rules.length (lastF s) () (fun i hi => ?_) ?_
  · have h0 := hr i hi
    unfold ruleO at h0
    have h0' : ruleF s (madeL s i) (s.rules.getD i default) = 0 := by
      by_cases h : ruleF s (madeL s i) (s.rules.getD i default) = 0
      · exact h
      · simp only [if_neg h] at h0; cases h0
    obtain ⟨gr, hu, ha, _⟩ := ruleF_good h0'
    have he := gr.e
    unfold sys_Check_l2
    rw [if_pos (ltI hi), if_pos (inI hi)]
    simp only [Int.toNat_natCast]
    generalize hR : s.rules.getD i default = r at *
    have hj : ∀ l : List Int, (∀ x, x ∈ l ↔ x ∈ usesR r) → l.length ≤ 1000 → sys_Check_j6 (madeB s (madeL s s.rules.length)) (i : Int) l = some (match lastF s i with | some z => .inr (.inr z) | none => .inl ((i + 1 : Nat) : Int)) := by
      intro l hm hl
      unfold sys_Check_j6
      rw [loop_upto l.length (fun k => if l.getD k default ∈ madeL s s.rules.length then none else some (TFault.mk 9 (i : Int))) () (fun k hk => by
        have gk := hu _ ((hm _).1 (getD_mem hk))
        have gk' := gk
        unfold inV at gk'
        unfold sys_Check_l3
        rw [if_pos (ltI hk), if_pos (inI hk)]
        simp only [Int.toNat_natCast]
        rw [madeB_len, if_pos gk', wrs k (by omega)]
        by_cases hc : l.getD k default ∈ madeL s s.rules.length
        · rw [if_pos ((madeB_iff gk).2 hc), if_pos hc]
        · rw [if_neg (fun h => hc ((madeB_iff gk).1 h)), if_neg hc]) (by unfold sys_Check_l3; rw [if_neg (not_ltI _)])]
      rw [upto_all l (fun x => x ∈ madeL s s.rules.length)]
      unfold lastF
      rw [hR]
      simp only [hm]
      by_cases h9 : ∃ x ∈ usesR r, ¬ x ∈ madeL s s.rules.length
      · simp only [if_pos h9]; rfl
      · simp only [if_neg h9, Option.bind_some, Sum.elim_inl]
        unfold sys_Check_j5
        rw [wrs i (by have := g.nr; omega)]
    by_cases h7 : r.op ≥ 14
    · rw [if_pos h7, sysUses_eq _ (by omega) (by omega)]
      simp only [Option.bind_some]
      have hu' : usesR r = usesOf r.a r.e := by unfold usesR; rw [if_neg (by omega)]
      have := usesOf_len r.a r.e
      rw [hj (usesOf r.a r.e) (fun x => by rw [hu']) (by omega)]
      cases lastF s i <;> rfl
    · rw [if_neg h7]
      have hu' : usesR r = usesOf r.a [] := by unfold usesR; rw [if_pos (by omega)]
      rw [hj r.a (fun x => by rw [hu', mem_usesOf]; simp) (by omega)]
      cases lastF s i <;> rfl
  · unfold sys_Check_l2; rw [if_neg (not_ltI _)]

theorem end_loop {s : TSystem} (g : GoodH s) : loop (fun x => sys_Check_l1 s (madeB s (madeL s s.rules.length)) x) 0 = some (upto s.out_.length (endF s) ()) := by
  refine loop_upto s.out_.length (endF s) () (fun i hi => ?_) ?_
  · have gk := g.o _ (getD_mem hi)
    have gk' := gk
    unfold inV at gk'
    unfold sys_Check_l1 endF
    rw [if_pos (ltI hi), if_pos (inI hi)]
    simp only [Int.toNat_natCast]
    rw [madeB_len, if_pos gk', wrs i (by have := g.no; omega)]
    by_cases hc : s.out_.getD i default ∈ madeL s s.rules.length
    · rw [if_pos ((madeB_iff gk).2 hc), if_pos hc]
    · rw [if_neg (fun h => hc ((madeB_iff gk).1 h)), if_neg hc]
  · unfold sys_Check_l1; rw [if_neg (not_ltI _)]

theorem sysCheck_eq (s : TSystem) : sys_Check s = some (checkF s) := by
  unfold sys_Check checkF
  rw [sysHead_eq]
  simp only [Option.bind_some]
  by_cases h : (headF s).code = 0
  · have g := head_good h
    simp only [h, not_true_eq_false, if_false]
    rw [if_pos ⟨by omega, room1 _ (by have := g.nv; omega)⟩]
    rw [madeB_nil]
    show (loop (fun (x : List Bool × Int) => sys_Check_l5 s x.1 x.2) (madeB s [], 0)).bind (fun z46 => sys_Check_j1 s z46) = _
    rw [in_loop g]
    simp only [Option.bind_some]
    unfold sys_Check_j1
    show (loop (fun (x : Int × List Bool × Int) => sys_Check_l4 s x.1 x.2.1 x.2.2) (0, madeB s s.in_, 0)).bind (Sum.elim (fun z => sys_Check_j2 s z.1 z.2) (fun z36 => some z36)) = _
    rw [rules_loop g]
    simp only [Option.bind_some]
    rcases upto_cases s.rules.length (ruleO s) ((0 : Int), madeB s (madeL s s.rules.length)) with ⟨e, h1⟩ | ⟨j, z, hj, hf, e⟩
    · rw [e, upto_none h1]
      simp only [Sum.elim_inl]
      unfold sys_Check_j2
      rw [last_loop g h1]
      simp only [Option.bind_some]
      cases upto s.rules.length (lastF s) () with
      | inr z => rfl
      | inl u =>
        simp only [Sum.elim_inl]
        unfold sys_Check_j3
        rw [end_loop g]
        simp only [Option.bind_some]
        cases upto s.out_.length (endF s) () <;> rfl
    · rw [e]
      rcases upto_cases s.rules.length (ruleO s) () with ⟨e', h1⟩ | ⟨j', z', hj', hf', e'⟩
      · rw [h1 j hj] at hf; cases hf
      · have : z = z' := by
          unfold upto at e e'
          cases hq : (List.range s.rules.length).findSome? (ruleO s) with
          | none => rw [hq] at e; cases e
          | some q => rw [hq] at e e'; simp at e e'; rw [← e, ← e']
        rw [e', this]; rfl
  · simp only [h, not_false_eq_true, if_true]
end Pam

/- Operators: the program and the document tell the same number. -/
namespace Pam
open Go

theorem wrap_ok (n : Int) : okI .i64 (IntKind.wrap .i64 n) := by
  show -9223372036854775808 ≤ IntKind.wrap .i64 n ∧ IntKind.wrap .i64 n ≤ 9223372036854775807
  rw [IntKind.wrap_i64]; omega
theorem wrap_add_mul (x t : Int) : IntKind.wrap .i64 (x + 18446744073709551616 * t) = IntKind.wrap .i64 x := by
  simp only [IntKind.wrap_i64]
  have : (x + 18446744073709551616 * t + 9223372036854775808) = (x + 9223372036854775808) + 18446744073709551616 * t := by omega
  rw [this, Int.add_mul_emod_self_left]
theorem wrap_is (x : Int) : ∃ t, IntKind.wrap .i64 x = x + 18446744073709551616 * t := by
  refine ⟨-((x + 9223372036854775808) / 18446744073709551616), ?_⟩
  rw [IntKind.wrap_i64]; omega
theorem wrap_id {n : Int} (h : okI .i64 n) : IntKind.wrap .i64 n = n := wr h.1 h.2

theorem apply_mod (a b : Int) (ha : okI .i64 a) (hb : b ≠ 0) : okI .i64 (a.tmod b) ∧ IntKind.wrap .i64 (a - IntKind.wrap .i64 (IntKind.wrap .i64 (a.tdiv b) * b)) = a.tmod b := by
  have ha' : -9223372036854775808 ≤ a ∧ a ≤ 9223372036854775807 := ha
  have h1 := Int.mul_tdiv_add_tmod a b
  have hr : okI .i64 (a.tmod b) := by
    show -9223372036854775808 ≤ a.tmod b ∧ a.tmod b ≤ 9223372036854775807
    rcases Int.le_total 0 a with h | h
    · have h2 := Int.tmod_nonneg b h
      have h3 : a.tmod b ≤ a := by
        rw [Int.tmod_eq_emod_of_nonneg h]
        have h4 := Int.mul_ediv_add_emod a b
        have h5 : 0 ≤ b * (a / b) := by
          rcases Int.le_total 0 b with hb0 | hb0
          · exact Int.mul_nonneg hb0 (Int.ediv_nonneg h hb0)
          · exact Int.mul_nonneg_of_nonpos_of_nonpos hb0 (Int.ediv_nonpos_of_nonneg_of_nonpos h hb0)
        omega
      omega
    · have h2 : 0 ≤ (-a).tmod b := Int.tmod_nonneg b (by omega)
      have h3 : (-a).tmod b ≤ -a := by
        rw [Int.tmod_eq_emod_of_nonneg (by omega)]
        have h4 := Int.mul_ediv_add_emod (-a) b
        have h5 : 0 ≤ b * (-a / b) := by
          rcases Int.le_total 0 b with hb0 | hb0
          · exact Int.mul_nonneg hb0 (Int.ediv_nonneg (by omega) hb0)
          · exact Int.mul_nonneg_of_nonpos_of_nonpos hb0 (Int.ediv_nonpos_of_nonneg_of_nonpos (by omega) hb0)
        omega
      rw [Int.neg_tmod] at h2 h3
      omega
  refine ⟨hr, ?_⟩
  obtain ⟨t, ht⟩ := wrap_is (a.tdiv b)
  rw [ht]
  have e1 : (a.tdiv b + 18446744073709551616 * t) * b = a.tdiv b * b + 18446744073709551616 * (t * b) := by rw [Int.add_mul, Int.mul_assoc]
  rw [e1, wrap_add_mul]
  obtain ⟨t2, ht2⟩ := wrap_is (a.tdiv b * b)
  rw [ht2]
  have e2 : a - (a.tdiv b * b + 18446744073709551616 * t2) = a.tmod b + 18446744073709551616 * (-t2) := by rw [Int.mul_comm (a.tdiv b) b]; omega
  rw [e2, wrap_add_mul, wrap_id hr]

/-- an operator of numbers -/
noncomputable def app (k a b : Int) : Int := (sys_Apply k a b).getD 0
theorem apply_eq (k a b : Int) (ha : okI .i64 a) (hb : okI .i64 b) : sys_Apply k a b = some (app k a b) ∧ ref_Apply k a b = some (app k a b) ∧ okI .i64 (app k a b) := by
  have h01 : ∀ c : Bool, (if c = true then some (1 : Int) else some 0) = some (if c = true then 1 else 0) := fun c => by cases c <;> rfl
  have ok01 : ∀ c : Bool, okI .i64 (if c = true then (1 : Int) else 0) := fun c => by cases c <;> exact ⟨by decide, by decide⟩
  have key : ∀ v, sys_Apply k a b = some v → ref_Apply k a b = some v → okI .i64 v → sys_Apply k a b = some (app k a b) ∧ ref_Apply k a b = some (app k a b) ∧ okI .i64 (app k a b) := fun v h1 h2 h3 => by
    have : app k a b = v := by unfold app; rw [h1]; rfl
    rw [this]; exact ⟨h1, h2, h3⟩
  by_cases c1 : k = 1
  · exact key _ (by unfold sys_Apply; rw [if_pos c1]) (by unfold ref_Apply; rw [if_pos c1]) (wrap_ok _)
  by_cases c2 : k = 2
  · exact key _ (by unfold sys_Apply; rw [if_neg c1, if_pos c2]) (by unfold ref_Apply; rw [if_neg c1, if_pos c2]) (wrap_ok _)
  by_cases c3 : k = 3
  · exact key _ (by unfold sys_Apply; rw [if_neg c1, if_neg c2, if_pos c3]) (by unfold ref_Apply; rw [if_neg c1, if_neg c2, if_pos c3]) (wrap_ok _)
  by_cases c4 : k = 4
  · subst c4
    by_cases z : b = 0
    · exact key 0 (by simp [sys_Apply, sys_Apply_j1, sys_divide, z]) (by simp [ref_Apply, z]) ⟨by decide, by decide⟩
    · by_cases z1 : b = -1
      · subst z1
        exact key (IntKind.wrap .i64 (0 - a)) (by simp [sys_Apply, sys_Apply_j1, sys_divide, Int.tdiv_neg, Int.tdiv_one]) (by simp [ref_Apply]) (wrap_ok _)
      · exact key (IntKind.wrap .i64 (a.tdiv b)) (by simp [sys_Apply, sys_Apply_j1, sys_divide, z]) (by simp [ref_Apply, z, z1]) (wrap_ok _)
  by_cases c5 : k = 5
  · subst c5
    by_cases z : b = 0
    · exact key 0 (by simp [sys_Apply, sys_Apply_j1, sys_divide, z]) (by simp [ref_Apply, z]) ⟨by decide, by decide⟩
    · by_cases z1 : b = -1
      · subst z1
        exact key 0 (by simp [sys_Apply, sys_Apply_j1, sys_divide, Int.tmod_neg, Int.tmod_one]) (by simp [ref_Apply]) ⟨by decide, by decide⟩
      · obtain ⟨m1, m2⟩ := apply_mod a b ha z
        exact key (a.tmod b) (by simp [sys_Apply, sys_Apply_j1, sys_divide, z]) (by simp only [ref_Apply]; rw [if_neg (by decide), if_neg (by decide), if_neg (by decide), if_neg (by decide), if_neg (by decide), if_pos trivial, if_neg z, if_neg z1, if_pos z, m2]) m1
  by_cases c6 : k = 6
  · subst c6
    exact key (if b < a then b else a) (by simp [sys_Apply, sys_Apply_j1]) (by simp only [ref_Apply]; simp; split <;> rfl) (by split <;> assumption)
  by_cases c7 : k = 7
  · subst c7
    exact key (if b > a then b else a) (by simp [sys_Apply, sys_Apply_j1]) (by simp only [ref_Apply]; simp; split <;> rfl) (by split <;> assumption)
  by_cases c8 : k = 8
  · subst c8
    by_cases z : a < b
    · exact key 1 (by simp [sys_Apply, sys_Apply_j1, sys_truth, z]) (by simp [ref_Apply, ref_Apply_j1, z]) ⟨by decide, by decide⟩
    · exact key 0 (by simp [sys_Apply, sys_Apply_j1, sys_truth, z]) (by simp [ref_Apply, ref_Apply_j1, z]) ⟨by decide, by decide⟩
  by_cases c9 : k = 9
  · subst c9
    by_cases z : a = b
    · exact key 1 (by simp [sys_Apply, sys_Apply_j1, sys_truth, z]) (by simp [ref_Apply, ref_Apply_j1, z]) ⟨by decide, by decide⟩
    · exact key 0 (by simp [sys_Apply, sys_Apply_j1, sys_truth, z]) (by simp [ref_Apply, ref_Apply_j1, z]) ⟨by decide, by decide⟩
  by_cases c10 : k = 10
  · subst c10
    by_cases z : a = 0
    · exact key 0 (by simp [sys_Apply, sys_Apply_j1, sys_truth, z]) (by simp [ref_Apply, ref_Apply_j1, z]) ⟨by decide, by decide⟩
    · by_cases z2 : b = 0
      · exact key 0 (by simp [sys_Apply, sys_Apply_j1, sys_truth, z, z2]) (by simp [ref_Apply, ref_Apply_j1, z, z2]) ⟨by decide, by decide⟩
      · exact key 1 (by simp [sys_Apply, sys_Apply_j1, sys_truth, z, z2]) (by simp [ref_Apply, ref_Apply_j1, z, z2]) ⟨by decide, by decide⟩
  by_cases c11 : k = 11
  · subst c11
    by_cases z : a = 0
    · by_cases z2 : b = 0
      · exact key 0 (by simp [sys_Apply, sys_Apply_j1, sys_truth, z, z2]) (by simp [ref_Apply, ref_Apply_j1, z, z2]) ⟨by decide, by decide⟩
      · exact key 1 (by simp [sys_Apply, sys_Apply_j1, sys_truth, z, z2]) (by simp [ref_Apply, ref_Apply_j1, z, z2]) ⟨by decide, by decide⟩
    · exact key 1 (by simp [sys_Apply, sys_Apply_j1, sys_truth, z]) (by simp [ref_Apply, ref_Apply_j1, z]) ⟨by decide, by decide⟩
  by_cases c12 : k = 12
  · subst c12
    by_cases z : a = 0 <;> by_cases z2 : b = 0
    · exact key 0 (by simp [sys_Apply, sys_Apply_j1, sys_truth, z, z2]) (by simp [ref_Apply, ref_Apply_j1, z, z2]) ⟨by decide, by decide⟩
    · exact key 1 (by simp [sys_Apply, sys_Apply_j1, sys_truth, z, z2]) (by simp [ref_Apply, ref_Apply_j1, z, z2]) ⟨by decide, by decide⟩
    · exact key 1 (by simp [sys_Apply, sys_Apply_j1, sys_truth, z, z2]) (by simp [ref_Apply, ref_Apply_j1, z, z2]) ⟨by decide, by decide⟩
    · have e1 : (a != 0) = true := by simp [z]
      have e2 : (b != 0) = true := by simp [z2]
      have e3 : (a == 0) = false := by simp [z]
      have e4 : (b == 0) = false := by simp [z2]
      exact key 0 (by simp [sys_Apply, sys_Apply_j1, sys_truth, e1, e2]) (by simp [ref_Apply, ref_Apply_j1, e3, e4]) ⟨by decide, by decide⟩
  by_cases c13 : k = 13
  · subst c13
    exact key (IntKind.wrap .i64 (0 - a)) (by simp [sys_Apply, sys_Apply_j1]) (by simp [ref_Apply]) (wrap_ok _)
  by_cases c14 : k = 14
  · subst c14
    by_cases z : a = 0
    · exact key 1 (by simp [sys_Apply, sys_Apply_j1, sys_truth, z]) (by simp [ref_Apply, ref_Apply_j1, z]) ⟨by decide, by decide⟩
    · exact key 0 (by simp [sys_Apply, sys_Apply_j1, sys_truth, z]) (by simp [ref_Apply, ref_Apply_j1, z]) ⟨by decide, by decide⟩
  exact key 0 (by simp [sys_Apply, sys_Apply_j1, c1, c2, c3, c4, c5, c6, c7, c8, c9, c10, c11, c12, c13, c14]) (by simp [ref_Apply, ref_Apply_j1, c1, c2, c3, c4, c5, c6, c7, c8, c9, c10, c11, c12, c13, c14]) ⟨by decide, by decide⟩


theorem okI_zero : okI .i64 0 := ⟨by decide, by decide⟩
theorem ok_getD {l : List Int} (h : ∀ y ∈ l, okI .i64 y) (i : Nat) : okI .i64 (l.getD i default) := by
  by_cases hi : i < l.length
  · exact h _ (getD_mem hi)
  · have : l.getD i default = 0 := by simp [List.getD, List.getElem?_eq_none (Nat.le_of_not_lt hi)]
    rw [this]; exact okI_zero
theorem ok_set {l : List Int} {i : Nat} {v : Int} (h : ∀ y ∈ l, okI .i64 y) (hv : okI .i64 v) : ∀ y ∈ l.set i v, okI .i64 y := fun y hy => by
  rcases List.mem_or_eq_of_mem_set hy with h' | rfl
  · exact h y h'
  · exact hv
end Pam

/- The document's first words on systems hold. -/
namespace Pam
open Go

theorem sameInts_refl (l : List Int) (hl : l.length ≤ 9000000) : ref_SameInts l l = some true := by
  unfold ref_SameInts
  rw [if_neg (by simp)]
  rw [loop_upto l.length (fun _ => none) () (fun i hi => by
    simp only [ref_SameInts_l1, Int.toNat_natCast]
    rw [if_pos (ltI hi), if_pos ⟨inI hi, inI hi⟩, if_neg (by simp), wrs i (by omega)]) (by simp [ref_SameInts_l1]), upto_none (fun _ _ => rfl)]
  rfl

theorem begun_uses : usesOf (lit ([4] : List Int)) (lit ([(TPush.mk 3 0 3 0), (TPush.mk 1 0 9 0)] : List TPush)) = [3, 4] := by decide

theorem begun_check : ∃ f : TFault, sys_Check (TSystem.mk [] [] (lit ([0] : List Int)) []) = some f ∧ f.code = 16 := by
  have h : headF (TSystem.mk [] [] (lit ([0] : List Int)) []) = TFault.mk 16 (-1) := by rfl
  refine ⟨_, sysCheck_eq _, ?_⟩
  unfold checkF
  rw [h]
  simp

theorem sysBegun_true : law_sysBegun = some true := by
  unfold law_sysBegun
  have h1 : sys_Apply 4 (-7) 2 = some (-3) := by
    simp only [sys_Apply, sys_Apply_j1, sys_divide]
    decide
  obtain ⟨f, h2, h3⟩ := begun_check
  rw [h1]
  simp only [Option.bind_some, if_true]
  rw [sysUses_eq _ (by simp [lit]) (by simp [lit])]
  simp only [Option.bind_some]
  rw [begun_uses, show (lit ([3, 4] : List Int)) = [3, 4] from rfl, sameInts_refl _ (by simp)]
  simp only [Option.bind_some, if_true]
  rw [h2]
  simp [h3]
end Pam

/- The document's fault of a system. -/
namespace Pam
open Go

def outsL (s : TSystem) (i : Nat) : List Int := (s.rules.take i).map (fun r => r.out_)
theorem outsL_len (s : TSystem) {i : Nat} (h : i ≤ s.rules.length) : (outsL s i).length = i := by unfold outsL; simp [h]
theorem madeL_outs (s : TSystem) (i : Nat) : madeL s i = s.in_ ++ outsL s i := rfl

theorem refMade_eq {s : TSystem} {n : Nat} (hn : n ≤ s.rules.length) (hb : s.rules.length ≤ 100000) : ref_made s (n : Int) = some (outsL s n) := by
  unfold ref_made
  have := loop_mk0 (S := List Int × Int) (T := List Int) (fun i => (outsL s i, (i : Int))) (body := fun x => ref_made_l1 s (n : Int) x.1 x.2) n (outsL s n)
    (by
      intro i hi
      show ref_made_l1 s (n : Int) (outsL s i) (i : Int) = _
      unfold ref_made_l1
      rw [if_pos (ltI hi), if_pos ⟨inI (by omega), room8 _ (by rw [outsL_len s (by omega)]; omega)⟩, wrs i (by omega)]
      simp only [Int.toNat_natCast]
      have : outsL s (i + 1) = outsL s i ++ [(s.rules.getD i default).out_] := by unfold outsL; rw [take_succ_getD _ (by omega), List.map_append]; rfl
      rw [this]
      rfl)
    (by
      show ref_made_l1 s (n : Int) (outsL s n) (n : Int) = _
      unfold ref_made_l1
      rw [if_neg (not_ltI _)])
  have e0 : outsL s 0 = [] := rfl
  rw [e0] at this
  show (loop (fun x => ref_made_l1 s (n : Int) x.1 x.2) ([], 0)).bind _ = _
  rw [show ((0 : Nat) : Int) = 0 from rfl] at this
  rw [this]
  rfl

theorem refUsed_eq (r : TRule) (ha : r.a.length ≤ 100000) (he : r.e.length ≤ 100000) : ref_used r = some (usesR r) := by
  unfold ref_used usesR
  by_cases h : r.op < 14
  · rw [if_pos h, if_pos h]
    unfold ref_used_j1
    rw [refUses_eq _ (by simp only; omega) (by simp)]
    rfl
  · rw [if_neg h, if_neg h]
    unfold ref_used_j1
    rw [refUses_eq _ (by simp only; omega) (by simp only; omega)]
    rfl

theorem usesR_len (r : TRule) : (usesR r).length ≤ r.a.length + r.e.length := by
  unfold usesR
  split
  · have := usesOf_len r.a []; simp at this; omega
  · exact usesOf_len _ _

theorem not_inV_iff (s : TSystem) (x : Int) : ¬ inV s x ↔ x < 0 ∨ x ≥ (s.vars.length : Int) := by unfold inV; omega

theorem refBodyR {s : TSystem} (g : GoodH s) {i : Nat} (hi : i < s.rules.length) : ref_SysFault_l4 s (i : Int) = some (match ruleO s i with | some z => .inr (.inr z) | none => .inl ((i + 1 : Nat) : Int)) := by
  unfold ref_SysFault_l4 ruleO ruleF
  rw [if_pos (ltI hi), if_pos (inI hi)]
  simp only [Int.toNat_natCast, F_eq, Option.bind_some]
  have hnr := g.nr
  generalize hR : s.rules.getD i default = r
  by_cases h1 : inV s r.out_
  · have h1' := h1
    unfold inV at h1'
    rw [if_neg (by omega), if_neg (by omega)]
    rw [refIn_eq _ _ (by have := g.ni; omega)]
    simp only [Option.bind_some, h1, not_true_eq_false, if_false]
    by_cases h2 : s.in_.contains r.out_ = true
    · rw [if_pos h2]
      have : (madeL s i).contains r.out_ = true := by rw [madeL_outs]; simp at h2 ⊢; exact .inl h2
      simp only [this, if_true]
      rfl
    · rw [if_neg h2, refMade_eq (by omega) (by omega)]
      simp only [Option.bind_some]
      rw [refIn_eq _ _ (by rw [outsL_len s (by omega)]; omega)]
      simp only [Option.bind_some]
      by_cases h3 : (outsL s i).contains r.out_ = true
      · rw [if_pos h3]
        have : (madeL s i).contains r.out_ = true := by rw [madeL_outs]; simp at h3 ⊢; exact .inr h3
        simp only [this, if_true]
        rfl
      · rw [if_neg h3]
        have : (madeL s i).contains r.out_ = false := by rw [madeL_outs]; simp at h2 h3 ⊢; exact ⟨h2, h3⟩
        simp only [this, Bool.false_eq_true, if_false, refParts_eq, Option.bind_some]
        by_cases h4 : partsT r.op < 0
        · rw [if_pos h4]
          simp only [h4, true_or, if_true]
          rfl
        · rw [if_neg h4]
          by_cases h5 : (r.a.length : Int) = partsT r.op
          · rw [if_neg (fun hc => hc h5.symm)]
            have h45 : ¬ (partsT r.op < 0 ∨ ¬ (r.a.length : Int) = partsT r.op) := fun hc => hc.elim h4 (fun h => h h5)
            simp only [if_neg h45]
            have hle := partsT_le r.op
            by_cases h6 : (r.e.length : Int) > 24
            · rw [if_pos h6]
              simp only [if_pos h6]
              rfl
            · rw [if_neg h6]
              simp only [if_neg h6]
              rw [refUsed_eq r (by omega) (by omega)]
              simp only [Option.bind_some]
              have hul := usesR_len r
              rw [loop_upto (usesR r).length (fun k => if inV s ((usesR r).getD k default) then none else some (TFault.mk 16 (i : Int))) () (fun k hk => by
                unfold ref_SysFault_l5
                rw [if_pos (ltI hk), if_pos (inI hk)]
                simp only [Int.toNat_natCast, F_eq, Option.bind_some]
                rw [wrs k (by omega)]
                by_cases hc : inV s ((usesR r).getD k default)
                · have hc' := hc
                  unfold inV at hc'
                  rw [if_neg (by omega), if_neg (by omega), if_pos hc]
                · rw [if_neg hc]
                  rcases (not_inV_iff s _).1 hc with h | h
                  · rw [if_pos h]
                  · by_cases h' : (usesR r).getD k default < 0
                    · rw [if_pos h']
                    · rw [if_neg h', if_pos h]) (by unfold ref_SysFault_l5; rw [if_neg (not_ltI _)])]
              rw [upto_all (usesR r) (fun x => inV s x)]
              by_cases h7 : ∃ x ∈ usesR r, ¬ inV s x
              · simp only [if_pos h7]; rfl
              · simp only [if_neg h7, Option.bind_some, Sum.elim_inl]
                unfold ref_SysFault_j6
                simp only [Int.toNat_natCast, hR]
                obtain ⟨_, f2⟩ := fits_all (c := 0) g.v (goodR_of h1 h6 h7) h4 h5
                cases hf : ref_typesFit s r with
                | none => exact absurd hf f2
                | some b =>
                  cases b
                  · simp only [Option.bind_some, F_eq]; rfl
                  · simp only [Option.bind_some, if_true]
                    unfold ref_SysFault_j5
                    rw [wrs i (by omega)]
          · rw [if_pos (fun hc => h5 hc.symm)]
            have h45 : partsT r.op < 0 ∨ ¬ (r.a.length : Int) = partsT r.op := .inr h5
            simp only [if_pos h45]
            rfl
  · simp only [h1, not_false_eq_true, if_true]
    rcases (not_inV_iff s _).1 h1 with h | h
    · rw [if_pos h]; rfl
    · by_cases h' : r.out_ < 0
      · rw [if_pos h']; rfl
      · rw [if_neg h', if_pos h]; rfl

theorem ref_last {s : TSystem} (g : GoodH s) (hr : ∀ i, i < s.rules.length → ruleO s i = none) :
    loop (fun x => ref_SysFault_l2 s (outsL s s.rules.length) x) 0 = some (upto s.rules.length (lastF s) ()) := by
  have hnr := g.nr
  refine loop_upto s.rules.length (lastF s) () (fun i hi => ?_) ?_
  · have h0 := hr i hi
    unfold ruleO at h0
    have h0' : ruleF s (madeL s i) (s.rules.getD i default) = 0 := by
      by_cases h : ruleF s (madeL s i) (s.rules.getD i default) = 0
      · exact h
      · simp only [if_neg h] at h0; cases h0
    obtain ⟨gr, hu, ha, _⟩ := ruleF_good h0'
    have he := gr.e
    unfold ref_SysFault_l2 lastF
    rw [if_pos (ltI hi), if_pos (inI hi)]
    simp only [Int.toNat_natCast]
    generalize hR : s.rules.getD i default = r at *
    rw [refUsed_eq r (by omega) (by omega)]
    simp only [Option.bind_some]
    have hul := usesR_len r
    rw [loop_upto (usesR r).length (fun k => if (usesR r).getD k default ∈ madeL s s.rules.length then none else some (TFault.mk 9 (i : Int))) () (fun k hk => by
      unfold ref_SysFault_l3
      rw [if_pos (ltI hk), if_pos (inI hk)]
      simp only [Int.toNat_natCast, F_eq, Option.bind_some]
      rw [wrs k (by omega), refIn_eq _ _ (by have := g.ni; omega)]
      simp only [Option.bind_some]
      rw [refIn_eq _ _ (by rw [outsL_len s (by omega)]; omega)]
      simp only [Option.bind_some]
      rw [madeL_outs]
      by_cases hc : (usesR r).getD k default ∈ s.in_
      · rw [if_pos (by simpa using hc), if_pos (List.mem_append.2 (.inl hc))]
      · rw [if_neg (by simpa using hc)]
        by_cases hd : (usesR r).getD k default ∈ outsL s s.rules.length
        · rw [if_pos (by simpa using hd), if_pos (List.mem_append.2 (.inr hd))]
        · rw [if_neg (by simpa using hd), if_neg (fun h => (List.mem_append.1 h).elim hc hd)]) (by unfold ref_SysFault_l3; rw [if_neg (not_ltI _)])]
    rw [upto_all (usesR r) (fun x => x ∈ madeL s s.rules.length)]
    by_cases h9 : ∃ x ∈ usesR r, ¬ x ∈ madeL s s.rules.length
    · simp only [if_pos h9]; rfl
    · simp only [if_neg h9, Option.bind_some, Sum.elim_inl]
      unfold ref_SysFault_j4
      rw [wrs i (by omega)]
  · unfold ref_SysFault_l2; rw [if_neg (not_ltI _)]

theorem ref_end {s : TSystem} (g : GoodH s) : loop (fun x => ref_SysFault_l1 s (outsL s s.rules.length) x) 0 = some (upto s.out_.length (endF s) ()) := by
  have hno := g.no
  have hnr := g.nr
  refine loop_upto s.out_.length (endF s) () (fun i hi => ?_) ?_
  · unfold ref_SysFault_l1 endF
    rw [if_pos (ltI hi), if_pos (inI hi)]
    simp only [Int.toNat_natCast, F_eq, Option.bind_some]
    rw [wrs i (by omega), refIn_eq _ _ (by have := g.ni; omega)]
    simp only [Option.bind_some]
    rw [refIn_eq _ _ (by rw [outsL_len s (by omega)]; omega)]
    simp only [Option.bind_some]
    rw [madeL_outs]
    by_cases hc : s.out_.getD i default ∈ s.in_
    · rw [if_pos (by simpa using hc), if_pos (List.mem_append.2 (.inl hc))]
    · rw [if_neg (by simpa using hc)]
      by_cases hd : s.out_.getD i default ∈ outsL s s.rules.length
      · rw [if_pos (by simpa using hd), if_pos (List.mem_append.2 (.inr hd))]
      · rw [if_neg (by simpa using hd), if_neg (fun h => (List.mem_append.1 h).elim hc hd)]
  · unfold ref_SysFault_l1; rw [if_neg (not_ltI _)]

theorem refFault_eq (s : TSystem) : ref_SysFault s = some (checkF s) := by
  unfold ref_SysFault checkF
  rw [refHead_eq]
  simp only [Option.bind_some]
  by_cases h : (headF s).code = 0
  · have g := head_good h
    simp only [h, not_true_eq_false, if_false]
    rw [loop_upto s.rules.length (ruleO s) () (fun i hi => by rw [refBodyR g hi]; cases ruleO s i <;> rfl) (by unfold ref_SysFault_l4; rw [if_neg (not_ltI _)])]
    simp only [Option.bind_some]
    rcases upto_cases s.rules.length (ruleO s) () with ⟨e, h1⟩ | ⟨j, z, hj, hf, e⟩
    · rw [e]
      simp only [Sum.elim_inl]
      unfold ref_SysFault_j1
      rw [refMade_eq (Nat.le_refl _) (by have := g.nr; omega)]
      simp only [Option.bind_some]
      rw [ref_last g h1]
      simp only [Option.bind_some]
      cases upto s.rules.length (lastF s) () with
      | inr z => rfl
      | inl u =>
        simp only [Sum.elim_inl]
        unfold ref_SysFault_j2
        rw [ref_end g]
        simp only [Option.bind_some]
        cases upto s.out_.length (endF s) () <;> rfl
    · rw [e]; rfl
  · simp only [h, not_false_eq_true, if_true]
end Pam

/- Systems that are not too great, and their copies. -/
namespace Pam
open Go

theorem foldE_all {A T Z : Type} (P : T → Prop) (f : Nat → A → T → A ⊕ Z) (h : ∀ i a x a', f i a x = .inl a' → P x) : ∀ (l : List T) (i : Nat) (a b : A), foldE f i l a = .inl b → ∀ x ∈ l, P x
  | [], i, a, b, _, x, hx => by cases hx
  | y :: l, i, a, b, he, x, hx => by
    rw [foldE] at he
    cases hf : f i a y with
    | inr z => rw [hf] at he; cases he
    | inl a' =>
      rw [hf] at he
      rcases List.mem_cons.1 hx with rfl | hx
      · exact h _ _ _ _ hf
      · exact foldE_all P f h l _ _ _ he x hx

theorem foldE_inr {A T Z : Type} (P : Z → Prop) (f : Nat → A → T → A ⊕ Z) (h : ∀ i a x z, f i a x = .inr z → P z) : ∀ (l : List T) (i : Nat) (a : A) (z : Z), foldE f i l a = .inr z → P z
  | [], i, a, z, he => by cases he
  | y :: l, i, a, z, he => by
    rw [foldE] at he
    cases hf : f i a y with
    | inr z' => rw [hf] at he; simp only [Sum.inr.injEq] at he; subst he; exact h _ _ _ _ hf
    | inl a' => rw [hf] at he; exact foldE_inr P f h l _ _ _ he

/-- a system that is not too great -/
structure NotGreat (s : TSystem) (m : Nat) : Prop where
  nv : s.vars.length ≤ m
  nr : s.rules.length ≤ m
  ni : s.in_.length ≤ m
  no : s.out_.length ≤ m
  r : ∀ r ∈ s.rules, r.a.length ≤ 100 ∧ r.e.length ≤ 1000

theorem great_eq (s : TSystem) (m : Nat) (hm : m ≤ 100000) : ∃ b, ref_GreatSystem s (m : Int) = some b ∧ (b = false → NotGreat s m) := by
  unfold ref_GreatSystem
  by_cases h1 : (s.vars.length : Int) > m
  · rw [if_pos h1]; exact ⟨true, rfl, fun h => by cases h⟩
  rw [if_neg h1]
  by_cases h2 : (s.rules.length : Int) > m
  · rw [if_pos h2]; exact ⟨true, rfl, fun h => by cases h⟩
  rw [if_neg h2]
  by_cases h3 : (s.in_.length : Int) > m
  · rw [if_pos h3]; exact ⟨true, rfl, fun h => by cases h⟩
  rw [if_neg h3]
  by_cases h4 : (s.out_.length : Int) > m
  · rw [if_pos h4]; exact ⟨true, rfl, fun h => by cases h⟩
  rw [if_neg h4]
  obtain ⟨e1, _⟩ := loop_foldE (A := Int) (T := TVar) (O := Int) (Z := Bool) (S := Int × Int) (fun a i => (a, i)) (body := fun x => ref_GreatSystem_l2 s x.1 x.2) s.vars
    (fun _ a v => if v.n > 1000 then .inr true else .inl (IntKind.wrap .i64 (a + cellsV v.n))) (fun _ _ => True) (fun a => a) 0 trivial
    (by
      intro i a hi _
      refine ⟨?_, fun _ _ => trivial⟩
      show ref_GreatSystem_l2 s a (i : Int) = _
      unfold ref_GreatSystem_l2
      rw [if_pos (ltI hi), if_pos (inI hi)]
      simp only [Int.toNat_natCast, refCells_eq, Option.bind_some]
      rw [wrs i (by omega)]
      by_cases h : (s.vars.getD i default).n > 1000
      · rw [if_pos h, if_pos h]
      · rw [if_neg h, if_neg h])
    (by
      intro a _
      show ref_GreatSystem_l2 s a (s.vars.length : Int) = _
      unfold ref_GreatSystem_l2
      rw [if_neg (not_ltI _)])
  show ∃ b, (loop (fun (x : Int × Int) => ref_GreatSystem_l2 s x.1 x.2) (0, 0)).bind (Sum.elim (fun z18 => ref_GreatSystem_j1 s m z18) (fun z19 => some z19)) = some b ∧ _
  rw [e1]
  simp only [Option.bind_some]
  cases hE : foldE (fun _ a v => if v.n > 1000 then .inr true else .inl (IntKind.wrap .i64 (a + cellsV v.n))) 0 s.vars (0 : Int) with
  | inr z =>
    refine ⟨z, rfl, fun hz => ?_⟩
    have := foldE_inr (fun z => z = true) _ (fun i a x z h => by
      split at h
      · simp only [Sum.inr.injEq] at h; exact h.symm
      · cases h) _ _ _ _ hE
    rw [hz] at this; cases this
  | inl a0 =>
    simp only [Sum.elim_inl]
    unfold ref_GreatSystem_j1
    obtain ⟨e2, _⟩ := loop_foldE (A := Int) (T := TRule) (O := Int) (Z := Bool) (S := Int × Int) (fun a i => (a, i)) (body := fun x => ref_GreatSystem_l1 s x.1 x.2) s.rules
      (fun _ a r => if (r.a.length : Int) > 100 ∨ (r.e.length : Int) > 1000 ∨ (r.op = 15 ∧ r.n > 1000) then .inr true else .inl (IntKind.wrap .i64 (a + IntKind.wrap .i64 ((r.a.length : Int) + (r.e.length : Int))))) (fun _ _ => True) (fun a => a) a0 trivial
      (by
        intro i a hi _
        refine ⟨?_, fun _ _ => trivial⟩
        show ref_GreatSystem_l1 s a (i : Int) = _
        unfold ref_GreatSystem_l1 ref_GreatSystem_j3
        rw [if_pos (ltI hi), if_pos (inI hi)]
        simp only [Int.toNat_natCast]
        rw [wrs i (by omega)]
        by_cases h1 : ((s.rules.getD i default).a.length : Int) > 100
        · rw [if_pos h1, if_pos (.inl h1)]
        · rw [if_neg h1]
          by_cases h2 : ((s.rules.getD i default).e.length : Int) > 1000
          · rw [if_pos h2, if_pos (.inr (.inl h2))]
          · rw [if_neg h2]
            by_cases h3 : (s.rules.getD i default).op = 15
            · rw [if_pos h3]
              by_cases h4 : (s.rules.getD i default).n > 1000
              · rw [if_pos h4, if_pos (.inr (.inr ⟨h3, h4⟩))]
              · rw [if_neg h4, if_neg (fun h => h.elim h1 (fun h => h.elim h2 (fun h => h4 h.2)))]
            · rw [if_neg h3, if_neg (fun h => h.elim h1 (fun h => h.elim h2 (fun h => h3 h.1)))])
      (by
        intro a _
        show ref_GreatSystem_l1 s a (s.rules.length : Int) = _
        unfold ref_GreatSystem_l1
        rw [if_neg (not_ltI _)])
    show ∃ b, (loop (fun (x : Int × Int) => ref_GreatSystem_l1 s x.1 x.2) (a0, 0)).bind (Sum.elim (fun z9 => ref_GreatSystem_j2 m z9) (fun z10 => some z10)) = some b ∧ _
    rw [e2]
    simp only [Option.bind_some]
    cases hF : foldE (fun _ a r => if (r.a.length : Int) > 100 ∨ (r.e.length : Int) > 1000 ∨ (r.op = 15 ∧ r.n > 1000) then .inr true else .inl (IntKind.wrap .i64 (a + IntKind.wrap .i64 ((r.a.length : Int) + (r.e.length : Int))))) 0 s.rules a0 with
    | inr z =>
      refine ⟨z, rfl, fun hz => ?_⟩
      have := foldE_inr (fun z => z = true) _ (fun i a x z h => by
        split at h
        · simp only [Sum.inr.injEq] at h; exact h.symm
        · cases h) _ _ _ _ hF
      rw [hz] at this; cases this
    | inl a1 =>
      have hR := foldE_all (fun r : TRule => r.a.length ≤ 100 ∧ r.e.length ≤ 1000) _ (fun i a x a' h => by
        split at h
        · cases h
        · rename_i hc
          have h1 : ¬ (x.a.length : Int) > 100 := fun h => hc (.inl h)
          have h2 : ¬ (x.e.length : Int) > 1000 := fun h => hc (.inr (.inl h))
          omega) _ _ _ _ hF
      exact ⟨_, rfl, fun _ => ⟨by omega, by omega, by omega, by omega, hR⟩⟩

theorem copyRule_eq (r : TRule) (h : r.a.length ≤ 100 ∧ r.e.length ≤ 1000) : ref_copyRule r = some r := by
  unfold ref_copyRule
  have hm : maxLen = 9223372036854775807 := rfl
  rw [if_pos (by unfold room; omega), if_pos (by unfold room; omega)]

theorem copy_eq {s : TSystem} {m : Nat} (h : NotGreat s m) (hm : m ≤ 100000) : ref_CopySystem s = some s := by
  unfold ref_CopySystem
  have hx : maxLen = 9223372036854775807 := rfl
  have h1 := h.nv
  have h2 := h.nr
  have h3 := h.ni
  have h4 := h.no
  rw [if_pos ⟨by unfold room; omega, by unfold room; omega, by unfold room; omega⟩]
  have := loop_mk0 (S := List TRule × Int) (T := List TRule) (fun i => (s.rules.take i, (i : Int))) (body := fun x => ref_CopySystem_l1 s x.1 x.2) s.rules.length s.rules
    (by
      intro i hi
      show ref_CopySystem_l1 s (s.rules.take i) (i : Int) = _
      unfold ref_CopySystem_l1
      rw [if_pos (ltI hi), if_pos (inI hi)]
      simp only [Int.toNat_natCast]
      rw [copyRule_eq _ (h.r _ (getD_mem hi))]
      simp only [Option.bind_some]
      rw [if_pos (by unfold room; simp; omega), wrs i (by omega), take_succ_getD _ hi]
      rfl)
    (by
      show ref_CopySystem_l1 s (s.rules.take s.rules.length) (s.rules.length : Int) = _
      unfold ref_CopySystem_l1
      rw [if_neg (not_ltI _), List.take_length])
  show (loop (fun x => ref_CopySystem_l1 s x.1 x.2) ([], 0)).bind (fun z21 => ref_CopySystem_j1 s z21) = _
  have e0 : s.rules.take 0 = [] := rfl
  rw [e0] at this
  rw [show ((0 : Nat) : Int) = 0 from rfl] at this
  rw [this]
  rfl
end Pam

/- every Check is as the document says -/
namespace Pam
open Go

theorem law_SysChecks_true (s : TSystem) (_ : s.ok) (_ : s.sz ≤ 1048576) : law_SysChecks s = some true := by
  unfold law_SysChecks
  rw [sysBegun_true]
  simp only [Option.bind_some, if_true]
  obtain ⟨b, hb, hf⟩ := great_eq s 450 (by omega)
  rw [show ((450 : Nat) : Int) = 450 from rfl] at hb
  rw [hb]
  cases b
  · simp only [Option.bind_some, Bool.false_eq_true, if_false]
    rw [copy_eq (hf rfl) (by omega)]
    simp only [Option.bind_some]
    rw [sysCheck_eq, refFault_eq]
    simp
  · rfl
end Pam
