/-
  Every call of DeadDoes returns true and leaves what it was handed as it was, where what it reads is of bulk at most 1048576.
-/
import Derived.Test.YtkolbkclheicbaaDaRead1
import Derived.Test.YtkolbkclheicbaaDaWalk4
import Derived.Test.YtkolbkclheicbaaDaPlain1
set_option linter.all false
namespace Go.Proofs.Ytkolbkclheicbaa.deadDoes
open Go Pam Go.ChangeShapes Go.RowKit
theorem own : ownKnob Try.prog.godebug = none := by kernel_rfl
theorem laid : laidOutB Try.prog = true := by kernel_rfl
set_option maxRecDepth 100000 in
theorem contract (H : Type) (enc : TypeId × Value → H) (W : World) (base : Nat) (args : Array Value) (ds gs : List (DataW H)) (before : List MemPlace)
    (hval : ∀ (j : Nat) t v, Try.f3.params[j]? = some t → args[j]? = some v → Value.okWide Try.prog W .any base t v)
    (hW : DataW.Whole enc Try.prog Try.f3.params.toList Rows.deadDoesSpec.vars false W args.toList ds gs before) (hk : Rows.uptoSmall H (ds ++ gs) = true) :
    Calls Try.prog 3 args W fun e W' => ∃ v, e = .returned v ∧ Rows.deadDoesSpec.post enc Try.prog Try.f3 false true false false W args v W' := by
  have hW' := hW
  obtain ⟨p, q, hA, hV, rfl, hfz, hnd⟩ := hW
  rw [Try.params3] at hA hval
  obtain ⟨v0, vs0, d0, ds0, p0, q0, hargs, rfl, rfl, h0, r0⟩ := trodAll_cons hA
  obtain ⟨rfl, rfl, rfl⟩ := trodAll_nil r0
  obtain rfl : args = #[v0] := by cases args; simp_all
  obtain ⟨rfl, rfl⟩ := trodVars_none hV
  simp only [List.append_nil] at hk
  have hk := of_decide_eq_true hk
  obtain ⟨fu0, h0⟩ := h0
  obtain ⟨cs0, rfl⟩ := uS (hval 0 26 v0 rfl rfl) (by kernel_rfl)
  obtain ⟨x0, a0, o0, s0⟩ := (af.read W) H enc _ _ _ h0
  have s0 : af.sz x0 ≤ Rows.uptoBulk d0 := s0
  simp only [Rows.uptoBulkAll] at hk
  have hm := mn x0 o0 (show af.sz x0 ≤ 1048576 by omega)
  refine (qQ (m9 x0 true hm) W [.agg cs0] ⟨tY a0, trivial⟩).mono fun e W' hq => ?_
  obtain ⟨v, G', rfl, hv, hb⟩ := hq
  have hv := iw hv; subst hv
  refine ⟨_, rfl, tf (T := 4) laid ?_ rfl hW' hb (by kernel_rfl) Try.underlying4 rfl rfl rfl⟩
  rw [Try.params3]
  intro t ht
  simp only [List.mem_cons, List.not_mem_nil, or_false] at ht
  rcases ht with rfl <;> exact ⟨by kernel_rfl, of_decide_eq_true (by kernel_rfl)⟩
set_option maxRecDepth 100000 in
theorem lifted (os : Os) (started : os.Started) (H : Type) (enc : TypeId × Value → H) (F : Stop.Interp) :
    ReturnsInHanded {} Try.checked os 3 .any ((Rows.OpenSpec.upto Rows.deadDoesSpec).pre6 enc Try.prog Try.f3 Rows.deadDoesUptoRow.domain false) (((Rows.OpenSpec.upto Rows.deadDoesSpec).at F).post enc Try.prog Try.f3 false true false false) := by
  refine returnsInHanded_of_cond (C := Try.checked) (s := Rows.OpenSpec.upto Rows.deadDoesSpec) (k := Rows.uptoSmall) rfl own started (by kernel_rfl) Try.func3
    (OpenSpec.witness (enc := enc) (C := Try.checked) (s := Rows.OpenSpec.upto Rows.deadDoesSpec) (k := Rows.uptoSmall) rfl false ⟨#[], #[.agg #[.slice none 0 0, .slice none 0 0, .slice none 0 0, .slice none 0 0]], []⟩ 12 (by kernel_rfl) (by kernel_rfl) (by kernel_rfl)
      (x := ([.agg [.nil, .nil, .nil, .nil]], [], [])) (by kernel_rfl) rfl (by kernel_rfl)) ?_
  intro W base args ds gs before hval hW _ hk _
  exact contract H enc W base args ds gs before hval hW hk
theorem over : Rows.deadDoesUptoRow.holds Try.pinned (Rows.OpenSpec.upto Rows.deadDoesSpec) :=
  OpenClaim.holds_of_cond 3 Try.f3 rfl rfl rfl rfl rfl rfl rfl ⟨rfl, rfl, rfl, rfl, rfl⟩ rfl rfl rfl rfl rfl (by kernel_rfl) Try.func3 (by kernel_rfl)
    (of_decide_eq_true (by kernel_rfl)) (by unfold Func.isWrapper; first | (rw [if_pos (by decide +kernel)]; kernel_rfl) | (rw [if_neg (by decide +kernel)]; exact ⟨rfl, rfl⟩))
    (fun os started H enc _ F => lifted os started H enc F)
theorem proved : Rows.DeadDoesUptoSaid := over
end Go.Proofs.Ytkolbkclheicbaa.deadDoes
