/-
  Every call of MeanCauses returns true and leaves what it was handed as it was, where what it reads is of bulk at most 1048576.
-/
import Derived.Test.YthafkijdkbmdgaaMabRead1
import Derived.Test.YthafkijdkbmdgaaMbWalk1
import Derived.Test.YthafkijdkbmdgaaMbPlain1
set_option linter.all false
namespace Go.Proofs.Ythafkijdkbmdgaa.meanCauses
open Go Pam Go.ChangeShapes Go.RowKit
theorem own : ownKnob Try.prog.godebug = none := by kernel_rfl
theorem laid : laidOutB Try.prog = true := by kernel_rfl
set_option maxRecDepth 100000 in
theorem contract (H : Type) (enc : TypeId × Value → H) (W : World) (base : Nat) (args : Array Value) (ds gs : List (DataW H)) (before : List MemPlace)
    (hval : ∀ (j : Nat) t v, Try.f4.params[j]? = some t → args[j]? = some v → Value.okWide Try.prog W .any base t v)
    (hW : DataW.Whole enc Try.prog Try.f4.params.toList Rows.meanCausesSpec.vars false W args.toList ds gs before) (hk : Rows.uptoSmall H (ds ++ gs) = true) :
    Calls Try.prog 4 args W fun e W' => ∃ v, e = .returned v ∧ Rows.meanCausesSpec.post enc Try.prog Try.f4 false true false false W args v W' := by
  have hW' := hW
  obtain ⟨p, q, hA, hV, rfl, hfz, hnd⟩ := hW
  rw [Try.params4] at hA hval
  obtain ⟨v0, vs0, d0, ds0, p0, q0, hargs, rfl, rfl, h0, r0⟩ := trodAll_cons hA
  obtain ⟨v1, vs1, d1, ds1, p1, q1, rfl, rfl, rfl, h1, r1⟩ := trodAll_cons r0
  obtain ⟨v2, vs2, d2, ds2, p2, q2, rfl, rfl, rfl, h2, r2⟩ := trodAll_cons r1
  obtain ⟨rfl, rfl, rfl⟩ := trodAll_nil r2
  obtain rfl : args = #[v0, v1, v2] := by cases args; simp_all
  obtain ⟨rfl, rfl⟩ := trodVars_none hV
  simp only [List.append_nil] at hk
  have hk := of_decide_eq_true hk
  obtain ⟨fu0, h0⟩ := h0
  obtain ⟨cs0, rfl⟩ := yF (hval 0 26 v0 rfl rfl) (by kernel_rfl)
  obtain ⟨x0, a0, o0, s0⟩ := (ae.read W) H enc _ _ _ h0
  have s0 : ae.sz x0 ≤ Rows.uptoBulk d0 := s0
  obtain ⟨fu1, h1⟩ := h1
  have one1 := uc (hval 1 27 v1 rfl rfl) (by kernel_rfl) (by kernel_rfl)
  obtain ⟨x1, a1, o1, s1⟩ := (ig (B := dl) (s := 1) Try.underlying27 (by kernel_rfl) (by first | decide | exact Nat.zero_lt_succ _) (fun _ => rfl) (ig (B := dl) (s := 1) Try.underlying38 (by kernel_rfl) (by first | decide | exact Nat.zero_lt_succ _) (fun _ => rfl) (iC (B := dl) Try.underlying2))) H enc _ _ _ h1
  have s1 : (szL (szL szI)) x1 ≤ Rows.uptoBulk d1 := s1
  obtain ⟨fu2, h2⟩ := h2
  have one2 := uc (hval 2 27 v2 rfl rfl) (by kernel_rfl) (by kernel_rfl)
  obtain ⟨x2, a2, o2, s2⟩ := (ig (B := dl) (s := 1) Try.underlying27 (by kernel_rfl) (by first | decide | exact Nat.zero_lt_succ _) (fun _ => rfl) (ig (B := dl) (s := 1) Try.underlying38 (by kernel_rfl) (by first | decide | exact Nat.zero_lt_succ _) (fun _ => rfl) (iC (B := dl) Try.underlying2))) H enc _ _ _ h2
  have s2 : (szL (szL szI)) x2 ≤ Rows.uptoBulk d2 := s2
  simp only [Rows.uptoBulkAll] at hk
  have hm := od x0 x1 x2 o0 o1 o2 (show ae.sz x0 + (szL (szL szI)) x1 + (szL (szL szI)) x2 ≤ 1048576 by omega)
  refine (rL (pZ x0 x1 x2 true hm) W [.agg cs0, v1, v2] ⟨wQ a0, rg one1 a1, rg one2 a2, trivial⟩).mono fun e W' hq => ?_
  obtain ⟨v, G', rfl, hv, hb⟩ := hq
  have hv := jH hv; subst hv
  refine ⟨_, rfl, uV (T := 4) laid ?_ rfl hW' hb (by kernel_rfl) Try.underlying4 rfl rfl rfl⟩
  rw [Try.params4]
  intro t ht
  simp only [List.mem_cons, List.not_mem_nil, or_false] at ht
  rcases ht with rfl | rfl | rfl <;> exact ⟨by kernel_rfl, of_decide_eq_true (by kernel_rfl)⟩
set_option maxRecDepth 100000 in
theorem lifted (os : Os) (started : os.Started) (H : Type) (enc : TypeId × Value → H) (F : Stop.Interp) :
    ReturnsInHanded {} Try.checked os 4 .any ((Rows.OpenSpec.upto Rows.meanCausesSpec).pre6 enc Try.prog Try.f4 Rows.meanCausesUptoRow.domain false) (((Rows.OpenSpec.upto Rows.meanCausesSpec).at F).post enc Try.prog Try.f4 false true false false) := by
  refine returnsInHanded_of_cond (C := Try.checked) (s := Rows.OpenSpec.upto Rows.meanCausesSpec) (k := Rows.uptoSmall) rfl own started (by kernel_rfl) Try.func4
    (OpenSpec.witness (enc := enc) (C := Try.checked) (s := Rows.OpenSpec.upto Rows.meanCausesSpec) (k := Rows.uptoSmall) rfl false ⟨#[], #[.agg #[.slice none 0 0, .slice none 0 0, .slice none 0 0, .slice none 0 0], .slice none 0 0, .slice none 0 0], []⟩ 12 (by kernel_rfl) (by kernel_rfl) (by kernel_rfl)
      (x := ([.agg [.nil, .nil, .nil, .nil], .nil, .nil], [], [])) (by kernel_rfl) rfl (by kernel_rfl)) ?_
  intro W base args ds gs before hval hW _ hk _
  exact contract H enc W base args ds gs before hval hW hk
theorem over : Rows.meanCausesUptoRow.holds Try.pinned (Rows.OpenSpec.upto Rows.meanCausesSpec) :=
  OpenClaim.holds_of_cond 4 Try.f4 rfl rfl rfl rfl rfl rfl rfl ⟨rfl, rfl, rfl, rfl, rfl⟩ rfl rfl rfl rfl rfl (by kernel_rfl) Try.func4 (by kernel_rfl)
    (of_decide_eq_true (by kernel_rfl)) (by unfold Func.isWrapper; first | (rw [if_pos (by decide +kernel)]; kernel_rfl) | (rw [if_neg (by decide +kernel)]; exact ⟨rfl, rfl⟩))
    (fun os started H enc _ F => lifted os started H enc F)
theorem proved : Rows.MeanCausesUptoSaid := over
end Go.Proofs.Ythafkijdkbmdgaa.meanCauses
