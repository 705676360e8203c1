/-
  Every call of SizeWith returns true and leaves what it was handed as it was, where what it reads is of bulk at most 1048576.
-/
import Derived.Test.YtphpneddmkickaaHabcRead1
import Derived.Test.YtphpneddmkickaaHcWalk1
import Derived.Test.YtphpneddmkickaaHcPlain1
set_option linter.all false
namespace Go.Proofs.Ytphpneddmkickaa.sizeWith
open Go Pam Go.ChangeShapes Go.RowKit
theorem own : ownKnob Try.prog.godebug = none := by kernel_rfl
theorem laid : laidOutB Try.prog = true := by kernel_rfl
set_option maxRecDepth 100000 in
theorem contract (H : Type) (enc : TypeId × Value → H) (W : World) (base : Nat) (args : Array Value) (ds gs : List (DataW H)) (before : List MemPlace)
    (hval : ∀ (j : Nat) t v, Try.f5.params[j]? = some t → args[j]? = some v → Value.okWide Try.prog W .any base t v)
    (hW : DataW.Whole enc Try.prog Try.f5.params.toList Rows.sizeWithSpec.vars false W args.toList ds gs before) (hk : Rows.uptoSmall H (ds ++ gs) = true) :
    Calls Try.prog 5 args W fun e W' => ∃ v, e = .returned v ∧ Rows.sizeWithSpec.post enc Try.prog Try.f5 false true false false W args v W' := by
  have hW' := hW
  obtain ⟨p, q, hA, hV, rfl, hfz, hnd⟩ := hW
  rw [Try.params5] at hA hval
  obtain ⟨v0, vs0, d0, ds0, p0, q0, hargs, rfl, rfl, h0, r0⟩ := trodAll_cons hA
  obtain ⟨v1, vs1, d1, ds1, p1, q1, rfl, rfl, rfl, h1, r1⟩ := trodAll_cons r0
  obtain ⟨v2, vs2, d2, ds2, p2, q2, rfl, rfl, rfl, h2, r2⟩ := trodAll_cons r1
  obtain ⟨v3, vs3, d3, ds3, p3, q3, rfl, rfl, rfl, h3, r3⟩ := trodAll_cons r2
  obtain ⟨rfl, rfl, rfl⟩ := trodAll_nil r3
  obtain rfl : args = #[v0, v1, v2, v3] := by cases args; simp_all
  obtain ⟨rfl, rfl⟩ := trodVars_none hV
  simp only [List.append_nil] at hk
  have hk := of_decide_eq_true hk
  obtain ⟨fu0, h0⟩ := h0
  have one0 := im (hval 0 26 v0 rfl rfl) (by kernel_rfl) (by kernel_rfl)
  obtain ⟨x0, a0, o0, s0⟩ := (fH (B := gK) (s := 1) Try.underlying26 (by kernel_rfl) (by first | decide | exact Nat.zero_lt_succ _) (fun _ => rfl) (jA (B := gK) Try.underlying3)) H enc _ _ _ h0
  have s0 : (szL szI) x0 ≤ Rows.uptoBulk d0 := s0
  obtain ⟨fu1, h1⟩ := h1
  have one1 := im (hval 1 26 v1 rfl rfl) (by kernel_rfl) (by kernel_rfl)
  obtain ⟨x1, a1, o1, s1⟩ := (fH (B := gK) (s := 1) Try.underlying26 (by kernel_rfl) (by first | decide | exact Nat.zero_lt_succ _) (fun _ => rfl) (jA (B := gK) Try.underlying3)) H enc _ _ _ h1
  have s1 : (szL szI) x1 ≤ Rows.uptoBulk d1 := s1
  obtain ⟨fu2, h2⟩ := h2
  have one2 := im (hval 2 26 v2 rfl rfl) (by kernel_rfl) (by kernel_rfl)
  obtain ⟨x2, a2, o2, s2⟩ := (fH (B := gK) (s := 1) Try.underlying26 (by kernel_rfl) (by first | decide | exact Nat.zero_lt_succ _) (fun _ => rfl) (jA (B := gK) Try.underlying3)) H enc _ _ _ h2
  have s2 : (szL szI) x2 ≤ Rows.uptoBulk d2 := s2
  obtain ⟨fu3, h3⟩ := h3
  have one3 := im (hval 3 3 v3 rfl rfl) (by kernel_rfl) (by kernel_rfl)
  obtain ⟨x3, a3, o3, s3⟩ := (jA (B := gK) Try.underlying3) H enc _ _ _ h3
  have s3 : szI x3 ≤ Rows.uptoBulk d3 := s3
  simp only [Rows.uptoBulkAll] at hk
  obtain ⟨fuel, hm⟩ := lv x0 x1 x2 x3 o0 o1 o2 o3 (show (szL szI) x0 + (szL szI) x1 + (szL szI) x2 + szI x3 ≤ 1048576 by omega)
  refine (kK (mc fuel x0 x1 x2 x3 true hm) W [v0, v1, v2, v3] ⟨gk one0 a0, gk one1 a1, gk one2 a2, gk one3 a3, trivial⟩).mono fun e W' hq => ?_
  obtain ⟨v, G', rfl, hv, hb⟩ := hq
  have hv := gg hv; subst hv
  refine ⟨_, rfl, mP (T := 4) laid ?_ rfl hW' hb (by kernel_rfl) Try.underlying4 rfl rfl rfl⟩
  rw [Try.params5]
  intro t ht
  simp only [List.mem_cons, List.not_mem_nil, or_false] at ht
  rcases ht with rfl | rfl | rfl | rfl <;> exact ⟨by kernel_rfl, of_decide_eq_true (by kernel_rfl)⟩
set_option maxRecDepth 100000 in
theorem lifted (os : Os) (started : os.Started) (H : Type) (enc : TypeId × Value → H) (F : Stop.Interp) :
    ReturnsInHanded {} Try.checked os 5 .any ((Rows.OpenSpec.upto Rows.sizeWithSpec).pre6 enc Try.prog Try.f5 Rows.sizeWithUptoRow.domain false) (((Rows.OpenSpec.upto Rows.sizeWithSpec).at F).post enc Try.prog Try.f5 false true false false) := by
  refine returnsInHanded_of_cond (C := Try.checked) (s := Rows.OpenSpec.upto Rows.sizeWithSpec) (k := Rows.uptoSmall) rfl own started (by kernel_rfl) Try.func5
    (OpenSpec.witness (enc := enc) (C := Try.checked) (s := Rows.OpenSpec.upto Rows.sizeWithSpec) (k := Rows.uptoSmall) rfl false ⟨#[], #[.slice none 0 0, .slice none 0 0, .slice none 0 0, .int .i64 0], []⟩ 12 (by kernel_rfl) (by kernel_rfl) (by kernel_rfl)
      (x := ([.nil, .nil, .nil, .lit (.int .i64 0)], [], [])) (by kernel_rfl) rfl (by kernel_rfl)) ?_
  intro W base args ds gs before hval hW _ hk _
  exact contract H enc W base args ds gs before hval hW hk
theorem over : Rows.sizeWithUptoRow.holds Try.pinned (Rows.OpenSpec.upto Rows.sizeWithSpec) :=
  OpenClaim.holds_of_cond 5 Try.f5 rfl rfl rfl rfl rfl rfl rfl ⟨rfl, rfl, rfl, rfl, rfl⟩ rfl rfl rfl rfl rfl (by kernel_rfl) Try.func5 (by kernel_rfl)
    (of_decide_eq_true (by kernel_rfl)) (by unfold Func.isWrapper; first | (rw [if_pos (by decide +kernel)]; kernel_rfl) | (rw [if_neg (by decide +kernel)]; exact ⟨rfl, rfl⟩))
    (fun os started H enc _ F => lifted os started H enc F)
theorem proved : Rows.SizeWithUptoSaid := over
end Go.Proofs.Ytphpneddmkickaa.sizeWith
