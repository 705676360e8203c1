/- slices.Delete at []int over an own array: the kit's contract in the layer's words. -/
import Derived.Test.YtpfekllhlfodiaaOBase2
import Derived.Shelf.Slices.Delete
set_option linter.all false
namespace Pam
open Go Go.Shelf Go.Proofs
def vF (l : List Int) (i j : Nat) : List Int := l.take i ++ l.drop j
theorem zJ (l : List Int) (i j : Nat) (hij : i ≤ j) (hj : j ≤ l.length) : (vF l i j).length = l.length - (j - i) := by
 unfold vF
 simp only [List.length_append, List.length_take, List.length_drop]
 omega
theorem wu {P : Program} {ρ : Ren} (Ly : Lays2.n23 P ρ) {f : FuncId} (hf : ρ.f 23 = f) (hb : ∃ fn, P.funcs[f]? = some fn ∧ fn.body.isSome = true ∧ (fn.name == "runtime.NumGoroutine") = false)
  (T : TypeId) (v : Nat) (l : List Int) (i j : Nat) (hij : i ≤ j) (hj : j ≤ l.length) (hl : l ≠ []) :
  fR P f [.c (.osl 0 v 0 l.length), .c (.int .i64 (i : Int)), .c (.int .i64 (j : Int))] [.arr 1 v T (l.map fun x => [.int .i64 x])]
   (fun p σ => p = .c (.osl 0 v 0 (vF l i j).length) ∧ σ = [.arr 1 v T ((vF l i j).map fun x => [.int .i64 x])]) (fun _ _ => False) := by
 subst hf
 refine ⟨hb, fun G w vs hna hi ha => ?_⟩
 match vs, ha with
 | [v0, v1, v2], ha =>
  obtain ⟨ha0, hi1, hj1, _⟩ := ha
  obtain ⟨o, a, ho, hver, hvs, hlc, hx⟩ := vp (vs := [v0]) hi ⟨ha0, trivial⟩
  obtain rfl : v0 = .slice a l.length o.cap := by simpa using hvs
  have e1 : v1 = .int .i64 (i : Int) := dK hi1
  have e2 : v2 = .int .i64 (j : Int) := dK hj1
  subst e1; subst e2
  obtain ⟨hhas, rfl⟩ := hx hl
  obtain ⟨c, fz, hc, hH⟩ := rH hi ho hhas
  obtain ⟨o', ho', _, _, _, _, hcm, _⟩ := hi.own 0 _ rfl
  rw [ho] at ho'
  obtain rfl : o = o' := by simpa using ho'
  refine (Any.slices_Delete_int Ly o.blk 0 o.cap i j l w hH hlc (by have : maxLen = 9223372036854775807 := rfl; omega) hij hj).mono ?_
  rintro e w' ⟨rfl, n, rfl⟩
  have hcl := zJ l i j hij hj
  have hg : ∀ (W : World), Go.Sort.grow W #[] = W := fun W => by simp [Go.Sort.grow]
  have := qC (n := n) (os := #[]) hi ho hhas hc (l' := vF l i j) (d := l.take i ++ l.drop j ++ List.replicate (j - i) 0) (by omega) (by simp; omega) (List.prefix_append _ _)
  rw [hg] at this
  refine ⟨G, _, .c (.osl 0 v 0 (vF l i j).length), _, Gle.refl G, this, ?_, .inl ⟨rfl, rfl, rfl⟩⟩
  obtain ⟨_, oo, hoo, hsl⟩ := ha0
  rw [ho] at hoo
  obtain rfl : some o = oo := by simpa using hoo
  obtain ⟨hcap, a, hae, haddr⟩ := (hsl o rfl).2 hver.symm
  refine ⟨rfl, some o, ho, fun o' ho' => ?_⟩
  obtain rfl : o = o' := by simpa using ho'
  refine ⟨by omega, fun _ => ⟨by omega, some ⟨o.blk, 0, none⟩, by simp [hcl], fun h => ⟨_, rfl, fun _ => by simp⟩⟩⟩
end Pam
