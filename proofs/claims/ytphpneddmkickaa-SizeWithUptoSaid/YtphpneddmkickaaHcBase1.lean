/- An array variable whose cells have become trees: it is a tree itself, its pointer one into the tree; parts of it are slices. -/
import Derived.Test.YtphpneddmkickaaHBase2
set_option linter.all false
namespace Pam
open Go
section
variable {P : Program} {E : Env} {σ : List OB}
def CV.isTr : CV → Bool
 | .tree _ _ | .int _ _ | .bool _ | .str _ | .nils => true
 | _ => false
theorem rV {G : Gh} {c : CV} {v : Value} (h : c.isTr = true) (hr : Rep G c v) : be G.H c v := by
 cases c <;> first | (simp [CV.isTr] at h; done) | exact hr
theorem qW {E : Env} {σ : List OB} (i b off : Nat) {cs : List CV} (es : List (List CV)) (hσ : σ[b]? = some (.box cs)) (he : es = cs.map (fun c => [c])) (hT : cs.all CV.isTr = true) (hoff : off < cs.length)
  (hE : E.get i = ⟨true, .c (.optr b off)⟩) : fD E σ (E.put i ⟨true, .c (.tptr 1 es off 0)⟩) (σ.set b .dead) := by
 intro G a w hs
 have hi := hs.inv
 have hb : b < σ.length := (List.getElem?_eq_some_iff.1 hσ).1
 obtain ⟨o, c, T, ho, hhas, hver, hheap, hall⟩ := hi.own b _ hσ
 have hblt : b < G.own.length := by rw [hi.len]; exact hb
 have hle := n4 ho
 have hH := oF hi ho
 have hH' : (frG G w b o).H o.blk = some (.cells c T (0, 0)) := by simp [frG, hhas, hheap]
 have hlen : es.length = cs.length := by rw [he, List.length_map]
 have hat : ∀ (k j : Nat) (e : List CV) (x : CV), es[k]? = some e → e[j]? = some x → j = 0 ∧ cs[k]? = some x := by
  intro k j e x h1 h2
  rw [he, List.getElem?_map, Option.map_eq_some_iff] at h1
  obtain ⟨y, h3, rfl⟩ := h1
  cases j with
  | zero => simp at h2; subst h2; exact ⟨rfl, h3⟩
  | succ j => simp at h2
 have hval : a.tmps.getD i undef = .pointer (some ⟨o.blk, off, none⟩) := by
  have := hs.slot i (by rw [hE])
  rw [hE] at this
  obtain ⟨_, oo, h1, h2⟩ := this
  rw [ho] at h1
  simp only [sJ] at h1
  exact h2 o h1.symm hver
 have hcs : cs.length = c.size := by have := hall.length; simpa using this
 have htree : be (frG G w b o).H (.tree 1 es) (.slice (some ⟨o.blk, 0, none⟩) es.length es.length) :=
  .tree 1 es o.blk 0 es.length c T (0, 0) (fun k j => (c[0 + k * 1 + j]?).getD undef) hH' (Nat.le_refl _)
   (fun k e h => by rw [he, List.getElem?_map, Option.map_eq_some_iff] at h; obtain ⟨y, _, rfl⟩ := h; rfl)
   (fun k j e x h1 h2 => by
    obtain ⟨rfl, h3⟩ := hat k j e x h1 h2
    obtain ⟨v, h4, _⟩ := hall.get k x h3
    rw [Array.getElem?_toList] at h4
    simp only [Nat.zero_add, Nat.mul_one, Nat.add_zero, h4, Option.getD_some])
   (fun k j e x h1 h2 => by
    obtain ⟨rfl, h3⟩ := hat k j e x h1 h2
    obtain ⟨v, h4, h5⟩ := hall.get k x h3
    rw [Array.getElem?_toList] at h4
    simp only [Nat.zero_add, Nat.mul_one, Nat.add_zero, h4, Option.getD_some]
    exact be.mono hH (rV (List.all_eq_true.1 hT _ (List.mem_of_getElem? h3)) h5))
 have hptr : Rep (frG G w b o) (.tptr 1 es off 0) (a.tmps.getD i undef) := by
  rw [hval]
  have := be.tptr 1 es off 0 o.blk 0 es.length es.length htree (by omega)
  simp only [Nat.zero_add, Nat.mul_one, Nat.add_zero] at this
  exact this
 have hne : ∀ (x : Nat) (o' : OG), (G.own.set b none)[x]? = some (some o') → x ≠ b ∧ G.own[x]? = some (some o') := by
  intro x o' h
  by_cases e : x = b
  ·subst e; simp [hblt] at h
  ·rw [List.getElem?_set_ne (Ne.symm e)] at h; exact ⟨e, h⟩
 refine ⟨frG G w b o, .mk' ⟨hH, rfl, rfl, rfl⟩ hle, ?_, hs.defers, hs.size, hs.na, fun j hc => ?_⟩
 ·refine ⟨?_, hi.hF, ?_, by simp [frG, hi.len], ?_, fun x x' o1 o2 h1 h2 => hi.inj x x' o1 o2 (hne _ _ h1).2 (hne _ _ h2).2, ?_, hi.os, hi.tape, hi.output, hi.grow⟩
  ·intro x y h
   simp only [frG] at h
   split at h
   ·exact h
   ·exact hi.hH x y h
  ·intro x y h
   simp only [frG]
   split
   ·rename_i hc
    have := (hi.sep b o ho hc.1).2
    have h : G.F x = some y := h
    rw [hc.2] at h; rw [this] at h; cases h
   ·exact hi.HF x y h
  ·intro x ob h
   by_cases e : x = b
   ·subst e
    simp only [List.getElem?_set_self hb, sJ] at h
    subst h
    simp [gr, frG, hblt]
   ·rw [List.getElem?_set_ne (Ne.symm e)] at h
    exact (hi.own x ob h).keep (G' := frG G w b o) hH hle (List.getElem?_set_ne (Ne.symm e)) (fun _ _ _ => rfl)
  ·intro x o' h hh
   obtain ⟨e, h'⟩ := hne _ _ h
   obtain ⟨s1, s2⟩ := hi.sep x o' h' hh
   refine ⟨?_, s2⟩
   simp only [frG]
   split
   ·rename_i hc
    exact (e (hi.inj x b o' o h' ho hh hc.1 hc.2)).elim
   ·exact s1
 ·have hg := Env.get_put E i j _ hc
  rw [hg] at hc ⊢
  by_cases hj : j = i
  ·subst hj
   rw [iP rfl]
   exact hptr
  ·rw [iN hj] at hc ⊢
   exact aS.mono (G := G) (G' := frG G w b o) hH hle (hs.slot j hc)
end
end Pam
