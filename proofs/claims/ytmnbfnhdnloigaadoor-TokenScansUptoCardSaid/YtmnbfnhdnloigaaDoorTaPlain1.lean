/- Every Scan, Word and Name is as the document says: the plain law. -/
import Derived.Test.YtmnbfnhdnloigaaDoorTabcPlain1
import Derived.Test.YtmnbfnhdnloigaaDoorTaFun1
import Derived.Test.YtmnbfnhdnloigaaDoorTWide1
set_option linter.all false
namespace Pam
open Go
theorem l9 (src : List UInt8) : (gb src).1.length ≤ src.length := by
 have key : ∀ (k p : Nat) (s : List UInt8) (l : List aa), a8 k p s = .inl l → l.length ≤ s.length := by
  intro k
  induction k with
  | zero => intro p s l h; simp only [a8, Sum.inl.injEq] at h; subst h; simp
  | succ k ih =>
   intro p s l h
   rw [bO] at h
   have hb := eq false s
   cases e : blk false s with
   | nil => rw [e] at h; simp only [Sum.inl.injEq] at h; subst h; simp
   | cons c m =>
    rw [e] at h hb
    simp only at h
    cases ht : dX (p + (s.length - (c :: m).length)) (c :: m) with
    | inr q => rw [ht] at h; cases h
    | inl t =>
     rw [ht] at h
     simp only at h
     obtain ⟨_, t2, t3⟩ := cY ht
     have hpos : 0 < t.text.length := List.length_pos_iff.2 t2
     have hle := t3.length_le
     cases hr : a8 k (p + (s.length - (c :: m).length) + t.text.length) ((c :: m).drop t.text.length) with
     | inr q => rw [hr] at h; cases h
     | inl l2 =>
      rw [hr] at h
      simp only [Sum.inl.injEq] at h
      subst h
      have := ih _ _ _ hr
      rw [List.length_drop] at this
      simp only [List.length_cons] at *
      omega
 unfold gb
 split
 ·simp
 ·cases h : a8 (src.length + 1) 0 src with
  | inl m => exact key _ _ _ _ h
  | inr f => simp
theorem gu (src : List UInt8) (_ : okT src) (_ : szS src ≤ 1048576) : dQ src = some true := by
 unfold dQ
 rw [et]
 simp only [bSq, if_true]
 by_cases h : (src.length : Int) > 20000
 ·rw [iP h]
 rw [iN h, gj src (by omega), mM src (by omega)]
 simp only [bSq]
 have hl := l9 src
 rw [iP ⟨trivial, trivial⟩, kc _ (by omega), ig, jk, mN, lH src (by omega)]
 simp
end Pam
