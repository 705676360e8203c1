/- Two texts with a newline between have the tokens of both: the plain law. -/
import Derived.Test.YtmnbfnhdnloigaaDoorTabcPlain1
import Derived.Test.YtmnbfnhdnloigaaDoorTcFun1
import Derived.Test.YtmnbfnhdnloigaaDoorTWide1
set_option linter.all false
namespace Pam
open Go
theorem kJ : ∀ (k p : Nat) (s : List UInt8) (l : List aa), a8 k p s = .inl l → l.length ≤ s.length ∧ ∀ t ∈ l, (p : Int) ≤ t.at_ ∧ t.at_ ≤ ((p + s.length : Nat) : Int) := by
 intro k
 induction k with
 | zero => intro p s l h; simp only [a8, Sum.inl.injEq] at h; subst h; simp
 | succ k ih =>
  intro p s l h
  rw [bO] at h
  have hb := eq false s
  cases e : blk false s with
  | nil => rw [e] at h; simp only [Sum.inl.injEq] at h; subst h; simp
  | cons c m =>
   rw [e] at h hb
   simp only at h
   cases ht : dX (p + (s.length - (c :: m).length)) (c :: m) with
   | inr q => rw [ht] at h; cases h
   | inl t =>
    rw [ht] at h
    simp only at h
    obtain ⟨t1, t2, t3⟩ := cY ht
    have hpos : 0 < t.text.length := List.length_pos_iff.2 t2
    have hle := t3.length_le
    cases hr : a8 k (p + (s.length - (c :: m).length) + t.text.length) ((c :: m).drop t.text.length) with
    | inr q => rw [hr] at h; cases h
    | inl l2 =>
     rw [hr] at h
     simp only [Sum.inl.injEq] at h
     subst h
     obtain ⟨g1, g2⟩ := ih _ _ _ hr
     rw [List.length_drop] at g1 g2
     refine ⟨by simp only [List.length_cons] at *; omega, fun x hx => ?_⟩
     rcases List.mem_cons.1 hx with rfl | hx
     ·rw [t1]; omega
     ·have := g2 x hx; omega
theorem eT : ∀ (k p : Nat) (s : List UInt8) (f : aA), a8 k p s = .inr f → f.code ≠ 0 ∧ (p : Int) ≤ f.at_ ∧ f.at_ ≤ ((p + s.length : Nat) : Int) := by
 intro k
 induction k with
 | zero => intro p s f h; cases h
 | succ k ih =>
  intro p s f h
  rw [bO] at h
  have hb := eq false s
  cases e : blk false s with
  | nil => rw [e] at h; cases h
  | cons c m =>
   rw [e] at h hb
   simp only at h
   cases ht : dX (p + (s.length - (c :: m).length)) (c :: m) with
   | inr q =>
    rw [ht] at h
    simp only [Sum.inr.injEq] at h
    subst h
    refine ⟨?_, by simp only; omega, by simp only; omega⟩
    show q ≠ 0
    unfold dX at ht
    simp only at ht
    intro hq
    subst hq
    repeat' split at ht
    all_goals cases ht
   | inl t =>
    rw [ht] at h
    simp only at h
    obtain ⟨_, t2, t3⟩ := cY ht
    have hle := t3.length_le
    cases hr : a8 k (p + (s.length - (c :: m).length) + t.text.length) ((c :: m).drop t.text.length) with
    | inl l => rw [hr] at h; cases h
    | inr f2 =>
     rw [hr] at h
     simp only [Sum.inr.injEq] at h
     subst h
     have := ih _ _ _ hr
     rw [List.length_drop] at this
     refine ⟨this.1, by omega, by omega⟩
theorem lk (a : List UInt8) (ha : a.length ≤ 5900) (l m : List aa) (F1 F2 F3 : aA) (hl : l.length ≤ 6000) (hm : m.length ≤ 6000) (hat : ∀ t ∈ m, 0 ≤ t.at_ ∧ t.at_ ≤ 6000) :
  cm (fun x7 => aU a (l, F1) (m, F2) (l ++ m.map (shT ((a.length : Int) + 1)), F3) x7) 0 = some (.inl ()) := by
 obtain ⟨n, hn⟩ : ∃ n, n = l ++ m.map (shT ((a.length : Int) + 1)) := ⟨_, rfl⟩
 have hlen : n.length = l.length + m.length := by rw [hn]; simp
 rw [← hn]
 rw [fo (body := fun x7 => aU a (l, F1) (m, F2) (n, F3) x7) n.length (fun _ => none) ()
  (by
   intro i hi
   show aU a (l, F1) (m, F2) (n, F3) i = _
   unfold aU b9
   rw [iP (ltI hi)]
   by_cases h : i < l.length
   ·have e : n.getD i default = l.getD i default := by rw [hn]; simp [List.getD, List.getElem?_append_left h]
    rw [iP (ltI h), iP (inI h), iP (inI hi)]
    simp only [tN]
    rw [iP ⟨by rw [e], by rw [e], by rw [e], by rw [e]⟩, wr1 i (by omega)]
   ·have hj : i - l.length < m.length := by omega
    have e : n.getD i default = shT ((a.length : Int) + 1) (m.getD (i - l.length) default) := by
     rw [hn]; simp [List.getD, List.getElem?_append_right (Nat.le_of_not_lt h), hj]
    have hw : IntKind.wrap .i64 ((i : Int) - (l.length : Int)) = ((i - l.length : Nat) : Int) := by rw [wr (by omega) (by omega)]; omega
    have ht := hat _ (mI hj)
    simp only [hw]
    rw [iN (fun x => h (by omega)), iP (inI hj), iP (inI hi)]
    simp only [tN]
    have hw2 : IntKind.wrap .i64 ((a.length : Int) + 1) = (a.length : Int) + 1 := wr (by omega) (by omega)
    have hw3 : IntKind.wrap .i64 ((m.getD (i - l.length) default).at_ + ((a.length : Int) + 1)) = (m.getD (i - l.length) default).at_ + ((a.length : Int) + 1) := wr (by omega) (by omega)
    rw [iP ⟨by rw [e]; rfl, by rw [e, hw2, hw3]; rfl, by rw [e]; rfl, by rw [e]; rfl⟩, wr1 i (by omega)])
  (by
   show aU a (l, F1) (m, F2) (n, F3) n.length = _
   unfold aU
   rw [iN (da _)]), iq (fun _ _ => rfl)]
theorem gv (a b : List UInt8) (_ : okT a) (_ : okT b) (_ : szS a + szS b ≤ 1048576) : dW a b = some true := by
 unfold dW
 rw [et]
 simp only [bSq, if_true]
 by_cases h1 : (a.length : Int) > 5900
 ·rw [iP h1]
 rw [iN h1]
 by_cases h2 : (b.length : Int) > 5900
 ·rw [iP h2]
 rw [iN h2, gj a (by omega), gj b (by omega)]
 simp only [bSq]
 have hab : a ++ [10] ++ b = a ++ 10 :: b := by simp
 have hlen : (a ++ 10 :: b).length = a.length + b.length + 1 := by simp; omega
 have hml : maxLen = 9223372036854775807 := rfl
 rw [iP (by refine ⟨?_, ?_⟩ <;> omega), hab, gj _ (by omega)]
 simp only [bSq]
 have hR : ∀ s : List UInt8, s.length ≤ 12000 → gb s = match a8 (s.length + 1) 0 s with
  | .inl m => (m, aA.mk 0 0)
  | .inr f => ([], f) := fun s hs => by unfold gb; rw [iN (by omega)]; rfl
 have hj := lh ((a ++ 10 :: b).length + 1) 0 a b (by omega)
 rw [dB _ (a.length + 1) 0 a (by omega) (by omega), dB _ (b.length + 1) _ b (by omega) (by omega), show 0 + a.length + 1 = 0 + (a.length + 1) by omega, kE] at hj
 rw [hR a (by omega), hR b (by omega), hR (a ++ 10 :: b) (by omega), hj]
 cases ea : a8 (a.length + 1) 0 a with
 | inr f =>
  obtain ⟨f1, f2, f3⟩ := eT _ _ _ _ ea
  simp only
  rw [iP f1]
  simp
 | inl l =>
  obtain ⟨l1, l2⟩ := kJ _ _ _ _ ea
  cases eb : a8 (b.length + 1) 0 b with
  | inr g =>
   obtain ⟨g1, g2, g3⟩ := eT _ _ _ _ eb
   simp only
   rw [iN (by simp), iP g1, iP (show (shF ((a.length + 1 : Nat) : Int) g).code = g.code from rfl)]
   have hw : IntKind.wrap .i64 (g.at_ + (a.length : Int)) = g.at_ + (a.length : Int) := wr (by omega) (by omega)
   have hw2 : IntKind.wrap .i64 (g.at_ + (a.length : Int) + 1) = g.at_ + (a.length : Int) + 1 := wr (by omega) (by omega)
   rw [hw, hw2]
   congr 1
   rw [beq_iff_eq]
   show g.at_ + ((a.length + 1 : Nat) : Int) = _
   omega
  | inl m =>
   obtain ⟨m1, m2⟩ := kJ _ _ _ _ eb
   simp only
   have hcast : ((a.length + 1 : Nat) : Int) = (a.length : Int) + 1 := by omega
   have hw : IntKind.wrap .i64 ((l.length : Int) + (m.length : Int)) = ((l.length + m.length : Nat) : Int) := by rw [wr (by omega) (by omega)]; omega
   rw [iN (by simp), iN (by simp), iN (by simp), hw, iN (by simp), hcast,
    lk a (by omega) l m _ _ _ (by omega) (by omega) (fun t ht => by have := m2 t ht; omega)]
   rfl
end Pam
