/- NOTHING IS KNOWN AHEAD: what is told of rows hangs on these and those ahead of them alone; a row with a fault has not been. -/
import Derived.Test.YthafkijdkbmdgaaMabPlain2
import Derived.Test.YthafkijdkbmdgaaMbFun1
set_option linter.all false
namespace Pam
open Go
noncomputable def zw (A : ae) (M : List (Int × List Int)) (inn : List Int) : List Int × av × List (Int × List Int) := (bp inn A.vars A.in_ A.out_ A.rules M).getD ([], av.mk 0 0, [])
noncomputable def stM (A : ae) (rows : List (List Int)) (M : List (Int × List Int)) : Nat → List (Int × List Int)
 | 0 => M
 | i + 1 => (zw A (stM A rows M i) (rows.getD i default)).2.2
noncomputable def ox (A : ae) (rows : List (List Int)) (M : List (Int × List Int)) (i : Nat) : List Int := (zw A (stM A rows M i) (rows.getD i default)).1
def sL (A : ae) (M : List (Int × List Int)) (i : Nat) : Prop := ∃ P, m4 A P ∧ sF A M P ∧ M.length ≤ 400 * i
theorem qa {A : ae} (g : ff A) (hA : A.ok) (sA : f9 A) {rows : List (List Int)} (hr : okL (okL (okI .i64)) rows) {M : List (Int × List Int)} {m : Nat} (hM : sL A M m) (hm : m ≤ 60) (hl : rows.length ≤ 60) : ∀ i, i ≤ rows.length → sL A (stM A rows M i) (m + i) ∧
  (i < rows.length → bp (rows.getD i default) A.vars A.in_ A.out_ A.rules (stM A rows M i) = some (ox A rows M i, jC A (rows.getD i default), stM A rows M (i + 1)) ∧ (ox A rows M i).length ≤ 120000 ∧ ((jC A (rows.getD i default)).code ≠ 0 → stM A rows M (i + 1) = stM A rows M i)) := by
 have one : ∀ i, i < rows.length → sL A (stM A rows M i) (m + i) → (bp (rows.getD i default) A.vars A.in_ A.out_ A.rules (stM A rows M i) = some (ox A rows M i, jC A (rows.getD i default), stM A rows M (i + 1)) ∧ (ox A rows M i).length ≤ 120000 ∧ ((jC A (rows.getD i default)).code ≠ 0 → stM A rows M (i + 1) = stM A rows M i)) ∧ sL A (stM A rows M (i + 1)) (m + (i + 1)) := by
  intro i hi ⟨P, h1, h2, h3⟩
  obtain ⟨M', e, k1, k2⟩ := sG g hA sA h1 h2 (by omega) _ (xa hr hi)
  have et : ox A rows M i = (if (jC A (rows.getD i default)).code = 0 then sE A (o9 A P (inE A (rows.getD i default))) else []) := by unfold ox zw; rw [e]; rfl
  have es : stM A rows M (i + 1) = M' := by show (zw A _ _).2.2 = _; unfold zw; rw [e]; rfl
  refine ⟨⟨by rw [e, et, es], ?_, fun c => by rw [es]; exact k1 c⟩, ?_⟩
  ·rw [et]
   by_cases c : (jC A (rows.getD i default)).code = 0
   ·rw [iP c]; exact vB g (k2 c).2.2.2
   ·rw [iN c]; simp
  ·rw [es]
   by_cases c : (jC A (rows.getD i default)).code = 0
   ·obtain ⟨p1, p2, p3, _⟩ := k2 c
    exact ⟨_, p2, p1, by omega⟩
   ·rw [k1 c]; exact ⟨P, h1, h2, by omega⟩
 intro i
 induction i with
 | zero => intro _; exact ⟨hM, fun hi => (one 0 hi hM).1⟩
 | succ i ih =>
  intro hi
  have := (one i (by omega) (ih (by omega)).1).2
  exact ⟨this, fun hi' => (one (i + 1) hi' this).1⟩
abbrev mr (A : ae) : av × (List (Int × List Int)) × Int × Int × (List ah) × (List Int) × (List Int) × (List ab) := (av.mk 0 0, [], 0, 0, A.vars, A.in_, A.out_, A.rules)
section
variable {A : ae} (g : ff A) (hA : A.ok) (sA : f9 A)
include g hA sA
theorem wz : sL A [] 0 := ⟨fun _ => [], pY _, pX _, by simp⟩
theorem Au {rows : List (List Int)} (hr : okL (okL (okI .i64)) rows) (hl : rows.length ≤ 60) :
  bb (fun (x : List (Int × List Int) × List (Int × List Int) × List (Int × List Int) × List (List Int) × Int) => cN rows (mr A) (mr A) (mr A) x.1 x.2.1 x.2.2.1 x.2.2.2.1 x.2.2.2.2) ([], [], [], [], ((0 : Nat) : Int)) =
   some (.inl (stM A rows [] rows.length, stM A rows [] rows.length, stM A rows [] rows.length, gl rows.length (ox A rows []))) := by
 have R := qa g hA sA hr (wz g hA sA) (by omega) hl
 refine gR (S := List (Int × List Int) × List (Int × List Int) × List (Int × List Int) × List (List Int) × Int) (fun i => (stM A rows [] i, stM A rows [] i, stM A rows [] i, gl i (ox A rows []), (i : Int))) rows.length _ (fun i hi => ?_) ?_
 ·obtain ⟨e, hlen, hst⟩ := (R i (by omega)).2 hi
  show cN rows (mr A) (mr A) (mr A) _ _ _ _ (i : Int) = _
  unfold cN
  rw [iP (ltI hi), iP (inI hi)]
  simp only [tN]
  rw [e]
  simp only [bSq, and_self, if_true]
  rw [iX _ (by omega)]
  simp only [bSq, if_true]
  rw [jp, iP (qS (by omega) (by omega)), wrs i (by omega), xK]
  by_cases c : (jC A (rows.getD i default)).code = 0
  ·rw [iN (by simpa using c), iN (by simpa using c)]
   rfl
  ·rw [iP c, hst c]
   rfl
 ·show cN rows (mr A) (mr A) (mr A) _ _ _ _ (rows.length : Int) = _
  unfold cN
  rw [iN (bH _)]
theorem Av {rows others : List (List Int)} (hr : okL (okL (okI .i64)) rows) (hl : rows.length ≤ 60) (ho : okL (okL (okI .i64)) others) (hlo : others.length ≤ 60) :
  ∃ z, bb (fun (x : List (Int × List Int) × Int) => cM others (mr A) x.1 x.2) (stM A rows [] rows.length, ((0 : Nat) : Int)) = some z := by
 have R0 := (qa g hA sA hr (wz g hA sA) (by omega) hl rows.length (Nat.le_refl _)).1
 have R := qa g hA sA ho R0 (by omega) hlo
 refine ⟨_, gR (S := List (Int × List Int) × Int) (fun i => (stM A others (stM A rows [] rows.length) i, (i : Int))) others.length (stM A others (stM A rows [] rows.length) others.length) (fun i hi => ?_) ?_⟩
 ·obtain ⟨e, _, _⟩ := (R i (by omega)).2 hi
  show cM others (mr A) _ (i : Int) = _
  unfold cM
  rw [iP (ltI hi), iP (inI hi)]
  simp only [tN]
  rw [e]
  simp only [bSq]
  rw [wrs i (by omega)]
 ·show cM others (mr A) _ (others.length : Int) = _
  unfold cM
  rw [iN (bH _)]
theorem Aw {rows : List (List Int)} (hr : okL (okL (okI .i64)) rows) (hl : rows.length ≤ 60) :
  ∃ z, bb (fun (x : List (Int × List Int) × Int) => cL rows (gl rows.length (ox A rows [])) (mr A) x.1 x.2) ([], ((0 : Nat) : Int)) = some (.inl z) := by
 have R := qa g hA sA hr (wz g hA sA) (by omega) hl
 refine ⟨_, gR (S := List (Int × List Int) × Int) (fun i => (stM A rows [] i, (i : Int))) rows.length (Sum.inl (stM A rows [] rows.length)) (fun i hi => ?_) ?_⟩
 ·obtain ⟨e, hlen, _⟩ := (R i (by omega)).2 hi
  show cL rows _ (mr A) _ (i : Int) = _
  unfold cL
  rw [iP (ltI hi), iP (inI hi)]
  simp only [tN]
  rw [e]
  simp only [bSq]
  rw [jp, iP (inI hi), sa hi, iX _ (by omega)]
  simp only [bSq, if_true]
  rw [wrs i (by omega)]
 ·show cL rows _ (mr A) _ (rows.length : Int) = _
  unfold cL
  rw [iN (bH _)]
end
theorem od (s : ae) (rows others : List (List Int)) (hs : s.ok) (hr : okL (okL (okI .i64)) rows) (ho : okL (okL (okI .i64)) others) (hz : s.sz + (szL (szL szI)) rows + (szL (szL szI)) others ≤ 1048576) : jT s rows others = some true := by
 have z5 := ua (f := szL (α := Int) szI) (fun l => by unfold szL; omega) rows
 have z6 := ua (f := szL (α := Int) szI) (fun l => by unfold szL; omega) others
 unfold jT
 rw [nR]
 simp only [bSq, if_true]
 obtain ⟨b, hb, hf⟩ := vj s 150 (by omega)
 rw [show ((150 : Nat) : Int) = 150 from rfl] at hb
 rw [hb]
 simp only [bSq]
 cases b
 ·simp only [Bool.false_eq_true, if_false]
  obtain ⟨b2, hb2, hf2⟩ := m5 rows (by omega)
  obtain ⟨b3, hb3, hf3⟩ := m5 others (by omega)
  rw [hb2, hb3]
  simp only [bSq]
  cases b2
  ·cases b3
   ·obtain ⟨hr60, _⟩ := hf2 rfl
    obtain ⟨ho60, _⟩ := hf3 rfl
    simp only [Bool.false_eq_true, if_false]
    have hnew := uE s
    by_cases hc : (eo s).code = 0
    ·by_cases hK : (b9 s).length = s.rules.length
     ·rw [iP hc, iP hK] at hnew
      have gA := pd hc hK
      have hA := sH hs
      rw [hnew]
      simp only [bSq, Sum.elim_inr, not_true_eq_false, if_false]
      have e1 := Au gA hA ku hr hr60
      show (bb (fun (x : List (Int × List Int) × List (Int × List Int) × List (Int × List Int) × List (List Int) × Int) => cN rows (mr (fE s)) (mr (fE s)) (mr (fE s)) x.1 x.2.1 x.2.2.1 x.2.2.2.1 x.2.2.2.2) ([], [], [], [], ((0 : Nat) : Int))).bind _ = _
      rw [e1]
      simp only [bSq, Sum.elim_inl]
      unfold eV
      obtain ⟨z, e2⟩ := Av gA hA ku hr hr60 ho ho60
      show (bb (fun (x : List (Int × List Int) × Int) => cM others (mr (fE s)) x.1 x.2) (stM (fE s) rows [] rows.length, ((0 : Nat) : Int))).bind _ = _
      rw [e2]
      simp only [bSq]
      unfold eU
      rw [hnew]
      simp only [bSq, Sum.elim_inr]
      obtain ⟨z3, e3⟩ := Aw gA hA ku hr hr60
      show (bb (fun (x : List (Int × List Int) × Int) => cL rows (gl rows.length (ox (fE s) rows [])) (mr (fE s)) x.1 x.2) ([], ((0 : Nat) : Int))).bind _ = _
      rw [e3]
      rfl
     ·rw [iP hc, iN hK] at hnew
      rw [hnew]
      simp only [bSq, Sum.elim_inl]
      have f1 : ¬ (nJ s).2.code = 0 := by unfold nJ; rw [iN hK]; simp
      rw [iP f1]
      simp
    ·rw [iN hc] at hnew
     rw [hnew]
     simp only [bSq, Sum.elim_inl]
     rw [iP hc]
     simp
   ·rfl
  ·rfl
 ·rfl
end Pam
