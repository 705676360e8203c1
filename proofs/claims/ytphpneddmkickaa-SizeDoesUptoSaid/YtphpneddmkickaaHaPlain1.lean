/- every Norm, Same, With and Value is as the document says. -/
import Derived.Test.YtphpneddmkickaaHabcPlain1
set_option linter.all false
namespace Pam
open Go
theorem j4 {T Z : Type} {body : Int → Option (Int ⊕ (T ⊕ Z))} (n : Nat) (f : Nat → Option Z) (t : T) (hn : n ≤ 1000000)
  (h : ∀ i : Nat, i < n → body i = some (match f i with | some z => .inr (.inr z) | none => .inl (IntKind.wrap .i64 ((i : Int) + 1)))) (he : body n = some (.inr (.inl t))) : aW body 0 = some (iM n f t) :=
 fW n f t (fun i hi => by rw [h i hi, wrs i (by omega)]; cases f i <;> rfl) he
theorem tz (L : List aa) : ∃ b, fb L = some b ∧ (b = false → L.length ≤ 1100) := by
 unfold fb
 by_cases c : L.length > 1100
 ·rw [iP (by omega)]; exact ⟨true, rfl, fun h => by cases h⟩
 rw [iN (by omega), iN (by decide), j4 (T := Unit) (Z := Bool) L.length (fun i => if ((L.getD i default).name.length : Int) > 100 then some true else none) () (by omega) (fun i hi => by
  unfold dB
  rw [iP (ltI hi), iP (inI hi)]
  simp only [tN]
  split <;> simp_all) (by
  unfold dB
  rw [iN (ft _)])]
 simp only [bSq]
 have hj : cP = some false := by
  unfold cP
  rw [bb (o := ()) (by unfold eX; rw [iN (by decide)])]
  simp only [bSq]
  unfold c8
  rw [bb (o := ()) (by unfold eW; rw [iN (by decide)])]
  rfl
 cases iM (T := Unit) (Z := Bool) L.length (fun i => if ((L.getD i default).name.length : Int) > 100 then some true else none) () with
 | inl u => exact ⟨false, hj, fun _ => by omega⟩
 | inr b => exact ⟨b, rfl, fun _ => by omega⟩
theorem tA (L : List aa) (N : List (List UInt8)) (P : List (List aa)) : ∃ b, gh L N P = some b ∧ (b = false → L.length ≤ 1100 ∧ N.length ≤ 100 ∧ P.length ≤ 100 ∧ ∀ x ∈ P, x.length ≤ 1100) := by
 unfold gh
 by_cases c1 : L.length > 1100
 ·rw [iP (by omega)]; exact ⟨true, rfl, fun h => by cases h⟩
 rw [iN (by omega)]
 by_cases c2 : N.length > 100
 ·rw [iP (by omega)]; exact ⟨true, rfl, fun h => by cases h⟩
 rw [iN (by omega)]
 by_cases c3 : P.length > 100
 ·rw [iP (by omega)]; exact ⟨true, rfl, fun h => by cases h⟩
 rw [iN (by omega), j4 (T := Unit) (Z := Bool) L.length (fun i => if ((L.getD i default).name.length : Int) > 100 then some true else none) () (by omega) (fun i hi => by
  unfold eH
  rw [iP (ltI hi), iP (inI hi)]
  simp only [tN]
  split <;> simp_all) (by
  unfold eH
  rw [iN (ft _)])]
 simp only [bSq]
 have hT : ∀ (n : Nat) (f : Nat → Bool) (x : Unit ⊕ Bool), x = iM (T := Unit) (Z := Bool) n (fun i => if f i then some true else none) () → x = .inr true ∨ x = .inl () := by
  intro n f x hx
  rcases hK (T := Unit) (Z := Bool) n (fun i => if f i then some true else none) () with ⟨e, _⟩ | ⟨i, z, _, hz, e⟩
  ·right; rw [hx, e]
  ·left
   rw [hx, e]
   cases h : f i with
   | true => rw [h] at hz; simp at hz; rw [← hz]
   | false => rw [h] at hz; simp at hz
 rcases hT L.length (fun i => decide (((L.getD i default).name.length : Int) > 100)) _ rfl with h | h
 ·simp only [decide_eq_true_eq] at h
  rw [h]; exact ⟨true, rfl, fun h => by cases h⟩
 simp only [decide_eq_true_eq] at h
 rw [h]
 simp only [Sum.elim_inl]
 unfold dt
 rw [j4 (T := Unit) (Z := Bool) N.length (fun i => if ((N.getD i default).length : Int) > 100 then some true else none) () (by omega) (fun i hi => by
  unfold eG
  rw [iP (ltI hi), iP (inI hi)]
  simp only [tN]
  split <;> simp_all) (by
  unfold eG
  rw [iN (ft _)])]
 simp only [bSq]
 rcases hT N.length (fun i => decide (((N.getD i default).length : Int) > 100)) _ rfl with h | h
 ·simp only [decide_eq_true_eq] at h
  rw [h]; exact ⟨true, rfl, fun h => by cases h⟩
 simp only [decide_eq_true_eq] at h
 rw [h]
 simp only [Sum.elim_inl]
 unfold dr
 obtain ⟨g, hg⟩ : ∃ g : Nat → Option Bool, g = fun i => if ((P.getD i default).length : Int) > 1100 then some true else Sum.elim (fun _ => none) some (iM (T := Unit) (Z := Bool) (P.getD i default).length (fun j => if (((P.getD i default).getD j default).name.length : Int) > 100 then some true else none) ()) := ⟨_, rfl⟩
 rw [j4 (T := Unit) (Z := Bool) P.length g () (by omega) (fun i hi => by
  unfold eF
  rw [iP (ltI hi), iP (inI hi), hg]
  simp only [tN]
  by_cases d : ((P.getD i default).length : Int) > 1100
  ·rw [iP d, iP d]
  ·rw [iN d, iN d, j4 (T := Unit) (Z := Bool) (P.getD i default).length (fun j => if (((P.getD i default).getD j default).name.length : Int) > 100 then some true else none) () (by omega) (fun j hj => by
    unfold eE
    simp only [tN]
    rw [iP (ltI hj), iP (inI hj)]
    split <;> simp_all) (by
    unfold eE
    simp only [tN]
    rw [iN (ft _)])]
   simp only [bSq]
   cases iM (T := Unit) (Z := Bool) (P.getD i default).length (fun j => if (((P.getD i default).getD j default).name.length : Int) > 100 then some true else none) () with
   | inl u => rfl
   | inr b => rfl) (by
  unfold eF
  rw [iN (ft _)])]
 simp only [bSq]
 rcases hK (T := Unit) (Z := Bool) P.length g () with ⟨e, hn⟩ | ⟨i, z, hi, hz, e⟩
 ·rw [e]
  refine ⟨false, rfl, fun _ => ⟨by omega, by omega, by omega, fun x hx => ?_⟩⟩
  obtain ⟨j, hj, rfl⟩ := List.getElem_of_mem hx
  have := hn j hj
  rw [hg] at this
  simp only at this
  rw [show P.getD j default = P[j] by simp [List.getD, hj]] at this
  split at this
  ·cases this
  ·omega
 ·rw [e]
  have hzt : z = true := by
   rw [hg] at hz
   simp only at hz
   split at hz
   ·simpa using hz.symm
   ·rcases hT (P.getD i default).length (fun j => decide ((((P.getD i default).getD j default).name.length : Int) > 100)) _ rfl with h | h
    ·simp only [decide_eq_true_eq] at h
     rw [h] at hz
     simpa using hz.symm
    ·simp only [decide_eq_true_eq] at h
     rw [h] at hz
     simp at hz
  subst hzt
  exact ⟨true, rfl, fun h => by cases h⟩
theorem lq (p1 p2 : List aa) (p3 : List (List UInt8)) (p4 : List (List aa)) (p5 : List Int) (_ : okL aa.ok p1) (_ : okL aa.ok p2) (_ : okL okT p3) (_ : okL (okL aa.ok) p4) (_ : okL (okI .i64) p5)
  (_ : szL aa.sz p1 + szL aa.sz p2 + szL szS p3 + szL (szL aa.sz) p4 + szL szI p5 ≤ 1048576) : ∃ fuel, it fuel p1 p2 p3 p4 p5 = some true := by
 refine ⟨1000, ?_⟩
 unfold it
 rw [iO 1000 (Nat.le_refl _)]
 simp only [bSq, if_true]
 obtain ⟨b1, e1, h1⟩ := tA p1 p3 p4
 obtain ⟨b2, e2, h2⟩ := tz p2
 rw [e1]
 simp only [bSq]
 cases b1 with
 | true => rfl
 | false =>
  obtain ⟨l1, l3, l4, l5⟩ := h1 rfl
  rw [e2]
  simp only [bSq, Bool.false_eq_true, if_false]
  cases b2 with
  | true => rfl
  | false =>
   have l2 := h2 rfl
   simp only [Bool.false_eq_true, if_false]
   by_cases c5 : (p5.length : Int) > 1000
   ·rw [iP c5]
   ·rw [iN c5, iP (m4 (by omega)), iB 1000 (Nat.le_refl _), dD 1000 (Nat.le_refl _) _ _ (by omega), qS _ _ (by omega), (lP 1000 (Nat.le_refl _) p1 p2).1]
    obtain ⟨r, hr, hrl, _⟩ := i5 p1
    obtain ⟨w, hw, hwl⟩ := rS p1 l1 p3 (by omega) p4 l5
    obtain ⟨v, hv⟩ := qR p1 p3 (by omega) p5
    obtain ⟨b, hb⟩ := (lP 1000 (Nat.le_refl _) p1 p2).2
    rw [hr, hw, hv, hb]
    simp only [bSq, and_self, if_true]
    rw [fY _ _ (by omega), fY _ _ (by omega), fY _ _ (by omega)]
    simp
end Pam
