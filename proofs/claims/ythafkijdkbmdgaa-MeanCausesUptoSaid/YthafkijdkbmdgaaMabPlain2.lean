/- Systems with the same rules tell the same; systems at their beginning. -/
import Derived.Test.YthafkijdkbmdgaaMabPlain1
import Derived.Test.YthafkijdkbmdgaaMabFun1
set_option linter.all false
namespace Pam
open Go
structure xV (A B : ae) : Prop where
 v : A.vars = B.vars
 i : A.in_ = B.in_
 o : A.out_ = B.out_
 r : ∀ j, j < B.rules.length → ∃ i, i < A.rules.length ∧ rl A i = rl B j
theorem vz {A B : ae} (h : A.vars = B.vars) (v : Int) : clN A v = clN B v := by unfold clN nV vOf; rw [h]
theorem wy {A B : ae} (h : A.vars = B.vars) (V : Int → List Int) (kp : List Int) (r : ab) : kB A V kp r = kB B V kp r := by unfold kB; simp only [vz h]
theorem gn.vars {A B : ae} (h : A.vars = B.vars) {V : Int → List Int} {v : Int} (e : gn A V v) : gn B V v := ⟨by rw [e.len]; exact vz h v, e.ok⟩
theorem zr {A B : ae} (h : xV A B) {P P' W V : Int → List Int} (hP : ∀ j, j < B.rules.length → i7 P (rl B j) = i7 P' (rl B j)) (f : zl A P W V) : zl B P' W V := by
 refine ⟨fun v hv => f.i v (by rw [h.i]; exact hv), fun j hj => ?_⟩
 obtain ⟨i, hi, e⟩ := h.r j hj
 have := f.r i hi
 rw [e] at this
 rw [this, hP j hj, wy h.v]
theorem As {A B : ae} (h : xV A B) (gA : ff A) (hA : A.ok) (sA : f9 A) (gB : ff B) (hB : B.ok) (sB : f9 B) {P P' : Int → List Int} (hP : ∀ j, j < B.rules.length → i7 P (rl B j) = i7 P' (rl B j)) (W : Int → List Int) :
  ∀ v ∈ bV B B.rules.length, o9 A P W v = o9 B P' W v :=
 tP gB hB sB (zr h hP (vt gA hA sA P W)) (vt gB hB sB P' W) B.rules.length (Nat.le_refl _)
theorem Bl {A B : ae} (h : xV A B) (inn : List Int) : inE A inn = inE B inn ∧ jC A inn = jC B inn := by
 obtain ⟨v, i, o, r⟩ := A
 obtain ⟨v', i', o', r'⟩ := B
 have h1 : v = v' := h.v
 have h2 : i = i' := h.i
 subst h1; subst h2
 have e1 : ∀ l k, pV (ae.mk v i o r) l k = pV (ae.mk v i o' r') l k := fun l k => rfl
 have e2 : ∀ k, inW (ae.mk v i o r) inn k = inW (ae.mk v i o' r') inn k := by
  intro k
  induction k with
  | zero => rfl
  | succ k ih =>
   show upd (inW _ inn k) _ _ = upd (inW _ inn k) _ _
   rw [ih]
   rfl
 refine ⟨e2 _, ?_⟩
 rfl
theorem xW {B : ae} (gB : ff B) (hB : B.ok) {j : Nat} (hj : j < B.rules.length) {P P' : Int → List Int} (h : ∀ v ∈ bV B B.rules.length, P v = P' v) : i7 P (rl B j) = i7 P' (rl B j) := by
 unfold i7
 by_cases o : (rl B j).op = 13
 ·rw [iP o, iP o]
  have har := (nQ gB hB hj).ar
  rw [o] at har
  have p13 : aP 13 = 2 := by decide
  exact h _ (gB.u j hj _ (jx (aN (by unfold rl at har; omega))))
 ·rw [iN o, iN o]
theorem At {A B : ae} (h : xV A B) (gB : ff B) {V V' : Int → List Int} (hV : ∀ v ∈ bV B B.rules.length, V v = V' v) : sE A V = sE B V' := by
 unfold sE
 rw [h.o]
 congr 1
 exact List.map_congr_left fun v hv => hV v (gB.o v hv)
theorem sH {s : ae} (hs : s.ok) : (fE s).ok := ⟨hs.1, hs.2.1, hs.2.2.1, fun r hr => by
 have hr' : r ∈ (b9 s).map (fun k => s.rules.getD k default) := hr
 obtain ⟨k, hk, rfl⟩ := List.mem_map.1 hr'
 exact hs.2.2.2 _ (aN (mU hk))⟩
theorem pd {s : ae} (hc : (eo s).code = 0) (hK : (b9 s).length = s.rules.length) : ff (fE s) := (j8 (s := fE s) (by rw [wo hc hK])).1
theorem vA (s : ae) {i : Nat} (hi : i < (b9 s).length) : rl (fE s) i = rl s ((b9 s).getD i default) := j9 s hi
theorem tS (s : ae) : (fE s).rules.length = (b9 s).length := jy s (b9 s)
theorem uE (s : ae) : d7 s = some (if (eo s).code = 0 then (if (b9 s).length = s.rules.length then .inr (av.mk 0 0, [], 0, 0, s.vars, s.in_, s.out_, (fE s).rules) else .inl (nJ s).2) else .inl (eo s)) := by
 unfold d7
 rw [Aj]
 simp only [bSq]
 by_cases hc : (eo s).code = 0
 ·rw [iP hc, iP hc]
  unfold nJ
  by_cases hK : (b9 s).length = s.rules.length
  ·rw [iP hK, iP hK, iN (by simp)]
   rfl
  ·rw [iN hK, iN hK, iP (by simp)]
 ·rw [iN hc, iN hc, iP (by simpa using hc)]
theorem iX (l : List Int) (hl : l.length ≤ 9000000) : dL l l = some true := by
 unfold dL
 rw [iN (by simp), eR l.length (fun _ => none) ()]
 ·rw [mj (fun _ _ => rfl)]; rfl
 ·intro i hi
  unfold gK
  rw [iP (ltI hi), iP ⟨inI hi, inI hi⟩, iN (by simp), wrs i (by omega)]
 ·unfold gK; rw [iN (bH _)]
theorem m5 (rows : List (List Int)) (hl : rows.length ≤ 9000000) : ∃ b, gj rows = some b ∧ (b = false → rows.length ≤ 60 ∧ ∀ i, i < rows.length → (rows.getD i default).length ≤ 10000) := by
 unfold gj
 by_cases c : (rows.length : Int) > 60
 ·rw [iP c]; exact ⟨true, rfl, fun h => by cases h⟩
 rw [iN c, eR rows.length (fun i => if ((rows.getD i default).length : Int) > 10000 then some true else none) ()]
 ·rcases dd rows.length (fun i => if ((rows.getD i default).length : Int) > 10000 then some true else none) () with ⟨e, h⟩ | ⟨j, z, _, hf, e⟩
  ·rw [e]
   refine ⟨false, rfl, fun _ => ⟨by omega, fun i hi => ?_⟩⟩
   have := h i hi
   split at this
   ·cases this
   ·omega
  ·rw [e]
   refine ⟨z, rfl, fun h => ?_⟩
   split at hf
   ·simp_all
   ·cases hf
 ·intro i hi
  unfold gM
  rw [iP (ltI hi), iP (inI hi), tN, wrs i (by omega)]
  split <;> rfl
 ·unfold gM; rw [iN (bH _)]
theorem vB {s : ae} (g : ff s) {V : Int → List Int} (hV : ∀ v ∈ bV s s.rules.length, gn s V v) : (sE s V).length ≤ 120000 := by
 have hno := g.h.no
 have key : ∀ l : List Int, (∀ v ∈ l, (V v).length ≤ 300) → ((l.map V).flatten).length ≤ 300 * l.length := by
  intro l
  induction l with
  | nil => intro _; simp
  | cons v l ih =>
   intro h
   have := ih fun w hw => h w (by simp [hw])
   have := h v (by simp)
   rw [List.map_cons, List.flatten_cons, List.length_append, List.length_cons]
   omega
 have := key s.out_ fun v hv => by rw [(hV v (g.o v hv)).len]; exact m3 g.h.v (g.h.o v hv)
 unfold sE
 omega
theorem xa {rows : List (List Int)} (h : okL (okL (okI .i64)) rows) {i : Nat} (hi : i < rows.length) : ∀ y ∈ rows.getD i default, okI .i64 y := h _ (aN hi)
def s0M : ae := ae.mk (lit ([(ah.mk 105 0), (ah.mk 105 0), (ah.mk 105 0)] : List ah)) (lit ([0] : List Int)) (lit ([2] : List Int)) (lit ([(ab.mk 1 0 1 5 [] []), (ab.mk 13 0 2 0 (lit ([1, 0] : List Int)) [])] : List ab))
theorem zs : az s0M (ab.mk 1 0 1 5 [] []) = some true := by
 rw [cZ (by decide) (by decide) (by decide)]
 unfold aA
 rfl
theorem zt : az s0M (ab.mk 13 0 2 0 (lit ([1, 0] : List Int)) []) = some true := by
 rw [cZ (by decide) (by decide) (by decide)]
 unfold aA
 rw [bu]
 simp only [bSq]
 rfl
theorem xX : eo s0M = av.mk 0 0 := by
 refine vm (by rfl) (fun i hi => ?_) (fun i hi => ?_) (by decide)
 ·have : i = 0 ∨ i = 1 := by have : s0M.rules.length = 2 := rfl; omega
  rcases this with rfl | rfl
  ·exact vo (r := ab.mk 1 0 1 5 [] []) (by decide) (by decide) (by decide) (by decide) (by decide) zs
  ·exact vo (r := ab.mk 13 0 2 0 (lit ([1, 0] : List Int)) []) (by decide) (by decide) (by decide) (by decide) (by decide) zt
 ·have : i = 0 ∨ i = 1 := by have : s0M.rules.length = 2 := rfl; omega
  rcases this with rfl | rfl <;> decide
theorem pe : f9 s0M := by decide
theorem zv : s0M.ok := by
 refine ⟨fun x hx => ?_, fun x hx => ?_, fun x hx => ?_, fun x hx => ?_⟩
 ·simp only [s0M, lit, List.mem_cons, List.not_mem_nil, or_false, or_self] at hx
  subst hx
  exact ⟨⟨by decide, by decide⟩, ⟨by decide, by decide⟩⟩
 ·simp only [s0M, lit, List.mem_cons, List.not_mem_nil, or_false] at hx
  subst hx
  exact ⟨by decide, by decide⟩
 ·simp only [s0M, lit, List.mem_cons, List.not_mem_nil, or_false] at hx
  subst hx
  exact ⟨by decide, by decide⟩
 ·simp only [s0M, lit, List.mem_cons, List.not_mem_nil, or_false] at hx
  rcases hx with rfl | rfl
  ·exact ⟨⟨by decide, by decide⟩, ⟨by decide, by decide⟩, ⟨by decide, by decide⟩, ⟨by decide, by decide⟩, fun y hy => by simp at hy, fun y hy => by simp at hy⟩
  ·refine ⟨⟨by decide, by decide⟩, ⟨by decide, by decide⟩, ⟨by decide, by decide⟩, ⟨by decide, by decide⟩, fun y hy => ?_, fun y hy => by simp at hy⟩
   simp only [List.mem_cons, List.not_mem_nil, or_false] at hy
   rcases hy with rfl | rfl <;> exact ⟨by decide, by decide⟩
theorem xY {s : ae} (hc : (eo s).code = 0) (hs : f9 s) : d7 s = some (.inr (av.mk 0 0, [], 0, 0, s.vars, s.in_, s.out_, s.rules)) := by
 rw [uE, iP hc, iP (by rw [qT hs]; simp), ux hs]
theorem nR : ir = some true := by
 have hc : (eo s0M).code = 0 := by rw [xX]
 obtain ⟨g, _⟩ := j8 hc
 unfold ir
 show (d7 s0M).bind _ = _
 rw [xY hc pe]
 simp only [bSq, Sum.elim_inr]
 have c1 : (jC s0M [1]).code = 0 := by rfl
 have c2 : (jC s0M [2]).code = 0 := by rfl
 obtain ⟨M1, r1, _, k1⟩ := sG (s := s0M) (P := fun _ => []) (M := []) g zv pe (pY _) (pX _) (by simp) [1] (fun y hy => by rw [List.mem_singleton] at hy; subst hy; exact ⟨by decide, by decide⟩)
 obtain ⟨q1, q2, q3, _⟩ := k1 c1
 obtain ⟨M2, r2, _, k2⟩ := sG (s := s0M) g zv pe q2 q1 (by simp only [List.length_nil] at q3; omega) [2] (fun y hy => by rw [List.mem_singleton] at hy; subst hy; exact ⟨by decide, by decide⟩)
 rw [iP c1] at r1
 rw [iP c2] at r2
 have o1 : sE s0M (o9 s0M (fun _ => []) (inE s0M [1])) = [5] := by rfl
 have o2 : sE s0M (o9 s0M (o9 s0M (fun _ => []) (inE s0M [1])) (inE s0M [2])) = [1] := by rfl
 rw [o1] at r1
 rw [o2] at r2
 rw [iN (by simp)]
 rw [show lit ([1] : List Int) = [1] from rfl, show lit ([2] : List Int) = [2] from rfl, show lit ([5] : List Int) = [5] from rfl, r1]
 simp only [bSq]
 rw [r2]
 simp only [bSq]
 rw [iP c1, iP c2, iX _ (by simp), iX _ (by simp)]
 simp only [bSq, if_true]
 have hw : hZ s0M [0, 1] = some (pV s0M [0, 1] 2 : Int) := vu g.h.v (by decide) (by simp)
 show (hZ s0M [0, 1]).bind _ = _
 rw [hw]
 rfl
def CF (A B : ae) (M N : List (Int × List Int)) (i : Nat) : Prop :=
 ∃ P P', m4 A P ∧ sF A M P ∧ m4 B P' ∧ sF B N P' ∧ (∀ j, j < B.rules.length → i7 P (rl B j) = i7 P' (rl B j)) ∧ M.length ≤ 400 * i ∧ N.length ≤ 400 * i
theorem sK {A B : ae} (h : xV A B) (gA : ff A) (hA : A.ok) (sA : f9 A) (gB : ff B) (hB : B.ok) (sB : f9 B) {rows : List (List Int)} (hr : okL (okL (okI .i64)) rows) (hl : rows.length ≤ 60) : ∀ (k i : Nat) (M N : List (Int × List Int)), i + k = rows.length → CF A B M N i →
  ∃ z, bb (fun (x : List (Int × List Int) × List (Int × List Int) × Int) => cX rows (av.mk 0 0, [], 0, 0, A.vars, A.in_, A.out_, A.rules) (av.mk 0 0, [], 0, 0, B.vars, B.in_, B.out_, B.rules) x.1 x.2.1 x.2.2) (M, N, (i : Int)) = some (.inl z)
 | 0, i, M, N, hi, _ => by
  obtain rfl : i = rows.length := by omega
  refine ⟨_, eG (o := Sum.inl (M, N)) ?_⟩
  show cX rows _ _ M N _ = _
  unfold cX
  rw [iN (bH _)]
 | k + 1, i, M, N, hi, hb => by
  have hil : i < rows.length := by omega
  obtain ⟨P, P', b1, b2, b3, b4, b5, b6, b7⟩ := hb
  have hin := xa hr hil
  obtain ⟨M', e1, k1, k2⟩ := sG gA hA sA b1 b2 (by omega) _ hin
  obtain ⟨N', e2, l1, l2⟩ := sG gB hB sB b3 b4 (by omega) _ hin
  obtain ⟨hE, hF⟩ := Bl h (rows.getD i default)
  rw [hE, hF] at e1 k2
  rw [hF] at k1
  have hV := As h gA hA sA gB hB sB b5 (inE B (rows.getD i default))
  have hO := At h gB hV
  have hlen : (if (jC B (rows.getD i default)).code = 0 then sE B (o9 B P' (inE B (rows.getD i default))) else []).length ≤ 9000000 := by
   by_cases c : (jC B (rows.getD i default)).code = 0
   ·rw [iP c]; have := vB gB (l2 c).2.2.2; omega
   ·rw [iN c]; simp
  have hst : cX rows (av.mk 0 0, [], 0, 0, A.vars, A.in_, A.out_, A.rules) (av.mk 0 0, [], 0, 0, B.vars, B.in_, B.out_, B.rules) M N (i : Int) = some (.inl (M', N', ((i + 1 : Nat) : Int))) := by
   unfold cX
   rw [iP (ltI hil), iP (inI hil)]
   simp only [tN]
   rw [e1, e2]
   simp only [bSq]
   rw [hO]
   simp only [and_self, if_true]
   rw [iX _ hlen]
   simp only [bSq, if_true]
   rw [wrs i (by omega)]
  rw [eF (s := (M, N, (i : Int))) hst]
  refine sK h gA hA sA gB hB sB hr hl k (i + 1) M' N' (by omega) ?_
  by_cases c : (jC B (rows.getD i default)).code = 0
  ·obtain ⟨p1, p2, p3, _⟩ := k2 c
   obtain ⟨q1, q2, q3, _⟩ := l2 c
   exact ⟨_, _, p2, p1, q2, q1, fun j hj => xW gB hB hj hV, by omega, by omega⟩
  ·rw [k1 c, l1 c]
   exact ⟨P, P', b1, b2, b3, b4, b5, by omega, by omega⟩
theorem Bm {s : ae} {c : Nat} (hc : c ≤ s.rules.length) : cE (cE s (er s.rules.length c)) (er s.rules.length (s.rules.length - c)) = s := by
 have e : (cE s (er s.rules.length c)).rules = s.rules.drop c ++ s.rules.take c := qA s c
 have hl : (cE s (er s.rules.length c)).rules.length = s.rules.length := by rw [jy, qz hc]
 have e2 := qA (cE s (er s.rules.length c)) (s.rules.length - c)
 rw [hl] at e2
 have e3 : (cE (cE s (er s.rules.length c)) (er s.rules.length (s.rules.length - c))).rules = s.rules := by
  show (er s.rules.length (s.rules.length - c)).map (fun k => (cE s (er s.rules.length c)).rules.getD k default) = _
  rw [e2, e]
  have h1 : (s.rules.drop c).length = s.rules.length - c := List.length_drop
  rw [List.drop_append, List.take_append]
  rw [h1, Nat.sub_self, List.drop_of_length_le (by omega), List.take_of_length_le (l := s.rules.drop c) (by omega)]
  simp
 obtain ⟨v, i, o, r⟩ := s
 simp only at e3
 unfold cE at e3 ⊢
 simp only at e3 ⊢
 rw [e3]
theorem xZ {s : ae} {l : List Nat} (hl : ∀ k ∈ l, k < s.rules.length) (hlen : l.length = s.rules.length) (hn : l.Nodup) (hK : (b9 s).length = s.rules.length) (hKt : (b9 (cE s l)).length = (cE s l).rules.length) : xV (fE s) (fE (cE s l)) := by
 refine ⟨rfl, rfl, rfl, fun j hj => ?_⟩
 rw [tS] at hj
 have h1 := vA (cE s l) hj
 have hm : (b9 (cE s l)).getD j default < (cE s l).rules.length := mU (aN hj)
 rw [jy] at hm
 have h2 : rl (cE s l) ((b9 (cE s l)).getD j default) = rl s (l.getD ((b9 (cE s l)).getD j default) default) := j9 s hm
 have hk : l.getD ((b9 (cE s l)).getD j default) default < s.rules.length := hl _ (aN hm)
 obtain ⟨i, hi, e⟩ := List.mem_iff_getElem.1 (lv (mV s) (fun _ h => mU h) hK _ hk)
 refine ⟨i, by rw [tS]; exact hi, ?_⟩
 rw [vA s hi, h1, h2, uv hi, e]
theorem pf (s : ae) (rows : List (List Int)) (cut : Int) (hs : s.ok) (hr : okL (okL (okI .i64)) rows) (_ : okI .i64 cut) (hz : s.sz + (szL (szL szI)) rows + szI cut ≤ 1048576) : kb s rows cut = some true := by
 have z5 := ua (f := szL (α := Int) szI) (fun l => by unfold szL; omega) rows
 unfold kb
 rw [nR]
 simp only [bSq, if_true]
 obtain ⟨b, hb, hf⟩ := vj s 150 (by omega)
 rw [show ((150 : Nat) : Int) = 150 from rfl] at hb
 rw [hb]
 simp only [bSq]
 cases b
 ·have hng := hf rfl
  simp only [Bool.false_eq_true, if_false]
  obtain ⟨b2, hb2, hf2⟩ := m5 rows (by omega)
  rw [hb2]
  simp only [bSq]
  cases b2
  ·obtain ⟨hr60, _⟩ := hf2 rfl
   simp only [Bool.false_eq_true, if_false]
   have hnr := hng.nr
   rw [Ah hng (by omega)]
   simp only [bSq]
   have e1 : IntKind.wrap .u64 (IntKind.wrap .i64 ((s.rules.length : Int) + 1)) = ((s.rules.length + 1 : Nat) : Int) := by
    rw [wrs _ (by omega), IntKind.wrap_u64]; omega
   rw [e1, iP (by omega)]
   obtain ⟨c, hc1, hc2⟩ : ∃ c : Nat, IntKind.wrap .i64 ((IntKind.wrap .u64 cut).tmod ((s.rules.length + 1 : Nat) : Int)) = (c : Int) ∧ c ≤ s.rules.length := by
    have h0 : 0 ≤ IntKind.wrap .u64 cut := by rw [IntKind.wrap_u64]; omega
    have h1 : (IntKind.wrap .u64 cut).tmod ((s.rules.length + 1 : Nat) : Int) = (IntKind.wrap .u64 cut) % ((s.rules.length + 1 : Nat) : Int) := Int.tmod_eq_emod_of_nonneg h0
    have h2 := Int.emod_nonneg (IntKind.wrap .u64 cut) (show ((s.rules.length + 1 : Nat) : Int) ≠ 0 from by omega)
    have h3 := Int.emod_lt_of_pos (IntKind.wrap .u64 cut) (show (0 : Int) < ((s.rules.length + 1 : Nat) : Int) from by omega)
    rw [h1]
    refine ⟨((IntKind.wrap .u64 cut) % ((s.rules.length + 1 : Nat) : Int)).toNat, ?_, by omega⟩
    rw [wr (by omega) (by omega)]
    omega
   rw [hc1]
   simp only [tN]
   have hl1 : (s.rules.drop c).length = s.rules.length - c := List.length_drop
   have hl2 : (s.rules.take c).length = c := by rw [List.length_take]; omega
   rw [iP ⟨by omega, qS (by omega) (by omega)⟩, iP (qS (by omega) (by omega))]
   have ep : ae.mk s.vars s.in_ s.out_ (s.rules.drop c ++ s.rules.take c) = cE s (er s.rules.length c) := by
    rw [← qA]
    rfl
   have hpn := qU s.rules.length c
   have hpl : (er s.rules.length c).length = s.rules.length := qz hc2
   have hplen := jy s (er s.rules.length c)
   rw [ep, uE, uE]
   simp only [bSq]
   by_cases hc : (eo s).code = 0
   ·have hpc := mX hc hpn (fun _ h => nL h) hpl
    have hct : (eo (cE s (er s.rules.length c))).code = 0 := by rw [hpc]
    have hfull := xS hc hpn (fun _ h => nL h) hpl
    rw [iP hc, iP hct]
    by_cases hK : (b9 s).length = s.rules.length
    ·have hKt : (b9 (cE s (er s.rules.length c))).length = (cE s (er s.rules.length c)).rules.length := by rw [hplen]; exact hfull.2 hK
     rw [iP hK, iP hKt]
     simp only [Sum.elim_inr, Sum.elim_inl]
     rw [iN (by simp), iN (by simp)]
     have hst : (cE s (er s.rules.length c)).ok := ⟨hs.1, hs.2.1, hs.2.2.1, fun r hr => by
      have hr' : r ∈ (er s.rules.length c).map (fun k => s.rules.getD k default) := hr
      obtain ⟨k, hk, rfl⟩ := List.mem_map.1 hr'
      exact hs.2.2.2 _ (aN (nL hk))⟩
     obtain ⟨z, e⟩ := sK (A := fE s) (B := fE (cE s (er s.rules.length c))) (xZ (fun _ h => nL h) hpl hpn hK hKt) (pd hc hK) (sH hs) ku (pd hct hKt) (sH hst) ku hr hr60 rows.length 0 [] [] (by omega)
      ⟨fun _ => [], fun _ => [], pY _, pX _, pY _, pX _, fun _ _ => rfl, by simp, by simp⟩
     show (bb (fun (x : List (Int × List Int) × List (Int × List Int) × Int) => cX rows (av.mk 0 0, [], 0, 0, (fE s).vars, (fE s).in_, (fE s).out_, (fE s).rules) (av.mk 0 0, [], 0, 0, (fE (cE s (er s.rules.length c))).vars, (fE (cE s (er s.rules.length c))).in_, (fE (cE s (er s.rules.length c))).out_, (fE (cE s (er s.rules.length c))).rules) x.1 x.2.1 x.2.2) ([], [], ((0 : Nat) : Int))).bind _ = _
     rw [e]
     rfl
    ·have hKt : ¬ (b9 (cE s (er s.rules.length c))).length = (cE s (er s.rules.length c)).rules.length := by rw [hplen]; exact fun h => hK (hfull.1 h)
     rw [iN hK, iN hKt]
     simp only [Sum.elim_inl]
     have f1 : ¬ (nJ s).2.code = 0 := by unfold nJ; rw [iN hK]; simp
     have f2 : ¬ (nJ (cE s (er s.rules.length c))).2.code = 0 := by unfold nJ; rw [iN hKt]; simp
     rw [iP f1, bne_iff_ne.2 f1, bne_iff_ne.2 f2]
     rfl
   ·have hct : ¬ (eo (cE s (er s.rules.length c))).code = 0 := fun h => by
     have hl' : (er s.rules.length (s.rules.length - c)).length = (cE s (er s.rules.length c)).rules.length := by rw [qz (by omega), hplen, hpl]
     have := mX h (qU s.rules.length (s.rules.length - c)) (fun k hk => by rw [hplen, hpl]; exact nL hk) hl'
     rw [Bm hc2] at this
     rw [this] at hc
     exact hc rfl
    rw [iN hc, iN hct]
    simp only [Sum.elim_inl]
    rw [iP hc, bne_iff_ne.2 hc, bne_iff_ne.2 hct]
    rfl
  ·rfl
 ·rfl
end Pam
