/- The variables that a rule uses: the program and the document tell the same list. -/
import Derived.Test.YtpfekllhlfodiaaSysNumbersFun1
import Derived.Test.YtpfekllhlfodiaaWide1
import Derived.Test.YtpfekllhlfodiaaBase3
set_option linter.all false
namespace Pam
open Go

def nmd (p : TPush) : Bool := p.op == 2 || p.op == 3 || p.op == 8
/-- all variables that are named, one behind the other -/
def namesL (l : List Int) : List TPush → List Int
  | [] => l
  | p :: e => namesL (if nmd p then l ++ [p.v] else l) e
theorem namesL_eq (l : List Int) (e : List TPush) : namesL l e = e.foldl (fun l p => if nmd p then l ++ [p.v] else l) l := by
  induction e generalizing l with
  | nil => rfl
  | cons p e ih => rw [namesL, ih]; rfl

def usesOf (a : List Int) (e : List TPush) : List Int := (e.foldl (fun l p => if nmd p then l ++ [p.v] else l) a).foldl ins []

theorem wrN (i : Nat) (h : i < 1000000000) : IntKind.wrap .i64 ((i : Int) + 1) = ((i + 1 : Nat) : Int) := wrs i (by omega)

theorem room8 (n : Nat) (h : n ≤ 1000000) : room n 8 := by
  unfold room
  have : maxLen = 9223372036854775807 := rfl
  omega

theorem clone_eq (l : List Int) (h : l.length ≤ 1000000) : slices_Clone_int_int l = some l := by
  unfold slices_Clone_int_int
  by_cases e : l = []
  · rw [if_pos e, e]
  · rw [if_neg e, if_pos (room8 _ h)]
theorem clone_eq2 (l : List Int) (h : l.length ≤ 1000000) : slices_Clone_int_int_2 l = some l := by
  unfold slices_Clone_int_int_2
  by_cases e : l.length = 0
  · rw [if_pos e, List.length_eq_zero_iff.1 e]
  · rw [if_neg e, if_pos (room8 _ h)]

theorem usesEnd (l : List Int) (h : l.length ≤ 2000000) : (slices_Sort_int_int l).bind (fun y6 => (slices_Compact_int_int l.length y6).bind fun y7 => some y7) = some (l.foldl ins []) := by
  unfold slices_Sort_int_int slices_Compact_int_int
  rw [if_pos (by omega)]
  show (if l.length = (sortI l).length ∧ (sortI l).length ≤ 140737488355328 then some (Go.Lib.compact (sortI l)) else none).bind (fun y7 => some y7) = _
  rw [if_pos ⟨(sortI_length l).symm, by rw [sortI_length]; omega⟩, compact_sort_eq]
  rfl

theorem sysUses_eq (r : TRule) (ha : r.a.length ≤ 500000) (he : r.e.length ≤ 500000) : sys_Uses r = some (usesOf r.a r.e) := by
  unfold sys_Uses
  rw [clone_eq _ (by omega)]
  show (loop (fun (x : List Int × Int) => sys_Uses_l1 r x.1 x.2) (r.a, 0)).bind (fun z26 => sys_Uses_j1 z26) = _
  obtain ⟨h1, h2⟩ := loop_fold (A := List Int) (T := TPush) (O := List Int) (S := List Int × Int) (fun a i => (a, i)) (body := fun x => sys_Uses_l1 r x.1 x.2) r.e (fun l p => if nmd p then l ++ [p.v] else l)
    (fun i a => a.length ≤ r.a.length + i) (fun a => a) r.a (by omega)
    (by
      intro i a hi hI
      have step : ∀ b : Bool, b = nmd (r.e.getD i default) → sys_Uses_j2 r a (i : Int) b = some (.inl ((if nmd (r.e.getD i default) then a ++ [(r.e.getD i default).v] else a), ((i + 1 : Nat) : Int))) := by
        intro b hb
        subst hb
        unfold sys_Uses_j2
        rw [wrN i (by omega)]
        cases nmd (r.e.getD i default)
        · rfl
        · rw [if_pos rfl, if_pos (room8 _ (by omega))]; rfl
      refine ⟨?_, ?_⟩
      · show sys_Uses_l1 r a (i : Int) = _
        unfold sys_Uses_l1
        rw [if_pos (ltI hi), if_pos (inI hi)]
        simp only [Int.toNat_natCast]
        split
        · rename_i h; exact step _ (by unfold nmd; rw [h]; rfl)
        · rename_i h
          split
          · rename_i h'; exact step _ (by unfold nmd; rw [h']; rfl)
          · rename_i h'; exact step _ (by unfold nmd; rw [beq_eq_false_iff_ne.2 h, beq_eq_false_iff_ne.2 h']; rfl)
      · split
        · simp; omega
        · omega)
    (by
      intro a hI
      show sys_Uses_l1 r a (r.e.length : Int) = _
      unfold sys_Uses_l1
      rw [if_neg (not_ltI _)])
  rw [h1]
  exact usesEnd _ (by omega)

theorem sysUses_eq2 (p1 p2 p3 p4 : Int) (la : List Int) (le : List TPush) (ha : la.length ≤ 500000) (he : le.length ≤ 500000) : sys_Uses_2 p1 p2 p3 p4 la le = some (usesOf la le) := by
  unfold sys_Uses_2
  rw [clone_eq2 _ (by omega)]
  show (loop (fun (x : List Int × Int) => sys_Uses_2_l1 le x.1 x.2) (la, 0)).bind (fun z26 => sys_Uses_2_j1 z26) = _
  obtain ⟨h1, h2⟩ := loop_fold (A := List Int) (T := TPush) (O := List Int) (S := List Int × Int) (fun a i => (a, i)) (body := fun x => sys_Uses_2_l1 le x.1 x.2) le (fun l p => if nmd p then l ++ [p.v] else l)
    (fun i a => a.length ≤ la.length + i) (fun a => a) la (by omega)
    (by
      intro i a hi hI
      have step : ∀ b : Bool, b = nmd (le.getD i default) → sys_Uses_2_j2 le a (i : Int) b = some (.inl ((if nmd (le.getD i default) then a ++ [(le.getD i default).v] else a), ((i + 1 : Nat) : Int))) := by
        intro b hb
        subst hb
        unfold sys_Uses_2_j2
        rw [wrN i (by omega)]
        cases nmd (le.getD i default)
        · rfl
        · rw [if_pos rfl, if_pos (room8 _ (by omega))]; rfl
      refine ⟨?_, ?_⟩
      · show sys_Uses_2_l1 le a (i : Int) = _
        unfold sys_Uses_2_l1
        rw [if_pos (ltI hi), if_pos (inI hi)]
        simp only [Int.toNat_natCast]
        split
        · rename_i h; exact step _ (by unfold nmd; rw [h]; rfl)
        · rename_i h
          split
          · rename_i h'; exact step _ (by unfold nmd; rw [h']; rfl)
          · rename_i h'; exact step _ (by unfold nmd; rw [beq_eq_false_iff_ne.2 h, beq_eq_false_iff_ne.2 h']; rfl)
      · split
        · simp; omega
        · omega)
    (by
      intro a hI
      show sys_Uses_2_l1 le a (le.length : Int) = _
      unfold sys_Uses_2_l1
      rw [if_neg (not_ltI _)])
  rw [h1]
  exact usesEnd _ (by omega)

/-- the document's way of putting one number in -/
def insS (n : Int) (s : List Int × Bool) (x : Int) : List Int × Bool :=
  if s.2 then (s.1 ++ [x], true) else if x ≥ n then (if x > n then (s.1 ++ [n] ++ [x], true) else (s.1 ++ [x], true)) else (s.1 ++ [x], false)

theorem insS_true (n : Int) (l : List Int) : ∀ (a : List Int), l.foldl (insS n) (a, true) = (a ++ l, true) := by
  induction l with
  | nil => intro a; simp
  | cons x l ih => intro a; rw [List.foldl_cons]; show l.foldl (insS n) (a ++ [x], true) = _; rw [ih]; simp
theorem insS_false (n : Int) (l : List Int) : ∀ (a : List Int), (let s := l.foldl (insS n) (a, false); if s.2 then s.1 else s.1 ++ [n]) = a ++ ins l n := by
  induction l with
  | nil => intro a; simp [ins]
  | cons x l ih =>
    intro a
    rw [List.foldl_cons]
    by_cases h : x ≥ n
    · by_cases h' : x > n
      · have e : insS n (a, false) x = (a ++ [n] ++ [x], true) := by simp [insS, h, h']
        rw [e, insS_true]
        simp [ins, h, h']
      · have e : insS n (a, false) x = (a ++ [x], true) := by simp [insS, h, h']
        rw [e, insS_true]
        simp [ins, h, h']
    · have e : insS n (a, false) x = (a ++ [x], false) := by simp [insS, h]
      rw [e, ih]
      simp [ins, h]

theorem ins_len (l : List Int) (n : Int) : (ins l n).length ≤ l.length + 1 := by
  induction l with
  | nil => simp [ins]
  | cons x l ih =>
    unfold ins
    split
    · split <;> simp
    · simp; omega

theorem refInsert_eq (l : List Int) (n : Int) (h : l.length ≤ 900000) : ref_insert l n = some (ins l n) := by
  unfold ref_insert
  obtain ⟨h1, h2⟩ := loop_fold (A := List Int × Bool) (T := Int) (O := List Int × Bool) (S := List Int × Bool × Int) (fun a i => (a.1, a.2, i)) (body := fun x => ref_insert_l1 l n x.1 x.2.1 x.2.2) l (insS n)
    (fun i a => a.1.length ≤ i + (if a.2 then 1 else 0)) (fun a => a) ([], false) (by simp)
    (by
      intro i a hi hI
      obtain ⟨a, b⟩ := a
      simp only at hI
      have hlen : a.length ≤ i + 1 := by revert hI; cases b <;> simp <;> omega
      have j2 : ∀ (q : List Int) (c : Bool), q.length ≤ 999999 → ref_insert_j2 l (i : Int) q c = some (.inl (q ++ [l.getD i default], c, ((i + 1 : Nat) : Int))) := by
        intro q c hq
        unfold ref_insert_j2
        rw [if_pos ⟨inI hi, room8 _ (by omega)⟩, wrN i (by omega)]
        rfl
      refine ⟨?_, ?_⟩
      · show ref_insert_l1 l n a b (i : Int) = _
        unfold ref_insert_l1
        rw [if_pos (ltI hi)]
        cases b with
        | true =>
          rw [if_pos rfl]
          unfold ref_insert_j3
          rw [if_neg (by decide), j2 _ _ (by omega)]
          rfl
        | false =>
          rw [if_neg (by decide), if_pos (inI hi)]
          simp only [Int.toNat_natCast]
          unfold ref_insert_j3
          by_cases hge : l.getD i default ≥ n
          · rw [if_pos (by simpa using hge), if_pos (inI hi)]
            simp only [Int.toNat_natCast]
            by_cases hgt : l.getD i default > n
            · rw [if_pos hgt, if_pos (room8 _ (by omega)), j2 _ _ (by simp [lit]; omega)]
              have e : insS n (a, false) (l.getD i default) = (a ++ [n] ++ [l.getD i default], true) := by unfold insS; rw [if_neg (by simp), if_pos hge, if_pos hgt]
              rw [e]; rfl
            · rw [if_neg hgt, j2 _ _ (by omega)]
              have e : insS n (a, false) (l.getD i default) = (a ++ [l.getD i default], true) := by unfold insS; rw [if_neg (by simp), if_pos hge, if_neg hgt]
              rw [e]
          · rw [if_neg (by simpa using hge), j2 _ _ (by omega)]
            have e : insS n (a, false) (l.getD i default) = (a ++ [l.getD i default], false) := by unfold insS; rw [if_neg (by simp), if_neg hge]
            rw [e]
      · have gen : ∀ x : Int, (insS n (a, b) x).1.length ≤ i + 1 + (if (insS n (a, b) x).2 = true then 1 else 0) := by
          intro x
          unfold insS
          cases b with
          | true => simp at hI ⊢; omega
          | false =>
            simp at hI
            by_cases hge : x ≥ n
            · by_cases hgt : x > n
              · simp only [Bool.false_eq_true, if_false, if_pos hge, if_pos hgt]; simp; omega
              · simp only [Bool.false_eq_true, if_false, if_pos hge, if_neg hgt]; simp; omega
            · simp only [Bool.false_eq_true, if_false, if_neg hge]; simp; omega
        exact gen _)
    (by
      intro a hI
      show ref_insert_l1 l n a.1 a.2 (l.length : Int) = _
      unfold ref_insert_l1
      rw [if_neg (not_ltI _)])
  show (loop (fun (x : List Int × Bool × Int) => ref_insert_l1 l n x.1 x.2.1 x.2.2) ([], false, 0)).bind (fun z => ref_insert_j1 n z.1 z.2) = _
  rw [h1]
  have h3 := insS_false n l []
  simp only [List.nil_append] at h3
  have hl := ins_len l n
  rw [← h3] at hl ⊢
  simp only [Option.bind_some]
  unfold ref_insert_j1
  cases hs : (l.foldl (insS n) ([], false)).2 with
  | true => simp
  | false =>
    rw [hs] at h2
    simp only [Bool.false_eq_true, if_false, Nat.add_zero] at h2 ⊢
    rw [if_pos (room8 _ (by omega))]
    rfl

theorem foldl_ins_len (l a : List Int) : (l.foldl ins a).length ≤ a.length + l.length := by
  induction l generalizing a with
  | nil => simp
  | cons x l ih => rw [List.foldl_cons]; have := ih (ins a x); have := ins_len a x; simp; omega

theorem refUses_eq (r : TRule) (ha : r.a.length ≤ 400000) (he : r.e.length ≤ 400000) : ref_Uses r = some (usesOf r.a r.e) := by
  unfold ref_Uses
  obtain ⟨h1, h2⟩ := loop_fold (A := List Int) (T := Int) (O := List Int) (S := List Int × Int) (fun a i => (a, i)) (body := fun x => ref_Uses_l2 r x.1 x.2) r.a ins
    (fun i a => a.length ≤ i) (fun a => a) [] (by simp)
    (by
      intro i a hi hI
      refine ⟨?_, by have := ins_len a (r.a.getD i default); omega⟩
      show ref_Uses_l2 r a (i : Int) = _
      unfold ref_Uses_l2
      rw [if_pos (ltI hi), if_pos (inI hi)]
      simp only [Int.toNat_natCast]
      rw [refInsert_eq _ _ (by omega), wrN i (by omega)]
      rfl)
    (by
      intro a hI
      show ref_Uses_l2 r a (r.a.length : Int) = _
      unfold ref_Uses_l2
      rw [if_neg (not_ltI _)])
  show (loop (fun (x : List Int × Int) => ref_Uses_l2 r x.1 x.2) ([], 0)).bind (fun z => ref_Uses_j1 r z) = _
  rw [h1]
  simp only [Option.bind_some]
  unfold ref_Uses_j1
  obtain ⟨h3, h4⟩ := loop_fold (A := List Int) (T := TPush) (O := List Int) (S := List Int × Int) (fun a i => (a, i)) (body := fun x => ref_Uses_l1 r x.1 x.2) r.e (fun l p => if nmd p then ins l p.v else l)
    (fun i a => a.length ≤ r.a.length + i) (fun a => a) (r.a.foldl ins []) (by simpa using h2)
    (by
      intro i a hi hI
      have hn : ref_named (r.e.getD i default) = some (nmd (r.e.getD i default)) := by
        unfold ref_named nmd
        split
        · rename_i h; rw [h]; rfl
        · rename_i h
          split
          · rename_i h'; rw [h']; rfl
          · rename_i h'; rw [beq_eq_false_iff_ne.2 h, beq_eq_false_iff_ne.2 h']; rfl
      refine ⟨?_, ?_⟩
      · show ref_Uses_l1 r a (i : Int) = _
        unfold ref_Uses_l1
        rw [if_pos (ltI hi), if_pos (inI hi)]
        simp only [Int.toNat_natCast]
        rw [hn, wrN i (by omega)]
        simp only [Option.bind_some]
        cases nmd (r.e.getD i default)
        · rfl
        · simp only [if_true]
          rw [refInsert_eq _ _ (by omega)]
          rfl
      · split
        · have := ins_len a (r.e.getD i default).v; omega
        · omega)
    (by
      intro a hI
      show ref_Uses_l1 r a (r.e.length : Int) = _
      unfold ref_Uses_l1
      rw [if_neg (not_ltI _)])
  show (loop (fun (x : List Int × Int) => ref_Uses_l1 r x.1 x.2) (r.a.foldl ins [], 0)).bind (fun z => ref_Uses_j2 z) = _
  rw [h3]
  have key : ∀ (e : List TPush) (a b : List Int), e.foldl (fun l p => if nmd p then ins l p.v else l) (a.foldl ins b) = (e.foldl (fun l p => if nmd p then l ++ [p.v] else l) a).foldl ins b := by
    intro e
    induction e with
    | nil => intro a b; rfl
    | cons p e ih =>
      intro a b
      rw [List.foldl_cons, List.foldl_cons]
      cases nmd p
      · simp only [Bool.false_eq_true, if_false]; exact ih a b
      · simp only [if_true]
        rw [← ih, List.foldl_append]
        rfl
  rw [key]
  rfl
end Pam

/- Operators: the program and the document tell the same number. -/
namespace Pam
open Go

theorem wrap_ok (n : Int) : okI .i64 (IntKind.wrap .i64 n) := by
  show -9223372036854775808 ≤ IntKind.wrap .i64 n ∧ IntKind.wrap .i64 n ≤ 9223372036854775807
  rw [IntKind.wrap_i64]; omega
theorem wrap_add_mul (x t : Int) : IntKind.wrap .i64 (x + 18446744073709551616 * t) = IntKind.wrap .i64 x := by
  simp only [IntKind.wrap_i64]
  have : (x + 18446744073709551616 * t + 9223372036854775808) = (x + 9223372036854775808) + 18446744073709551616 * t := by omega
  rw [this, Int.add_mul_emod_self_left]
theorem wrap_is (x : Int) : ∃ t, IntKind.wrap .i64 x = x + 18446744073709551616 * t := by
  refine ⟨-((x + 9223372036854775808) / 18446744073709551616), ?_⟩
  rw [IntKind.wrap_i64]; omega
theorem wrap_id {n : Int} (h : okI .i64 n) : IntKind.wrap .i64 n = n := wr h.1 h.2

theorem apply_mod (a b : Int) (ha : okI .i64 a) (hb : b ≠ 0) : okI .i64 (a.tmod b) ∧ IntKind.wrap .i64 (a - IntKind.wrap .i64 (IntKind.wrap .i64 (a.tdiv b) * b)) = a.tmod b := by
  have ha' : -9223372036854775808 ≤ a ∧ a ≤ 9223372036854775807 := ha
  have h1 := Int.mul_tdiv_add_tmod a b
  have hr : okI .i64 (a.tmod b) := by
    show -9223372036854775808 ≤ a.tmod b ∧ a.tmod b ≤ 9223372036854775807
    rcases Int.le_total 0 a with h | h
    · have h2 := Int.tmod_nonneg b h
      have h3 : a.tmod b ≤ a := by
        rw [Int.tmod_eq_emod_of_nonneg h]
        have h4 := Int.mul_ediv_add_emod a b
        have h5 : 0 ≤ b * (a / b) := by
          rcases Int.le_total 0 b with hb0 | hb0
          · exact Int.mul_nonneg hb0 (Int.ediv_nonneg h hb0)
          · exact Int.mul_nonneg_of_nonpos_of_nonpos hb0 (Int.ediv_nonpos_of_nonneg_of_nonpos h hb0)
        omega
      omega
    · have h2 : 0 ≤ (-a).tmod b := Int.tmod_nonneg b (by omega)
      have h3 : (-a).tmod b ≤ -a := by
        rw [Int.tmod_eq_emod_of_nonneg (by omega)]
        have h4 := Int.mul_ediv_add_emod (-a) b
        have h5 : 0 ≤ b * (-a / b) := by
          rcases Int.le_total 0 b with hb0 | hb0
          · exact Int.mul_nonneg hb0 (Int.ediv_nonneg (by omega) hb0)
          · exact Int.mul_nonneg_of_nonpos_of_nonpos hb0 (Int.ediv_nonpos_of_nonneg_of_nonpos (by omega) hb0)
        omega
      rw [Int.neg_tmod] at h2 h3
      omega
  refine ⟨hr, ?_⟩
  obtain ⟨t, ht⟩ := wrap_is (a.tdiv b)
  rw [ht]
  have e1 : (a.tdiv b + 18446744073709551616 * t) * b = a.tdiv b * b + 18446744073709551616 * (t * b) := by rw [Int.add_mul, Int.mul_assoc]
  rw [e1, wrap_add_mul]
  obtain ⟨t2, ht2⟩ := wrap_is (a.tdiv b * b)
  rw [ht2]
  have e2 : a - (a.tdiv b * b + 18446744073709551616 * t2) = a.tmod b + 18446744073709551616 * (-t2) := by rw [Int.mul_comm (a.tdiv b) b]; omega
  rw [e2, wrap_add_mul, wrap_id hr]

/-- an operator of numbers -/
noncomputable def app (k a b : Int) : Int := (sys_Apply k a b).getD 0
theorem apply_eq (k a b : Int) (ha : okI .i64 a) (hb : okI .i64 b) : sys_Apply k a b = some (app k a b) ∧ ref_Apply k a b = some (app k a b) ∧ okI .i64 (app k a b) := by
  have h01 : ∀ c : Bool, (if c = true then some (1 : Int) else some 0) = some (if c = true then 1 else 0) := fun c => by cases c <;> rfl
  have ok01 : ∀ c : Bool, okI .i64 (if c = true then (1 : Int) else 0) := fun c => by cases c <;> exact ⟨by decide, by decide⟩
  have key : ∀ v, sys_Apply k a b = some v → ref_Apply k a b = some v → okI .i64 v → sys_Apply k a b = some (app k a b) ∧ ref_Apply k a b = some (app k a b) ∧ okI .i64 (app k a b) := fun v h1 h2 h3 => by
    have : app k a b = v := by unfold app; rw [h1]; rfl
    rw [this]; exact ⟨h1, h2, h3⟩
  by_cases c1 : k = 1
  · exact key _ (by unfold sys_Apply; rw [if_pos c1]) (by unfold ref_Apply; rw [if_pos c1]) (wrap_ok _)
  by_cases c2 : k = 2
  · exact key _ (by unfold sys_Apply; rw [if_neg c1, if_pos c2]) (by unfold ref_Apply; rw [if_neg c1, if_pos c2]) (wrap_ok _)
  by_cases c3 : k = 3
  · exact key _ (by unfold sys_Apply; rw [if_neg c1, if_neg c2, if_pos c3]) (by unfold ref_Apply; rw [if_neg c1, if_neg c2, if_pos c3]) (wrap_ok _)
  by_cases c4 : k = 4
  · subst c4
    by_cases z : b = 0
    · exact key 0 (by simp [sys_Apply, sys_Apply_j1, sys_divide, z]) (by simp [ref_Apply, z]) ⟨by decide, by decide⟩
    · by_cases z1 : b = -1
      · subst z1
        exact key (IntKind.wrap .i64 (0 - a)) (by simp [sys_Apply, sys_Apply_j1, sys_divide, Int.tdiv_neg, Int.tdiv_one]) (by simp [ref_Apply]) (wrap_ok _)
      · exact key (IntKind.wrap .i64 (a.tdiv b)) (by simp [sys_Apply, sys_Apply_j1, sys_divide, z]) (by simp [ref_Apply, z, z1]) (wrap_ok _)
  by_cases c5 : k = 5
  · subst c5
    by_cases z : b = 0
    · exact key 0 (by simp [sys_Apply, sys_Apply_j1, sys_divide, z]) (by simp [ref_Apply, ref_Apply_j2, z]) ⟨by decide, by decide⟩
    · by_cases z1 : b = -1
      · subst z1
        exact key 0 (by simp [sys_Apply, sys_Apply_j1, sys_divide, Int.tmod_neg, Int.tmod_one]) (by simp [ref_Apply, ref_Apply_j2]) ⟨by decide, by decide⟩
      · obtain ⟨m1, m2⟩ := apply_mod a b ha z
        exact key (a.tmod b) (by simp [sys_Apply, sys_Apply_j1, sys_divide, z]) (by simp only [ref_Apply]; rw [if_neg (by decide), if_neg (by decide), if_neg (by decide), if_neg (by decide), if_neg (by decide), if_pos trivial, if_neg z]; unfold ref_Apply_j2; rw [if_neg (by simpa using z1), if_pos z, m2]) m1
  by_cases c6 : k = 6
  · subst c6
    exact key (if b < a then b else a) (by simp [sys_Apply, sys_Apply_j1]) (by simp only [ref_Apply]; simp; split <;> rfl) (by split <;> assumption)
  by_cases c7 : k = 7
  · subst c7
    exact key (if b > a then b else a) (by simp [sys_Apply, sys_Apply_j1]) (by simp only [ref_Apply]; simp; split <;> rfl) (by split <;> assumption)
  by_cases c8 : k = 8
  · subst c8
    by_cases z : a < b
    · exact key 1 (by simp [sys_Apply, sys_Apply_j1, sys_truth, z]) (by simp [ref_Apply, ref_Apply_j1, z]) ⟨by decide, by decide⟩
    · exact key 0 (by simp [sys_Apply, sys_Apply_j1, sys_truth, z]) (by simp [ref_Apply, ref_Apply_j1, z]) ⟨by decide, by decide⟩
  by_cases c9 : k = 9
  · subst c9
    by_cases z : a = b
    · exact key 1 (by simp [sys_Apply, sys_Apply_j1, sys_truth, z]) (by simp [ref_Apply, ref_Apply_j1, z]) ⟨by decide, by decide⟩
    · exact key 0 (by simp [sys_Apply, sys_Apply_j1, sys_truth, z]) (by simp [ref_Apply, ref_Apply_j1, z]) ⟨by decide, by decide⟩
  by_cases c10 : k = 10
  · subst c10
    by_cases z : a = 0
    · exact key 0 (by simp [sys_Apply, sys_Apply_j1, sys_truth, z]) (by simp [ref_Apply, ref_Apply_j1, z]) ⟨by decide, by decide⟩
    · by_cases z2 : b = 0
      · exact key 0 (by simp [sys_Apply, sys_Apply_j1, sys_truth, z, z2]) (by simp [ref_Apply, ref_Apply_j1, z, z2]) ⟨by decide, by decide⟩
      · exact key 1 (by simp [sys_Apply, sys_Apply_j1, sys_truth, z, z2]) (by simp [ref_Apply, ref_Apply_j1, z, z2]) ⟨by decide, by decide⟩
  by_cases c11 : k = 11
  · subst c11
    by_cases z : a = 0
    · by_cases z2 : b = 0
      · exact key 0 (by simp [sys_Apply, sys_Apply_j1, sys_truth, z, z2]) (by simp [ref_Apply, ref_Apply_j1, z, z2]) ⟨by decide, by decide⟩
      · exact key 1 (by simp [sys_Apply, sys_Apply_j1, sys_truth, z, z2]) (by simp [ref_Apply, ref_Apply_j1, z, z2]) ⟨by decide, by decide⟩
    · exact key 1 (by simp [sys_Apply, sys_Apply_j1, sys_truth, z]) (by simp [ref_Apply, ref_Apply_j1, z]) ⟨by decide, by decide⟩
  by_cases c12 : k = 12
  · subst c12
    by_cases z : a = 0 <;> by_cases z2 : b = 0
    · exact key 0 (by simp [sys_Apply, sys_Apply_j1, sys_truth, z, z2]) (by simp [ref_Apply, ref_Apply_j1, z, z2]) ⟨by decide, by decide⟩
    · exact key 1 (by simp [sys_Apply, sys_Apply_j1, sys_truth, z, z2]) (by simp [ref_Apply, ref_Apply_j1, z, z2]) ⟨by decide, by decide⟩
    · exact key 1 (by simp [sys_Apply, sys_Apply_j1, sys_truth, z, z2]) (by simp [ref_Apply, ref_Apply_j1, z, z2]) ⟨by decide, by decide⟩
    · have e1 : (a != 0) = true := by simp [z]
      have e2 : (b != 0) = true := by simp [z2]
      have e3 : (a == 0) = false := by simp [z]
      have e4 : (b == 0) = false := by simp [z2]
      exact key 0 (by simp [sys_Apply, sys_Apply_j1, sys_truth, e1, e2]) (by simp [ref_Apply, ref_Apply_j1, e3, e4]) ⟨by decide, by decide⟩
  by_cases c13 : k = 13
  · subst c13
    exact key (IntKind.wrap .i64 (0 - a)) (by simp [sys_Apply, sys_Apply_j1]) (by simp [ref_Apply]) (wrap_ok _)
  by_cases c14 : k = 14
  · subst c14
    by_cases z : a = 0
    · exact key 1 (by simp [sys_Apply, sys_Apply_j1, sys_truth, z]) (by simp [ref_Apply, ref_Apply_j1, z]) ⟨by decide, by decide⟩
    · exact key 0 (by simp [sys_Apply, sys_Apply_j1, sys_truth, z]) (by simp [ref_Apply, ref_Apply_j1, z]) ⟨by decide, by decide⟩
  exact key 0 (by simp [sys_Apply, sys_Apply_j1, c1, c2, c3, c4, c5, c6, c7, c8, c9, c10, c11, c12, c13, c14]) (by simp [ref_Apply, ref_Apply_j1, c1, c2, c3, c4, c5, c6, c7, c8, c9, c10, c11, c12, c13, c14]) ⟨by decide, by decide⟩


theorem okI_zero : okI .i64 0 := ⟨by decide, by decide⟩
theorem ok_getD {l : List Int} (h : ∀ y ∈ l, okI .i64 y) (i : Nat) : okI .i64 (l.getD i default) := by
  by_cases hi : i < l.length
  · exact h _ (getD_mem hi)
  · have : l.getD i default = 0 := by simp [List.getD, List.getElem?_eq_none (Nat.le_of_not_lt hi)]
    rw [this]; exact okI_zero
theorem ok_set {l : List Int} {i : Nat} {v : Int} (h : ∀ y ∈ l, okI .i64 y) (hv : okI .i64 v) : ∀ y ∈ l.set i v, okI .i64 y := fun y hy => by
  rcases List.mem_or_eq_of_mem_set hy with h' | rfl
  · exact h y h'
  · exact hv
end Pam

/- The document's first words on systems hold. -/
namespace Pam
open Go

theorem sameInts_refl (l : List Int) (hl : l.length ≤ 9000000) : ref_SameInts l l = some true := by
  unfold ref_SameInts
  rw [if_neg (by simp)]
  rw [loop_upto l.length (fun _ => none) () (fun i hi => by
    simp only [ref_SameInts_l1, Int.toNat_natCast]
    rw [if_pos (ltI hi), if_pos ⟨inI hi, inI hi⟩, if_neg (by simp), wrs i (by omega)]) (by simp [ref_SameInts_l1]), upto_none (fun _ _ => rfl)]
  rfl

theorem begun_uses : usesOf (lit ([4] : List Int)) (lit ([(TPush.mk 3 0 3 0), (TPush.mk 1 0 9 0)] : List TPush)) = [3, 4] := by decide

theorem begun_check : ∃ f : TFault, sys_Check0 (TSystem.mk [] [] (lit ([0] : List Int)) []) = some f ∧ f.code = 16 := by
  refine ⟨TFault.mk 16 (-1), ?_, rfl⟩
  have hd : sys_judge_head (Tjudge.mk (TSystem.mk [] [] (lit ([0] : List Int)) []) 0) = some (TFault.mk 16 (-1)) := by
    unfold sys_judge_head
    rw [if_neg (by simp), if_neg (by simp), if_neg (by simp)]
    unfold sys_judge_head_j1
    rw [if_neg (by simp [lit]), loop_done (o := .inl ()) (by simp [sys_judge_head_l3])]
    show sys_judge_head_j2 _ = _
    unfold sys_judge_head_j2
    rw [loop_done (o := .inl ()) (by simp [sys_judge_head_l2])]
    show sys_judge_head_j3 _ = _
    unfold sys_judge_head_j3
    rw [loop_done (o := .inr (TFault.mk 16 (-1))) (by simp [sys_judge_head_l1, sys_judge_is, lit])]
    rfl
  unfold sys_Check0
  rw [hd]
  rfl

theorem sysBegun0_true : law_sysBegun0 = some true := by
  unfold law_sysBegun0
  have h1 : sys_Apply 4 (-7) 2 = some (-3) := by
    simp only [sys_Apply, sys_Apply_j1, sys_divide]
    decide
  obtain ⟨f, h2, h3⟩ := begun_check
  rw [h1]
  simp only [Option.bind_some, if_true]
  rw [sysUses_eq _ (by simp [lit]) (by simp [lit])]
  simp only [Option.bind_some]
  rw [begun_uses, show (lit ([3, 4] : List Int)) = [3, 4] from rfl, sameInts_refl _ (by simp)]
  simp only [Option.bind_some, if_true]
  rw [h2]
  simp [h3]
end Pam

/- What numbers are. -/
namespace Pam
open Go

theorem num_eq (k a b v : Int) (h : sys_Apply k a b = some v) : law_SysNumbers_1 k a b = some v := by
  unfold law_SysNumbers_1; rw [h]; rfl

theorem a1 (a b : Int) : sys_Apply 1 a b = some (IntKind.wrap .i64 (a + b)) := by unfold sys_Apply; rw [if_pos rfl]
theorem a2' (a b : Int) : sys_Apply 2 a b = some (IntKind.wrap .i64 (a - b)) := by unfold sys_Apply; rw [if_neg (by decide), if_pos rfl]
theorem a4 (a b : Int) : sys_Apply 4 a b = some (if b = 0 then 0 else IntKind.wrap .i64 (a.tdiv b)) := by
  by_cases z : b = 0 <;> simp [sys_Apply, sys_Apply_j1, sys_divide, z]
theorem a5 (a b : Int) : sys_Apply 5 a b = some (if b = 0 then 0 else a.tmod b) := by
  by_cases z : b = 0 <;> simp [sys_Apply, sys_Apply_j1, sys_divide, z]
theorem a6 (a b : Int) : sys_Apply 6 a b = some (if b < a then b else a) := by simp [sys_Apply, sys_Apply_j1]
theorem a7 (a b : Int) : sys_Apply 7 a b = some (if b > a then b else a) := by simp [sys_Apply, sys_Apply_j1]
theorem a8 (a b : Int) : sys_Apply 8 a b = some (if a < b then 1 else 0) := by
  by_cases z : a < b <;> simp [sys_Apply, sys_Apply_j1, sys_truth, z]
theorem a9 (a b : Int) : sys_Apply 9 a b = some (if a = b then 1 else 0) := by
  by_cases z : a = b <;> simp [sys_Apply, sys_Apply_j1, sys_truth, z]
theorem a10 (a b : Int) : sys_Apply 10 a b = some (if a = 0 then 0 else if b = 0 then 0 else 1) := by
  by_cases z : a = 0 <;> by_cases y : b = 0 <;> simp [sys_Apply, sys_Apply_j1, sys_truth, z, y]
theorem a11 (a b : Int) : sys_Apply 11 a b = some (if a = 0 then (if b = 0 then 0 else 1) else 1) := by
  by_cases z : a = 0 <;> by_cases y : b = 0 <;> simp [sys_Apply, sys_Apply_j1, sys_truth, z, y]
theorem a12 (a b : Int) : sys_Apply 12 a b = some (if a = 0 then (if b = 0 then 0 else 1) else (if b = 0 then 1 else 0)) := by
  have hz : (a != 0) = decide (¬ a = 0) := by by_cases z : a = 0 <;> simp [z]
  have hy : (b != 0) = decide (¬ b = 0) := by by_cases z : b = 0 <;> simp [z]
  by_cases z : a = 0 <;> by_cases y : b = 0 <;> simp [sys_Apply, sys_Apply_j1, sys_truth, hz, hy, z, y]
theorem a13 (a b : Int) : sys_Apply 13 a b = some (IntKind.wrap .i64 (0 - a)) := by simp [sys_Apply, sys_Apply_j1]
theorem a14 (a b : Int) : sys_Apply 14 a b = some (if a = 0 then 1 else 0) := by
  by_cases z : a = 0 <;> simp [sys_Apply, sys_Apply_j1, sys_truth, z]

theorem wrap_wrap_sub (a b : Int) (ha : okI .i64 a) : IntKind.wrap .i64 (IntKind.wrap .i64 (a + b) - b) = a := by
  obtain ⟨t, ht⟩ := wrap_is (a + b)
  rw [ht, show a + b + 18446744073709551616 * t - b = a + 18446744073709551616 * t by omega, wrap_add_mul, wrap_id ha]
theorem wrap_neg_neg (a : Int) (ha : okI .i64 a) : IntKind.wrap .i64 (0 - IntKind.wrap .i64 (0 - a)) = a := by
  obtain ⟨t, ht⟩ := wrap_is (0 - a)
  rw [ht, show 0 - (0 - a + 18446744073709551616 * t) = a + 18446744073709551616 * (-t) by omega, wrap_add_mul, wrap_id ha]
theorem wrap_add_neg (a : Int) : IntKind.wrap .i64 (a + IntKind.wrap .i64 (0 - a)) = 0 := by
  obtain ⟨t, ht⟩ := wrap_is (0 - a)
  rw [ht, show a + (0 - a + 18446744073709551616 * t) = 0 + 18446744073709551616 * t by omega, wrap_add_mul, wrap_id ⟨by decide, by decide⟩]

theorem div_part (a b : Int) (ha : okI .i64 a) (hb : b ≠ 0) : IntKind.wrap .i64 (IntKind.wrap .i64 (IntKind.wrap .i64 (a.tdiv b) * b) + a.tmod b) = a := by
  obtain ⟨t, ht⟩ := wrap_is (a.tdiv b)
  have e1 : (a.tdiv b + 18446744073709551616 * t) * b = a.tdiv b * b + 18446744073709551616 * (t * b) := by rw [Int.add_mul, Int.mul_assoc]
  obtain ⟨t2, ht2⟩ := wrap_is (a.tdiv b * b)
  have h1 := Int.mul_tdiv_add_tmod a b
  rw [ht, e1, wrap_add_mul, ht2, show a.tdiv b * b + 18446744073709551616 * t2 + a.tmod b = a + 18446744073709551616 * t2 by rw [Int.mul_comm (a.tdiv b) b]; omega, wrap_add_mul, wrap_id ha]

theorem rest_part (a b : Int) (hb : b > 0) : a.tmod b < b ∧ -b < a.tmod b := by
  have h1 := Int.tmod_lt_of_pos a hb
  have h2 := Int.lt_tmod_of_pos a hb
  exact ⟨h1, h2⟩
theorem sign_part (a b : Int) (hr : a.tmod b ≠ 0) : (decide (a.tmod b < 0)) = decide (a < 0) := by
  by_cases h : a < 0
  · have : (-a).tmod b ≥ 0 := Int.tmod_nonneg b (by omega)
    rw [Int.neg_tmod] at this
    simp [h]; omega
  · have : a.tmod b ≥ 0 := Int.tmod_nonneg b (by omega)
    simp [h]; omega

theorem numbers_j5 (a b : Int) : law_SysNumbers_j5 a b false = some true := by
  unfold law_SysNumbers_j5
  rw [if_neg (by decide), num_eq _ _ _ _ (a8 a b), num_eq _ _ _ _ (a9 a b), a8 b a]
  simp only [Option.bind_some]
  rcases Int.lt_trichotomy a b with h | h | h
  · rw [if_pos h, if_neg (by omega : ¬ a = b), if_neg (by omega : ¬ b < a), if_pos (by decide)]
    have : (a == b) = false := by simpa using (by omega : ¬ a = b)
    rw [this]; rfl
  · subst h
    rw [if_neg (by omega : ¬ a < a), if_pos rfl, if_pos (by decide)]
    simp
  · rw [if_neg (by omega : ¬ a < b), if_neg (by omega : ¬ a = b), if_pos h, if_pos (by decide)]
    have : (a == b) = false := by simpa using (by omega : ¬ a = b)
    rw [this]; rfl

theorem numbers_j4 (a b : Int) : law_SysNumbers_j4 a b false = some true := by
  unfold law_SysNumbers_j4
  rw [if_neg (by decide), a14 a 0, a14 b 0]
  simp only [Option.bind_some]
  rw [num_eq _ _ _ _ (a10 a b), num_eq _ _ _ _ (a11 a b), num_eq _ _ _ _ (a12 a b)]
  by_cases z : a = 0 <;> by_cases y : b = 0
  · simp only [z, y, if_true]
    exact numbers_j5 0 0
  · simp only [z, y, if_true, if_false]
    exact numbers_j5 0 b
  · simp only [z, y, if_true, if_false]
    exact numbers_j5 a 0
  · simp only [z, y, if_false]
    exact numbers_j5 a b

theorem numbers_j3 (a b : Int) (ha : okI .i64 a) : law_SysNumbers_j3 a b false = some true := by
  unfold law_SysNumbers_j3
  rw [if_neg (by decide), num_eq _ _ _ _ (a1 a b)]
  simp only [Option.bind_some]
  rw [a2', a13]
  simp only [Option.bind_some]
  rw [if_neg (fun h => h (wrap_wrap_sub a b ha)), a13]
  simp only [Option.bind_some]
  rw [if_neg (fun h => h (wrap_neg_neg a ha)), a1]
  simp only [Option.bind_some]
  rw [wrap_add_neg]
  exact numbers_j4 a b

theorem numbers_j2 (a b : Int) (ha : okI .i64 a) : law_SysNumbers_j2 a b false = some true := by
  unfold law_SysNumbers_j2
  rw [if_neg (by decide), num_eq _ _ _ _ (a6 a b), num_eq _ _ _ _ (a7 a b)]
  simp only [Option.bind_some]
  have h3 := numbers_j3 a b ha
  rcases Int.lt_trichotomy a b with h | h | h
  · rw [if_neg (by omega : ¬ b < a), if_pos (by omega : b > a)]
    rw [if_neg (by omega : ¬ a > b), if_neg (by simp : ¬ ¬ a = a), if_pos (by omega : ¬ b = a), if_neg (by simp : ¬ ¬ b = b), if_pos rfl, if_neg (by omega : ¬ a = b)]; exact h3
  · subst h
    simp [h3]
  · rw [if_pos (by omega : b < a), if_neg (by omega : ¬ b > a)]
    rw [if_neg (by omega : ¬ b > a), if_pos (by omega : ¬ b = a), if_neg (by simp : ¬ ¬ b = b), if_neg (by simp : ¬ ¬ a = a), if_neg (by omega : ¬ b = a), if_pos rfl]; exact h3

theorem numbers_j1 (a b : Int) (ha : okI .i64 a) (hb : okI .i64 b) : law_SysNumbers_j1 a b (if b = 0 then 0 else a.tmod b) false = some true := by
  unfold law_SysNumbers_j1
  rw [if_neg (by decide)]
  have h2 := numbers_j2 a b ha
  have hb' : -9223372036854775808 ≤ b ∧ b ≤ 9223372036854775807 := hb
  by_cases z : b = 0
  · rw [if_pos z, if_neg (by omega)]
    simp [h2]
  · rw [if_neg z]
    have hs : ∀ hr : ¬ a.tmod b = 0, law_SysNumbers_j2 a b (!((decide (a.tmod b < 0)) == (decide (a < 0)))) = some true := fun hr => by
      rw [sign_part a b hr]; simpa using h2
    by_cases p : b > 0
    · obtain ⟨k1, k2⟩ := rest_part a b p
      rw [if_pos p, if_neg (by omega), wrap_id ⟨by show -9223372036854775808 ≤ 0 - b; omega, by show 0 - b ≤ 9223372036854775807; omega⟩, if_neg (by omega)]
      by_cases hr : a.tmod b = 0
      · rw [if_neg (by simpa using hr)]; exact h2
      · rw [if_pos hr]; exact hs hr
    · rw [if_neg p]
      by_cases hr : a.tmod b = 0
      · rw [if_neg (by simpa using hr)]; exact h2
      · rw [if_pos hr]; exact hs hr

theorem law_SysNumbers_true (a b : Int) (ha : okI .i64 a) (hb : okI .i64 b) (_ : szI a + szI b ≤ 1048576) : law_SysNumbers a b = some true := by
  unfold law_SysNumbers
  rw [sysBegun0_true]
  simp only [Option.bind_some, if_true]
  rw [num_eq _ _ _ _ (a4 a b), num_eq _ _ _ _ (a5 a b)]
  simp only [Option.bind_some]
  have h1 := numbers_j1 a b ha hb
  by_cases z : b = 0
  · subst z
    simpa using h1
  · simp only [z, if_false, not_false_eq_true, if_true]
    rw [if_neg z] at h1
    have := div_part a b ha z
    rw [this]
    simpa using h1
end Pam
