/- Regions whose order is open, with memory set aside and filled that nothing looks at ahead of the region's last operation. -/
import Derived.Test.YtcfgfffidnpciaaQBase2
import Derived.Test.YtcfgfffidnpciaaQBase1
import Derived.Shelf.Sort.Plain
import Derived.Shelf.Slices.In.SortNone
import Derived.Shelf.Slices.In.CompactI
import Derived.Laws.CopyRow
set_option linter.all false
namespace Pam
open Go
def inL (t : Nat) : List Nat → Bool
  | [] => false
  | x :: r => if t = x then true else inL t r
theorem rA {t : Nat} : ∀ {l : List Nat}, inL t l = true → t ∈ l
  | [], h => by cases h
  | x :: r, h => by
    unfold inL at h
    split at h
    · rename_i e; simp [e]
    · simp [rA h]
def oG (o : Oper) (x : Operand) : Oper := { dst := none, op := .move x, type := o.type, pos := o.pos, after := o.after, guard := o.guard }
def mS (ts : List Nat) (o : Oper) : Oper :=
  match o.op with
  | .alloc _ => kk o
  | .store _ (.tmp t) x => if inL t ts = true then oG o x else o
  | _ => o
def dR (ts : List Nat) : List Oper → List Oper
  | [] => []
  | [q] => [kk q]
  | o :: o2 :: r => mS ts o :: dR ts (o2 :: r)
def mm (t : Nat) : List Oper → List Oper
  | [] => []
  | [_] => []
  | o :: o2 :: r => match o.op with | .store _ (.tmp t') _ => (if t' = t then [o] else mm t (o2 :: r)) | _ => mm t (o2 :: r)
def j6 : List Oper → List Oper
  | [] => []
  | [q] => [q]
  | o :: o2 :: r => match o.op, o.dst with | .alloc _, some t => o :: (mm t (o2 :: r) ++ j6 (o2 :: r)) | _, _ => j6 (o2 :: r)
def jD (ts : List Nat) (o : Oper) (T : TypeId) (t : Nat) (x : Operand) : Prop := o.op = .store T (.tmp t) x ∧ inL t ts = true
def yh (l : List Oper) (ts masks : List Nat) (bs : List Bool) : Bool :=
  bs.getD (l.length - 1) false && decide (0 < l.length) && ts.all (· < 512) && (ts.all fun t => l.zipIdx.any fun (y, j) => decide (j + 1 < l.length) && y.dst == some t && xa y) &&
  l.zipIdx.all fun (o, i) =>
    (if i + 1 < l.length then
      (match o.op with
       | .alloc _ => o.guard.isNone && (match o.dst with | some t => decide (t < 512) && inL t ts && (l.zipIdx.all fun (y, j) => j == i || y.dst != some t) | none => false)
       | .store T (.tmp t) x =>
         !inL t ts || (o.guard.isNone && o.dst.isNone && (match x with | .tmp s => !inL s ts && decide (s < 512) && (l.zipIdx.all fun (y, j) => y.dst != some s || decide (j < i)) | _ => false) &&
           (l.zipIdx.any fun (y, j) => decide (j < i) && y.dst == some t && (match y.op with | .alloc T' => decide (T' = T) | _ => false) && (masks.getD i 0).testBit j) &&
           (l.zipIdx.all fun (y, j) => j == i || j + 1 == l.length || (match y.op with | .store _ (.tmp t') _ => t' != t | _ => true)))
       | _ => true)
     else o.dst.isNone && o.guard.isNone) &&
    (match o.guard with | some (g, _) => (match l[g]? with | some y => !xa y | none => true) | none => true)
def yi (l : List Oper) (ts masks : List Nat) (bs : List Bool) : Bool := chk (dR ts l).toArray (dR ts l) masks bs && yh l ts masks bs
structure qr (l : List Oper) (ts masks : List Nat) (bs : List Bool) : Prop where
  bar : bs.getD (l.length - 1) false = true
  pos : 0 < l.length
  small : ∀ t ∈ ts, t < 512
  cov : ∀ t, inL t ts = true → ∃ (j : Nat) (y : Oper) (T : TypeId), l[j]? = some y ∧ j + 1 < l.length ∧ y.op = .alloc T ∧ y.dst = some t
  al : ∀ (i : Nat) (o : Oper) (T : TypeId), l[i]? = some o → i + 1 < l.length → o.op = .alloc T → o.guard = none ∧ ∃ t, o.dst = some t ∧ t < 512 ∧ inL t ts = true ∧ ∀ (j : Nat) (y : Oper), l[j]? = some y → j ≠ i → y.dst ≠ some t
  fl : ∀ (i : Nat) (o : Oper) (T : TypeId) (t : Nat) (x : Operand), l[i]? = some o → i + 1 < l.length → jD ts o T t x → o.guard = none ∧ o.dst = none ∧ ∃ s, x = .tmp s ∧ inL s ts = false ∧ s < 512 ∧
    (∀ (j : Nat) (y : Oper), l[j]? = some y → y.dst = some s → j < i) ∧
    (∃ (j : Nat) (y : Oper), l[j]? = some y ∧ j < i ∧ y.dst = some t ∧ y.op = .alloc T ∧ (masks.getD i 0).testBit j = true) ∧
    ∀ (j : Nat) (y : Oper) (T' : TypeId) (x' : Operand), l[j]? = some y → j ≠ i → j + 1 < l.length → y.op ≠ .store T' (.tmp t) x'
  last : ∀ (i : Nat) (o : Oper), l[i]? = some o → i + 1 = l.length → o.dst = none ∧ o.guard = none
  ref : ∀ (i : Nat) (o : Oper) (g : Nat) (b : Bool) (y : Oper), l[i]? = some o → o.guard = some (g, b) → l[g]? = some y → ∀ T, y.op ≠ .alloc T
theorem xb {l : List Oper} {ts masks : List Nat} {bs : List Bool} (h : yh l ts masks bs = true) : qr l ts masks bs := by
  unfold yh at h
  simp only [Bool.and_eq_true, List.all_eq_true, decide_eq_true_eq] at h
  obtain ⟨⟨⟨⟨h1, h2⟩, h0⟩, hcov⟩, h3⟩ := h
  have m : ∀ (i : Nat) (o : Oper), l[i]? = some o → (o, i) ∈ l.zipIdx := fun i o ho => by
    rw [List.mem_zipIdx_iff_getElem?]; simpa using ho
  refine ⟨h1, h2, h0, ?_, ?_, ?_, ?_, ?_⟩
  · intro t ht
    have := hcov t (rA ht)
    simp only [List.any_eq_true, Bool.and_eq_true, decide_eq_true_eq, beq_iff_eq] at this
    obtain ⟨⟨y, j⟩, hm, ⟨e1, e2⟩, e3⟩ := this
    rw [List.mem_zipIdx_iff_getElem?] at hm
    simp only at e1 e2 e3
    unfold xa at e3
    split at e3
    · rename_i T e; exact ⟨j, y, T, by simpa using hm, e1, e, e2⟩
    · cases e3
  · intro i o T ho hi hop
    have := (h3 _ (m i o ho)).1
    simp only [iP hi, hop, Bool.and_eq_true, Option.isNone_iff_eq_none] at this
    obtain ⟨g, h⟩ := this
    refine ⟨g, ?_⟩
    cases hd : o.dst with
    | none => rw [hd] at h; simp at h
    | some t =>
      rw [hd] at h
      simp only [Bool.and_eq_true, decide_eq_true_eq, List.all_eq_true, Bool.or_eq_true, beq_iff_eq, bne_iff_ne] at h
      refine ⟨t, rfl, h.1.1, h.1.2, fun j y hy hji => ?_⟩
      rcases h.2 _ (m j y hy) with h | h
      · exact (hji h).elim
      · exact h
  · intro i o T t x ho hi hf
    obtain ⟨hop, hin⟩ := hf
    have := (h3 _ (m i o ho)).1
    simp only [iP hi, hop, hin, Bool.not_true, Bool.false_or, Bool.and_eq_true, Option.isNone_iff_eq_none] at this
    obtain ⟨⟨⟨⟨g1, g2⟩, g3⟩, g4⟩, g5⟩ := this
    refine ⟨g1, g2, ?_⟩
    cases x with
    | tmp s =>
      simp only [Bool.and_eq_true, Bool.not_eq_true', decide_eq_true_eq, List.all_eq_true, Bool.or_eq_true, bne_iff_ne] at g3
      refine ⟨s, rfl, g3.1.1, g3.1.2, fun j y hy hd => ?_, ?_, fun j y T' x' hy hji hj hy' => ?_⟩
      · rcases g3.2 _ (m j y hy) with h | h
        · exact (h hd).elim
        · exact h
      · simp only [List.any_eq_true, Bool.and_eq_true, decide_eq_true_eq, beq_iff_eq] at g4
        obtain ⟨⟨y, j⟩, hm, ⟨⟨⟨e1, e2⟩, e3⟩, e4⟩⟩ := g4
        rw [List.mem_zipIdx_iff_getElem?] at hm
        refine ⟨j, y, by simpa using hm, e1, e2, ?_, e4⟩
        split at e3
        · rename_i T' e; rw [e]; simpa using e3
        · cases e3
      · simp only [List.all_eq_true, Bool.or_eq_true, beq_iff_eq] at g5
        have := g5 _ (m j y hy)
        simp only [hy'] at this
        rcases this with (h | h) | h
        · exact hji h
        · omega
        · simp at h
    | const c => simp at g3
    | func f => simp at g3
    | global f => simp at g3
  · intro i o ho hi
    have := (h3 _ (m i o ho)).1
    simp only [iN (by omega : ¬ i + 1 < l.length), Bool.and_eq_true, Option.isNone_iff_eq_none] at this
    exact this
  · intro i o g b y ho hg hy T hop
    have := (h3 _ (m i o ho)).2
    simp [hg, hy, xa, hop] at this
theorem jv (ts : List Nat) : ∀ l : List Oper, (dR ts l).length = l.length
  | [] => rfl
  | [q] => rfl
  | o :: o2 :: r => by simp only [dR, List.length_cons]; rw [jv ts (o2 :: r)]; rfl
theorem iC (ts : List Nat) : ∀ (l : List Oper) (i : Nat) (o : Oper), l[i]? = some o → (dR ts l)[i]? = some (if i + 1 < l.length then mS ts o else kk o)
  | [], i, o, h => by simp at h
  | [q], 0, o, h => by simp at h; subst h; rfl
  | [q], i + 1, o, h => by simp at h
  | a :: o2 :: r, 0, o, h => by simp at h; subst h; simp [dR]
  | a :: o2 :: r, i + 1, o, h => by
    have := iC ts (o2 :: r) i o (by simpa using h)
    simp only [dR, List.getElem?_cons_succ, this, List.length_cons]
    congr 1
    by_cases e : i + 1 < r.length + 1
    · rw [iP e, iP (by omega)]
    · rw [iN e, iN (by omega)]
theorem uq {ts : List Nat} {o : Oper} {T : TypeId} (h : o.op = .alloc T) : mS ts o = kk o := by unfold mS; rw [h]
theorem o7 {ts : List Nat} {o : Oper} {T : TypeId} {t : Nat} {x : Operand} (h : jD ts o T t x) : mS ts o = oG o x := by
  unfold mS; rw [h.1]; simp only; rw [iP h.2]
theorem lF {ts : List Nat} {o : Oper} (h : ∀ T, o.op ≠ .alloc T) (h2 : ∀ T t x, ¬ jD ts o T t x) : mS ts o = o := by
  unfold mS
  split
  · rename_i T e; exact (h T e).elim
  · rename_i T t x e
    split
    · rename_i e2; exact (h2 T t x ⟨e, e2⟩).elim
    · rfl
  · rfl
theorem pN (ts : List Nat) (o : Oper) : (mS ts o).after = o.after ∧ (mS ts o).guard = o.guard := by
  unfold mS
  split
  · exact ⟨rfl, rfl⟩
  · split <;> exact ⟨rfl, rfl⟩
  · exact ⟨rfl, rfl⟩
theorem mJ {ts : List Nat} {l : List Oper} {i : Nat} {o' : Oper} (h : (dR ts l)[i]? = some o') : ∃ o, l[i]? = some o ∧ o' = (if i + 1 < l.length then mS ts o else kk o) ∧ o'.after = o.after ∧ o'.guard = o.guard := by
  have hlt : i < l.length := by rw [← jv ts]; exact (List.getElem?_eq_some_iff.1 h).1
  have e := iC ts l i l[i] (List.getElem?_eq_getElem hlt)
  rw [h] at e
  simp only [sJ] at e
  refine ⟨l[i], List.getElem?_eq_getElem hlt, e, ?_⟩
  rw [e]
  split
  · exact pN _ _
  · exact ⟨rfl, rfl⟩
theorem pO {ts : List Nat} {l : List Oper} {listed : Array Bool} {i : Nat} (h : i ∈ Region.ready .any l.toArray listed) : i ∈ Region.ready .any (dR ts l).toArray listed := by
  obtain ⟨h1, o, ho, h2⟩ := mem_ready.1 h
  have e := iC ts l i o (by simpa using ho)
  obtain ⟨o2, q1, q2, q3, q4⟩ := mJ e
  rw [show l[i]? = some o by simpa using ho] at q1
  simp only [sJ] at q1
  subst q1
  refine mem_ready.2 ⟨h1, _, by simpa using e, fun x hx => ?_⟩
  rw [q3] at hx
  exact h2 x hx
theorem sx {ts : List Nat} {l : List Oper} {listed : Array Bool} {i : Nat} (h : i ∈ Region.ready .any (dR ts l).toArray listed) : i ∈ Region.ready .any l.toArray listed := by
  obtain ⟨h1, o, ho, h2⟩ := mem_ready.1 h
  obtain ⟨o2, q1, q2, q3, q4⟩ := mJ (show (dR ts l)[i]? = some o by simpa using ho)
  exact mem_ready.2 ⟨h1, o2, by simpa using q1, fun x hx => h2 x (by rw [q3]; exact hx)⟩
theorem pP {ts masks : List Nat} {bs : List Bool} {l : List Oper} (v : qr l ts masks bs) {i : Nat} {o o' : Oper} (ho : l[i]? = some o) (ho' : (dR ts l)[i]? = some o') {t : Nat} (h : o'.dst = some t) : o.dst = some t ∧ inL t ts = false := by
  have e := iC ts l i o ho
  rw [ho'] at e
  simp only [sJ] at e
  by_cases hi : i + 1 < l.length
  · rw [iP hi] at e
    by_cases ha : ∃ T, o.op = .alloc T
    · obtain ⟨T, ha⟩ := ha
      rw [uq ha] at e; subst e; cases h
    · by_cases hf : ∃ T t x, jD ts o T t x
      · obtain ⟨T, t', x, hf⟩ := hf
        rw [o7 hf] at e; subst e; cases h
      · rw [lF (fun T e => ha ⟨T, e⟩) (fun T t x e => hf ⟨T, t, x, e⟩)] at e
        subst e
        refine ⟨h, ?_⟩
        cases hin : inL t ts with
        | false => rfl
        | true =>
          obtain ⟨j, y, T, hy, hj, hop, hd⟩ := v.cov t hin
          obtain ⟨_, t', g1, _, _, g2⟩ := v.al j y T hy hj hop
          rw [hd] at g1
          simp only [sJ] at g1
          subst g1
          by_cases e : i = j
          · subst e; rw [ho] at hy; simp only [sJ] at hy; subst hy; exact (ha ⟨T, hop⟩).elim
          · exact (g2 i _ ho e h).elim
  · rw [iN hi] at e; subst e; cases h
section
variable {P : Program}
theorem sy {ts masks : List Nat} {l : List Oper} {bs : List Bool} (v : qr l ts masks bs) {i : Nat} {o : Oper} (ho : l[i]? = some o) (tmps : Array Value) :
    Region.wanted o (yielded (dR ts l).toArray tmps) = Region.wanted o (yielded l.toArray tmps) := by
  unfold Region.wanted
  cases hg : o.guard with
  | none => rfl
  | some gb =>
    obtain ⟨g, b⟩ := gb
    simp only
    have : yielded (dR ts l).toArray tmps g = yielded l.toArray tmps g := by
      unfold yielded
      simp only [List.getElem?_toArray]
      cases hy : l[g]? with
      | none =>
        have : (dR ts l)[g]? = none := by
          rw [List.getElem?_eq_none_iff] at hy ⊢
          rw [jv]; exact hy
        rw [this]
      | some y =>
        rw [iC ts l g y hy]
        by_cases e : g + 1 < l.length
        · rw [iP e]
          by_cases hf : ∃ T t x, jD ts y T t x
          · obtain ⟨T, t, x, hf⟩ := hf
            have := (v.fl g y T t x hy e hf).2.1
            rw [o7 hf]
            simp [oG, this]
          · rw [lF (v.ref i o g b y ho hg hy) (fun T t x e => hf ⟨T, t, x, e⟩)]
        · rw [iN e]
          have := (v.last g y hy (by have := (List.getElem?_eq_some_iff.1 hy).1; omega)).1
          simp [kk, this]
    rw [this]
theorem u6 {ts masks : List Nat} {l : List Oper} {bs : List Bool} (v : qr l ts masks bs) {Q : Exit → Act → World → Prop} {i : Nat} {o : Oper} {K : Act → World → Prop} {a : Act} {w : World} (ho : l[i]? = some o) (hi : i + 1 < l.length) (hn : ∀ T, o.op ≠ .alloc T) (hf : ∀ T t x, ¬ jD ts o T t x)
    (h : wpOp P (dR ts l).toArray Q i K a w) : wpOp P l.toArray Q i (fun a' w' => K a' w' ∧ ∀ t, o.dst ≠ some t → a'.tmps.getD t undef = a.tmps.getD t undef) a w := by
  have e := iC ts l i o ho
  rw [iP hi, lF hn hf] at e
  have h' := sv (o := o) (by simpa using e) h
  unfold wpOp at h' ⊢
  simp only [List.getElem?_toArray, e, ho, sy v ho] at h' ⊢
  exact h'
def vU (P : Program) (ts : List Nat) (l : List Oper) (listed : Array Bool) (a : Act) (T : TypeId) (t : Nat) (x : Obj) : Prop :=
  ((∀ (j : Nat) (y : Oper) (T' : TypeId) (q : Operand), l[j]? = some y → j + 1 < l.length → jD ts y T' t q → listed.getD j false = false) → ∃ inf u, P.info? T = some inf ∧ inf.zero = some u ∧ x = .cells u.cells T) ∧
  ∀ (j : Nat) (y : Oper) (T' : TypeId) (s : Nat), l[j]? = some y → j + 1 < l.length → jD ts y T' t (.tmp s) → listed.getD j false = true → ∃ c, x = .cells c T ∧ c.toList = (a.tmps.getD s undef).cells.toList
def zh (P : Program) (ts : List Nat) (l : List Oper) (G0 G1 : Gh) (listed : Array Bool) (a : Act) : Prop :=
  G1.H = G0.H ∧ G1.own = G0.own ∧ G1.w0 = G0.w0 ∧ G1.na = G0.na ∧ (∀ b x, G0.F b = some x → G1.F b = some x) ∧
  ∃ pb : Nat → Nat,
    (∀ (i j : Nat) (o o' : Oper) (T T' : TypeId), l[i]? = some o → l[j]? = some o' → i + 1 < l.length → j + 1 < l.length → o.op = .alloc T → o'.op = .alloc T' → listed.getD i false = true → listed.getD j false = true → pb i = pb j → i = j) ∧
    ∀ (i : Nat) (o : Oper) (T : TypeId) (t : Nat), l[i]? = some o → i + 1 < l.length → o.op = .alloc T → o.dst = some t → listed.getD i false = true →
      a.tmps.getD t undef = .pointer (some ⟨pb i, 0, none⟩) ∧ G0.F (pb i) = none ∧ ∃ x, G1.F (pb i) = some x ∧ vU P ts l listed a T t x
def StB (P : Program) (ts : List Nat) (l : List Oper) (tr : List TS) (E : Env) (σ : List OB) (G0 : Gh) (listed : Array Bool) (a : Act) (w : World) : Prop :=
  ∃ G1, zh P ts l G0 G1 listed a ∧ StJ (dR ts l) tr E σ G1 listed a w
structure mn (P : Program) (E : Env) (T : TypeId) (s : Nat) : Prop where
  cond : (E.get s).cond = true
  known : bt P T = true
  pos : 0 < P.cellsOf T
  len : (E.get s).v.cells.length = P.cellsOf T
theorem Inv.refill {G : Gh} {σ : List OB} {w : World} (hi : Inv G σ w) {blk : Nat} {c0 : Array Value} {T : TypeId} (c : Array Value) (hF : G.F blk = some (.cells c0 T)) :
    Inv { G with F := fun b => if b = blk then some (.cells c T) else G.F b } σ (w.setRow blk c) := by
  have old : ∀ b, b ≠ blk → (w.setRow blk c).heap[b]? = w.heap[b]? := fun b hb => eY w _ b _ hb
  have hH : G.H blk = none := hi.HF _ _ hF
  constructor
  · intro b y h
    rw [old b (fun e => by subst e; rw [hH] at h; cases h)]; exact hi.hH b y h
  · intro b y h
    simp only at h
    by_cases e : b = blk
    · rw [iP e] at h; rw [e, ← h]; exact ey (hi.hF _ _ hF) c
    · rw [iN e] at h; rw [old b e]; exact hi.hF b y h
  · intro b y h
    simp only at h ⊢
    by_cases e : b = blk
    · rw [e]; exact hH
    · rw [iN e] at h; exact hi.HF b y h
  · exact hi.len
  · intro b ob h
    exact (hi.own b ob h).keep (fun _ _ h => h) (bl.refl _) rfl fun o ho hh => old _ (fun e => by have := (hi.sep b o ho hh).2; rw [e, hF] at this; cases this)
  · exact hi.inj
  · intro b o h hh
    have := (hi.sep b o h hh).2
    refine ⟨(hi.sep b o h hh).1, ?_⟩
    simp only
    rw [iN (fun e => by rw [e, hF] at this; cases this)]
    exact this
  · exact hi.os
  · exact hi.tape
  · exact hi.output
  · exact Nat.le_trans hi.grow (by simp [World.setRow])
theorem vV {listed : Array Bool} {l : List Oper} (hsz : listed.size = l.length) {i : Nat} (hil : i < l.length) (j : Nat) : (listed.setIfInBounds i true).getD j false = if j = i then true else listed.getD j false := tm _ _ _ (by omega)
theorem StB.step {ts : List Nat} {l : List Oper} {bs : List Bool} {masks : List Nat} {E : Env} {σ : List OB} {tr : List TS} (c : Chk (dR ts l).toArray (dR ts l) masks bs) (v : qr l ts masks bs) (ht : lN P (dR ts l).toArray (dR ts l) bs E σ tr)
    (hE : ∀ t, inL t ts = true → (E.get t).cond = false) (hz : ∀ (i : Nat) (o : Oper) (T : TypeId), l[i]? = some o → i + 1 < l.length → o.op = .alloc T → (∃ z, iv P T = some z) ∧ cy E o.dst)
    (hfl : ∀ (i : Nat) (o : Oper) (T : TypeId) (t s : Nat), l[i]? = some o → i + 1 < l.length → jD ts o T t (.tmp s) → mn P (ce E (dR ts l) tr (dR ts l).length) T s)
    (G0 : Gh) {Q : Exit → Act → World → Prop} (listed : Array Bool) (a : Act) (w : World) (i : Nat)
    (hJ : StB P ts l tr E σ G0 listed a w) (hi : i ∈ Region.ready .any l.toArray listed) (hlt : i + 1 < l.length) : wpOp P l.toArray Q i (StB P ts l tr E σ G0 (listed.setIfInBounds i true)) a w := by
  obtain ⟨G1, ⟨p1, p2, p3, p4, p5, pb, p6, p7⟩, hS⟩ := hJ
  have hsz : listed.size = l.length := by rw [hS.1, jv]
  obtain ⟨hi0, hil, o, ho, hr⟩ := jK hsz hi
  have hset := vV hsz hil
  have hcl := hS.2.1
  have hvi := iC ts l i o ho
  rw [iP hlt] at hvi
  have hr' : ∀ j ∈ dj (mS ts o), listed.getD j false = true := by
    intro j hj
    have : dj (mS ts o) = dj o := by unfold dj; rw [(pN ts o).1]
    rw [this] at hj; exact hr j hj
  have hbehind : ∀ (j : Nat) (y : Oper) (T : TypeId) (t s : Nat), l[j]? = some y → j + 1 < l.length → jD ts y T t (.tmp s) → listed.getD j false = true → (mS ts o).dst ≠ some s := by
    intro j y T t s hy hj hf hl hd
    have hvj := iC ts l j y hy
    rw [iP hj, o7 hf] at hvj
    obtain ⟨_, _, s', e, _, _, g, _⟩ := v.fl j y T t _ hy hj hf
    simp only [Operand.tmp.injEq] at e
    subst e
    have hlt' : i < j := g i o ho (pP v ho hvi hd).1
    have hh := c.hit i j _ _ hvi hvj (by simp [rY, hd, Oper.looksAt, oG, Op.operands])
    simp only [js, Bool.or_eq_true, beq_iff_eq] at hh
    rcases hh with (h | h) | h
    · omega
    · have := (c.bit hcl i _ hvi j h).1; omega
    · have := (c.bit hcl j _ hvj i h).2 hl
      rw [hi0] at this; cases this
  have keepH : ∀ (a' : Act) (T : TypeId) (t : Nat) (x : Obj), (∀ (j : Nat) (y : Oper) (T' : TypeId) (s : Nat), l[j]? = some y → j + 1 < l.length → jD ts y T' t (.tmp s) → listed.getD j false = true → a'.tmps.getD s undef = a.tmps.getD s undef) →
      (∀ (q : Operand) (T' : TypeId), ¬ jD ts o T' t q) → vU P ts l listed a T t x → vU P ts l (listed.setIfInBounds i true) a' T t x := by
    intro a' T t x h1 h2 ⟨k1, k2⟩
    refine ⟨fun h => k1 fun j y T' q hy hj hf => ?_, fun j y T' s hy hj hf hl => ?_⟩
    · have := h j y T' q hy hj hf
      rw [hset] at this
      split at this
      · cases this
      · exact this
    · rw [hset] at hl
      have nj : j ≠ i := fun e => by subst e; rw [ho] at hy; simp only [sJ] at hy; subst hy; exact h2 _ _ hf
      rw [iN nj] at hl
      obtain ⟨cc, e1, e2⟩ := k2 j y T' s hy hj hf hl
      exact ⟨cc, e1, by rw [e2, h1 j y T' s hy hj hf hl]⟩
  by_cases hn : ∀ T, o.op ≠ .alloc T
  · by_cases hf : ∀ T t x, ¬ jD ts o T t x
    ·
      have h1 := StJ.step (Q := Q) c ht G1 listed a w i hS (pO hi)
      rw [lF hn hf] at hbehind
      refine wpOp_mono (fun a' w' h => ?_) (u6 v ho hlt hn hf h1)
      obtain ⟨h2, h3⟩ := h
      refine ⟨G1, ⟨p1, p2, p3, p4, p5, pb, ?_, ?_⟩, h2⟩
      · intro j k y y' T T' hy hy' hj hk hop hop' hl hl'
        rw [hset] at hl hl'
        have nj : j ≠ i := fun e => by subst e; rw [ho] at hy; simp only [sJ] at hy; subst hy; exact hn T hop
        have nk : k ≠ i := fun e => by subst e; rw [ho] at hy'; simp only [sJ] at hy'; subst hy'; exact hn T' hop'
        rw [iN nj] at hl
        rw [iN nk] at hl'
        exact p6 j k y y' T T' hy hy' hj hk hop hop' hl hl'
      · intro j y T t hy hj hop hd hl
        rw [hset] at hl
        have nj : j ≠ i := fun e => by subst e; rw [ho] at hy; simp only [sJ] at hy; subst hy; exact hn T hop
        rw [iN nj] at hl
        obtain ⟨q1, q2, x, q3, q4⟩ := p7 j y T t hy hj hop hd hl
        obtain ⟨_, t', g1, _, _, g4⟩ := v.al j y T hy hj hop
        rw [hd] at g1
        simp only [sJ] at g1
        subst g1
        exact ⟨(h3 t (g4 i o ho (fun e => nj e.symm))).trans q1, q2, x, q3, keepH a' T t x (fun k z T' s hz' hk hfz hlz => h3 s (hbehind k z T' t s hz' hk hfz hlz)) (fun q T' => hf T' t q) q4⟩
    ·
      obtain ⟨T, t, q, hf⟩ : ∃ T t q, jD ts o T t q := Classical.byContradiction fun h => hf fun T t q e => h ⟨T, t, q, e⟩
      obtain ⟨hg, hd, s, rfl, hs1, hs2, hs3, ⟨i0, y0, hy0, hi0i, hd0, hop0, hbit⟩, huniq⟩ := v.fl i o T t q ho hlt hf
      rw [o7 hf] at hvi hr'
      have hv0 := iC ts l i0 y0 hy0
      have hl0 : listed.getD i0 false = true := by
        rw [c.done hcl hvi hi0 hr' hv0 (.inl (by simp only [js, Bool.or_eq_true]; exact .inl (.inr hbit)))]; simpa using hi0i
      obtain ⟨q1, q2, x, q3, q4, _⟩ := p7 i0 y0 T t hy0 (by omega) hop0 hd0 hl0
      obtain ⟨inf, u, e1, e2, rfl⟩ := q4 (fun j y T' x' hy hj hfy => by
        by_cases e : j = i
        · subst e; exact hi0
        · exact (huniq j y T' x' hy e hj hfy.1).elim)
      obtain ⟨⟨z, hzT⟩, _⟩ := hz i0 y0 T hy0 (by omega) hop0
      obtain ⟨hsz', _, G, p, hG, hp, hloud, hinv, hdef, htm, hna, hslot⟩ := hS
      obtain ⟨inf', u', e1', e2', e3, e4, _, _⟩ := gK G hzT
      rw [e1] at e1'; simp only [sJ] at e1'; subst e1'
      rw [e2] at e2'; simp only [sJ] at e2'; subst e2'
      have hFG : G.F = G1.F := hG.le.F
      have fo := hfl i o T t s ho hlt hf
      obtain ⟨htl, _⟩ := ht.at
      have hsl : (ce E (dR ts l) tr (dR ts l).length).get s = eO s (dR ts l) tr (fun j => listed.getD j false) (E.get s) := by
        rw [mF s (dR ts l) tr E _ (fun j o x hj hd => c.dst j o hj x hd) htl]
        apply e9
        intro j y hy hyd
        have hjl := (List.getElem?_eq_some_iff.1 hy).1
        obtain ⟨y1, hy1, _⟩ := mJ hy
        have hji := hs3 j y1 hy1 (pP v hy1 hy hyd).1
        have := c.done hcl hvi hi0 hr' hy (.inr (c.hit j i _ _ hy hvi (by simp [rY, hyd, Oper.looksAt, oG, Op.operands])))
        rw [this]; simp; omega
      have hrep := hslot s hs2 (by rw [← hsl]; exact fo.cond)
      rw [← hsl] at hrep
      have hcells := jf hrep (by rw [fo.len]; exact fo.pos)
      have hlen : (a.tmps.getD s undef).cells.size = P.cellsOf T := by have := hcells.length; rw [fo.len] at this; simpa using this.symm
      have hheap : w.heap[pb i0]? = some (.cells u.cells T) := hinv.hF _ _ (by rw [hFG]; exact q3)
      have hst := lX (P := P) (w := w) fo.known (pb i0) 0 T (0, 0) u.cells hheap (.inl rfl) (a.tmps.getD s undef) hlen (by omega) (m8 hcells)
      have hrow : ((u.cells.toList.take 0 ++ (a.tmps.getD s undef).cells.toList ++ u.cells.toList.drop (0 + (a.tmps.getD s undef).cells.toList.length)).toArray) = (a.tmps.getD s undef).cells := by
        have : u.cells.toList.drop (0 + (a.tmps.getD s undef).cells.toList.length) = [] := by
          apply List.drop_eq_nil_of_le
          rw [Array.length_toList, Array.length_toList]; omega
        rw [this]; simp
      rw [hrow] at hst
      have hev : a.eval (.tmp t) = .pointer (some ⟨pb i0, 0, none⟩) := q1
      have hev2 : a.eval (.tmp s) = a.tmps.getD s undef := rfl
      have hrun : (execOp a.eval o).run P w = .ok .skip (w.setRow (pb i0) (a.tmps.getD s undef).cells) := by
        simp only [execOp, hf.1, hev, hev2, Sem.run_bind, hst, Result.andThen_ok, Sem.run_pure]
      unfold wpOp
      simp only [List.getElem?_toArray, ho]
      rw [iP (by unfold Region.wanted; rw [hg])]
      left
      unfold Oper.wp
      rw [hrun]
      show StB P ts l tr E σ G0 (listed.setIfInBounds i true) (a.put o.dst undef) _
      rw [hd]
      show StB P ts l tr E σ G0 (listed.setIfInBounds i true) a _
      have hneal : ∀ (j : Nat) (y : Oper) (T' : TypeId), l[j]? = some y → y.op = .alloc T' → j ≠ i := fun j y T' hy hop e => by
        subst e; rw [ho] at hy; simp only [sJ] at hy; subst hy; exact hn T' hop
      refine ⟨{ G1 with F := fun b => if b = pb i0 then some (.cells (a.tmps.getD s undef).cells T) else G1.F b }, ⟨p1, p2, p3, p4, ?_, pb, ?_, ?_⟩, ?_⟩
      · intro b y hb
        simp only
        rw [iN (fun e => by rw [e, q2] at hb; cases hb)]
        exact p5 b y hb
      · intro j k y y' T1 T2 hy hy' hj hk hop1 hop2 hl hl' he
        rw [hset, iN (hneal j y T1 hy hop1)] at hl
        rw [hset, iN (hneal k y' T2 hy' hop2)] at hl'
        exact p6 j k y y' T1 T2 hy hy' hj hk hop1 hop2 hl hl' he
      · intro j y T' t' hy hj hop' hd' hl
        rw [hset, iN (hneal j y T' hy hop')] at hl
        by_cases ej : j = i0
        · subst ej
          rw [hy0] at hy
          simp only [sJ] at hy
          subst hy
          rw [hd0] at hd'
          simp only [sJ] at hd'
          subst hd'
          rw [hop0] at hop'
          simp only [Op.alloc.injEq] at hop'
          subst hop'
          refine ⟨q1, q2, .cells (a.tmps.getD s undef).cells T, by simp, fun h => ?_, fun k z T' s' hz' hk hfz hlz => ?_⟩
          · have := h i o T _ ho hlt hf
            rw [hset, iP rfl] at this; cases this
          · by_cases ek : k = i
            · subst ek
              rw [ho] at hz'
              simp only [sJ] at hz'
              subst hz'
              have := hf.1.symm.trans hfz.1
              simp only [Op.store.injEq, Operand.tmp.injEq, true_and] at this
              obtain ⟨_, rfl⟩ := this
              exact ⟨_, rfl, rfl⟩
            · exact (huniq k z T' _ hz' ek hk hfz.1).elim
        · obtain ⟨r1, r2, x', r3, r4⟩ := p7 j y T' t' hy hj hop' hd' hl
          have hpb : pb j ≠ pb i0 := fun e => ej (p6 j i0 y y0 T' T hy hy0 hj (by omega) hop' hop0 hl hl0 e)
          have htt : t' ≠ t := by
            intro e
            subst e
            obtain ⟨_, t2, g1, _, _, g4⟩ := v.al j y T' hy hj hop'
            rw [hd'] at g1
            simp only [sJ] at g1
            subst g1
            exact g4 i0 y0 hy0 (fun e => ej e.symm) hd0
          refine ⟨r1, r2, x', by simp only; rw [iN hpb]; exact r3, keepH a T' t' x' (fun _ _ _ _ _ _ _ _ => rfl) (fun q T2 hq => ?_) r4⟩
          have := hf.1.symm.trans hq.1
          simp only [Op.store.injEq, Operand.tmp.injEq] at this
          exact htt this.2.1.symm
      · refine ⟨by simpa using hsz', ?_, { G with F := fun b => if b = pb i0 then some (.cells (a.tmps.getD s undef).cells T) else G.F b }, p, ⟨⟨hG.le.H, ?_, hG.le.w0, hG.le.na⟩, hG.own⟩, hp, ?_, hinv.refill _ (by rw [hFG]; exact q3), hdef, htm, hna, ?_⟩
        · intro k ok hk hdn j hj
          simp only at hdn ⊢
          rw [hset] at hdn ⊢
          by_cases e : k = i
          · subst e; rw [hvi] at hk; simp only [sJ] at hk; subst hk
            by_cases e' : j = k
            · rw [iP e']
            · rw [iN e']; exact hr' j hj
          · rw [iN e] at hdn
            by_cases e' : j = i
            · rw [iP e']
            · rw [iN e']; exact hcl k ok hk hdn j hj
        · funext b; simp only [hFG]
        · intro j y hy hly
          rw [hset]
          by_cases e : j = i
          · subst e; rw [hvi] at hy; simp only [sJ] at hy; subst hy; simp [e8, oG] at hly
          · rw [iN e]; exact hloud j y hy hly
        · intro t' ht' hc
          have hfun : (fun k => (listed.setIfInBounds i true).getD k false) = (fun k => if k = i then true else listed.getD k false) := by
            funext k; exact hset k
          rw [hfun] at hc ⊢
          rw [kv t' (dR ts l) tr _ _ i _ hvi (by simp [oG])] at hc ⊢
          exact aR.mono (G := G) (G' := { G with F := fun b => if b = pb i0 then some (.cells (a.tmps.getD s undef).cells T) else G.F b }) (fun _ _ h => h) (bl.refl _) (hslot t' ht' hc)
  ·
    obtain ⟨T, hop⟩ : ∃ T, o.op = .alloc T := Classical.byContradiction fun h => hn fun T e => h ⟨T, e⟩
    obtain ⟨hg, t, hd, ht512, hts, huniq⟩ := v.al i o T ho hlt hop
    obtain ⟨⟨z, hzT⟩, hdok⟩ := hz i o T ho hlt hop
    obtain ⟨hsz', _, G, p, hG, hp, hloud, hinv, hdef, htm, hna, hslot⟩ := hS
    obtain ⟨inf, u, e1, e2, e3, e4, _, e5⟩ := gK G hzT
    have hFG : G.F = G1.F := hG.le.F
    rw [uq hop] at hvi hr'
    have hrun : (execOp a.eval o).run P w = .ok (.value (.pointer (some ⟨w.heap.size, 0, none⟩))) (w.alloc (.cells u.cells T)) := by
      simp [execOp, hop, Instr.alloc, gJ e1 e2, newVar, newRow]
    have notf : ∀ (q : Operand) (T' : TypeId) (t' : Nat), ¬ jD ts o T' t' q := fun q T' t' h => by have := hop.symm.trans h.1; cases this
    unfold wpOp
    simp only [List.getElem?_toArray, ho]
    rw [iP (by unfold Region.wanted; rw [hg])]
    left
    unfold Oper.wp
    rw [hrun]
    show StB P ts l tr E σ G0 (listed.setIfInBounds i true) (a.put o.dst _) _
    rw [hd]
    have hfree : ∀ j y, l[j]? = some y → j + 1 < l.length → (∃ T, y.op = .alloc T) → listed.getD j false = true → pb j ≠ w.heap.size := by
      intro j y hy hj ⟨T', hop'⟩ hl e
      obtain ⟨_, t', g1, _⟩ := v.al j y T' hy hj hop'
      obtain ⟨_, _, _, q, _⟩ := p7 j y T' t' hy hj hop' g1 hl
      rw [← hFG] at q
      have := bU (hinv.hF _ _ q)
      omega
    have hput : ∀ t', t' ≠ t → (a.put (some t) (.pointer (some ⟨w.heap.size, 0, none⟩))).tmps.getD t' undef = a.tmps.getD t' undef := by
      intro t' hne
      simp only [Act.put, Array.getD_eq_getD_getElem?]
      rw [Array.getElem?_setIfInBounds_ne (Ne.symm hne)]
    refine ⟨{ G1 with F := fun b => if b = w.heap.size then some (.cells u.cells T) else G1.F b }, ⟨p1, p2, p3, p4, ?_, fun j => if j = i then w.heap.size else pb j, ?_, ?_⟩, ?_⟩
    · intro b x hb
      have h1 := p5 b x hb
      simp only
      rw [iN]
      · exact h1
      · intro e
        rw [← hFG] at h1
        have := bU (hinv.hF _ _ h1)
        omega
    · intro j k y y' T1 T2 hy hy' hj hk hop1 hop2 hl hl' he
      rw [hset] at hl hl'
      simp only at he
      by_cases nj : j = i <;> by_cases nk : k = i
      · omega
      · rw [iP nj, iN nk] at he; rw [iN nk] at hl'
        exact (hfree k y' hy' hk ⟨T2, hop2⟩ hl' he.symm).elim
      · rw [iN nj, iP nk] at he; rw [iN nj] at hl
        exact (hfree j y hy hj ⟨T1, hop1⟩ hl he).elim
      · rw [iN nj, iN nk] at he; rw [iN nj] at hl; rw [iN nk] at hl'
        exact p6 j k y y' T1 T2 hy hy' hj hk hop1 hop2 hl hl' he
    · intro j y T' t' hy hj hop' hd' hl
      rw [hset] at hl
      by_cases nj : j = i
      · subst nj
        rw [ho] at hy
        simp only [sJ] at hy
        subst hy
        rw [hd] at hd'
        simp only [sJ] at hd'
        subst hd'
        rw [hop] at hop'
        simp only [Op.alloc.injEq] at hop'
        subst hop'
        simp only [if_true]
        refine ⟨?_, ?_, _, rfl, fun _ => ⟨inf, u, e1, e2, rfl⟩, fun k z T' s' hz' hk hfz hlz => ?_⟩
        · have : t < a.tmps.size := by
            rw [htm]
            rw [hd] at hdok
            exact hdok
          simp [Act.put, Array.getD, this]
        · cases hx : G0.F w.heap.size with
          | none => rfl
          | some x =>
            have h1 := p5 _ _ hx
            rw [← hFG] at h1
            have := bU (hinv.hF _ _ h1)
            omega
        · exfalso
          rw [hset] at hlz
          have nk : k ≠ j := fun e => by subst e; rw [ho] at hz'; simp only [sJ] at hz'; subst hz'; exact notf _ _ _ hfz
          rw [iN nk] at hlz
          obtain ⟨_, _, _, _, _, _, _, ⟨i1, y1, hy1, _, hd1, _, hbit⟩, _⟩ := v.fl k z T' t _ hz' hk hfz
          have e : i1 = j := Classical.byContradiction fun e => huniq i1 y1 hy1 e hd1
          subst e
          have := (c.bit hcl k _ (iC ts l k z hz') i1 hbit).2 hlz
          rw [hi0] at this; cases this
      · rw [iN nj] at hl
        obtain ⟨q1, q2, x, q3, q4⟩ := p7 j y T' t' hy hj hop' hd' hl
        simp only [iN nj]
        have hne : t' ≠ t := fun e => huniq j y hy nj (by rw [hd', e])
        refine ⟨(hput t' hne).trans q1, q2, x, ?_, keepH _ T' t' x (fun k z T2 s hz' hk hfz hlz => hput s (fun e => ?_)) (fun q T2 => notf q T2 t') q4⟩
        · rw [iN (hfree j y hy hj ⟨T', hop'⟩ hl)]
          exact q3
        · obtain ⟨_, _, s', e', hs', _⟩ := v.fl k z T2 t' _ hz' hk hfz
          simp only [Operand.tmp.injEq] at e'
          subst e'
          rw [e, hts] at hs'; cases hs'
    · refine ⟨by simpa using hsz', ?_, { G with F := fun b => if b = w.heap.size then some (.cells u.cells T) else G.F b }, p, ⟨⟨hG.le.H, ?_, hG.le.w0, hG.le.na⟩, hG.own⟩, hp, ?_, hinv.aside _, hdef, by simpa [Act.put] using htm, hna, ?_⟩
      · intro k ok hk hdn j hj
        simp only at hdn ⊢
        rw [hset] at hdn ⊢
        by_cases e : k = i
        · subst e; rw [hvi] at hk; simp only [sJ] at hk; subst hk
          by_cases e' : j = k
          · rw [iP e']
          · rw [iN e']; exact hr' j hj
        · rw [iN e] at hdn
          by_cases e' : j = i
          · rw [iP e']
          · rw [iN e']; exact hcl k ok hk hdn j hj
      · funext b; simp only [hFG]
      · intro j y hy hly
        rw [hset]
        by_cases e : j = i
        · subst e; rw [hvi] at hy; simp only [sJ] at hy; subst hy; simp [e8, kk] at hly
        · rw [iN e]; exact hloud j y hy hly
      · intro t' ht' hc
        have hfun : (fun k => (listed.setIfInBounds i true).getD k false) = (fun k => if k = i then true else listed.getD k false) := by
          funext k; exact hset k
        rw [hfun] at hc ⊢
        rw [kv t' (dR ts l) tr _ _ i _ hvi (by simp [kk])] at hc ⊢
        by_cases e : t' = t
        · subst e
          have hk : eO t' (dR ts l) tr (fun k => listed.getD k false) (E.get t') = E.get t' := by
            have hno : ∀ (j : Nat) (y : Oper), (dR ts l)[j]? = some y → y.dst = some t' → False := by
              intro j y hy hyd
              obtain ⟨y0, g1, _⟩ := mJ hy
              have := (pP v g1 hy hyd).2
              rw [hts] at this; cases this
            rw [e9 t' (dR ts l) tr _ (fun _ => false) _ (fun j y hy hyd => (hno j y hy hyd).elim)]
            exact jg t' (dR ts l) tr _ _ fun _ _ _ _ => rfl
          rw [hk, hE t' hts] at hc
          cases hc
        · rw [hput t' e]
          exact aR.mono (G := G) (G' := { G with F := fun b => if b = w.heap.size then some (.cells u.cells T) else G.F b }) (fun _ _ h => h) (bl.refl _) (hslot t' ht' hc)
theorem u7 {ops : Array Oper} {x : Oper} {T : TypeId} {rest : List Oper} {E : Env} {σ : List OB} {k : Env → List OB → Prop} {kp : PV → Env → List OB → Prop} (hx : x.op = .alloc T) (hg : x.guard = none) (h : dA P ops (x :: rest) E σ k kp) :
    ∃ z, iv P T = some z ∧ cy E x.dst ∧ dA P ops rest (E.putD x.dst ⟨true, .c (.optr σ.length 0)⟩) (σ ++ [.box z]) k kp := by
  unfold dA at h
  simp only [dC, hg, bn, hx, kC] at h
  split at h
  · rename_i z hz
    simp only [nG] at h
    exact ⟨z, hz, h.1, h.2.2⟩
  · simp only [nG] at h
theorem vW {ops : Array Oper} {y : Oper} {T : TypeId} {t s : Nat} {z : List CV} {rest : List Oper} {E : Env} {σ : List OB} {k : Env → List OB → Prop} {kp : PV → Env → List OB → Prop} (hy : y.op = .store T (.tmp t) (.tmp s)) (hg : y.guard = none) (hd : y.dst = none) (ht : t < 512) (hst : s ≠ t)
    (hz : iv P T = some z) (h : dA P ops (y :: rest) (E.putD (some t) ⟨true, .c (.optr σ.length 0)⟩) (σ ++ [.box z]) k kp) :
    mn P E T s ∧ dA P ops rest (E.putD (some t) ⟨true, .c (.optr σ.length 0)⟩) (σ ++ [.box (E.get s).v.cells]) k kp := by
  obtain ⟨inf, u, e1, e2, e3, e4, _, e5⟩ := gK ⟨fun _ => none, fun _ => none, [], default, 0⟩ hz
  have hzl : z.length = P.cellsOf T := by have := e5.length; simp at this; omega
  unfold dA at h
  have g1 : ev (E.putD (some t) ⟨true, .c (.optr σ.length 0)⟩) (.tmp t) = ⟨true, .c (.optr σ.length 0)⟩ := by
    show (E.put t _).get t = _
    rw [Env.get_put' E t t _ ht, iP rfl]
  have g2 : ev (E.putD (some t) ⟨true, .c (.optr σ.length 0)⟩) (.tmp s) = E.get s := by
    show (E.put t _).get s = _
    rw [Env.get_put' E t s _ ht, iN hst]
  have g3 : (σ ++ [OB.box z])[σ.length]? = some (.box z) := by simp
  simp only [dC, hg, bn, hy, g1, g2, jT, g3, nG] at h
  obtain ⟨_, ⟨_, c2, c3, c4, c5, c6⟩, h⟩ := h
  refine ⟨⟨c2, c3, c4, c5⟩, ?_⟩
  rw [hd] at h
  have : (σ ++ [OB.box z]).set σ.length (.box (dS z 0 (E.get s).v.cells)) = σ ++ [.box (E.get s).v.cells] := by
    have e : dS z 0 (E.get s).v.cells = (E.get s).v.cells := by
      unfold dS
      rw [List.take_zero, List.nil_append, List.drop_eq_nil_of_le (by omega), List.append_nil]
    rw [e, List.set_append_right _ _ (Nat.le_refl _)]
    simp
  rw [this] at h
  exact h
theorem oH (t : Nat) : ∀ r : List Oper, (mm t r = [] ∧ ∀ (j : Nat) (y : Oper) (T : TypeId) (x : Operand), r[j]? = some y → j + 1 < r.length → y.op ≠ .store T (.tmp t) x) ∨
    ∃ (j : Nat) (y : Oper) (T : TypeId) (x : Operand), r[j]? = some y ∧ j + 1 < r.length ∧ y.op = .store T (.tmp t) x ∧ mm t r = [y]
  | [] => .inl ⟨rfl, fun j y T x h => by simp at h⟩
  | [q] => .inl ⟨rfl, fun j y T x _ h => by simp at h⟩
  | o :: o2 :: r => by
    have rest : (∀ T x, o.op ≠ .store T (.tmp t) x) → mm t (o :: o2 :: r) = mm t (o2 :: r) := by
      intro hn
      unfold mm
      split
      · rename_i T t' x e
        by_cases ht : t' = t
        · subst ht; exact (hn T x e).elim
        · rw [iN ht]
          cases r <;> rfl
      · cases r <;> rfl
    by_cases hf : ∃ T x, o.op = .store T (.tmp t) x
    · obtain ⟨T, x, hf⟩ := hf
      exact .inr ⟨0, o, T, x, rfl, by simp, hf, by unfold mm; simp only [hf, if_true]⟩
    · have hn : ∀ T x, o.op ≠ .store T (.tmp t) x := fun T x e => hf ⟨T, x, e⟩
      rw [rest hn]
      rcases oH t (o2 :: r) with ⟨h1, h2⟩ | ⟨j, y, T, x, h1, h2, h3, h4⟩
      · refine .inl ⟨h1, fun j y T x hy hj => ?_⟩
        cases j with
        | zero => simp at hy; subst hy; exact hn T x
        | succ j => exact h2 j y T x (by simpa using hy) (by simp at hj ⊢; omega)
      · exact .inr ⟨j + 1, y, T, x, by simpa using h1, by simp at h2 ⊢; omega, h3, h4⟩
theorem oI {x o2 : Oper} {r : List Oper} (h : ∀ T, x.op ≠ .alloc T) : j6 (x :: o2 :: r) = j6 (o2 :: r) := by
  unfold j6
  split
  · rename_i T t e _; exact (h T e).elim
  · cases r <;> rfl
theorem vX {x o2 : Oper} {r : List Oper} {T : TypeId} {t : Nat} (h : x.op = .alloc T) (hd : x.dst = some t) : j6 (x :: o2 :: r) = x :: (mm t (o2 :: r) ++ j6 (o2 :: r)) := by
  simp only [j6, h, hd]
theorem oJ {ts masks : List Nat} {l : List Oper} {bs : List Bool} (v : qr l ts masks bs) {x : Oper} {T : TypeId} {t m : Nat} (hx : l[m]? = some x) (hop : x.op = .alloc T) (hm : m + 1 < l.length) (hd : x.dst = some t) {j : Nat} {y : Oper} {T' : TypeId} {q : Operand} (hy : l[j]? = some y) (hj : j + 1 < l.length) (hf : jD ts y T' t q) : m < j ∧ T' = T := by
  obtain ⟨_, _, _, _, _, _, _, ⟨i0, y0, g1, g2, g3, g4, _⟩, _⟩ := v.fl j y T' t q hy hj hf
  obtain ⟨_, t', e1, _, _, e2⟩ := v.al m x T hx hm hop
  rw [hd] at e1
  simp only [sJ] at e1
  subst e1
  have e : i0 = m := Classical.byContradiction fun e => e2 i0 y0 g1 e g3
  subst e
  rw [hx] at g1
  simp only [sJ] at g1
  subst g1
  rw [hop] at g4
  simp only [Op.alloc.injEq] at g4
  exact ⟨g2, g4.symm⟩
theorem sA {ts masks : List Nat} {l : List Oper} {bs : List Bool} (v : qr l ts masks bs) {ops : Array Oper} {k : Env → List OB → Prop} {kp : PV → Env → List OB → Prop} {x o2 : Oper} {r : List Oper} {m : Nat} (hr : ∀ i, (x :: o2 :: r)[i]? = l[m + i]?) (hlen : m + (x :: o2 :: r).length = l.length)
    {T : TypeId} (hop : x.op = .alloc T) {t : Nat} (hd : x.dst = some t) {E : Env} {σ : List OB} (h : dA P ops (j6 (x :: o2 :: r)) E σ k kp) :
    ∃ z cs, iv P T = some z ∧ cy E x.dst ∧ dA P ops (j6 (o2 :: r)) (E.putD (some t) ⟨true, .c (.optr σ.length 0)⟩) (σ ++ [.box cs]) k kp ∧
      (((∀ (j : Nat) (y : Oper) (T' : TypeId) (q : Operand), l[j]? = some y → j + 1 < l.length → ¬ jD ts y T' t q) ∧ cs = z) ∨
       ∃ (j : Nat) (y : Oper) (s : Nat), l[j]? = some y ∧ j + 1 < l.length ∧ jD ts y T t (.tmp s) ∧ mn P E T s ∧ cs = (E.get s).v.cells) := by
  have hx : l[m]? = some x := by have := hr 0; simpa using this.symm
  have hm : m + 1 < l.length := by simp at hlen; omega
  obtain ⟨hg, t', e1, ht512, hts, huniq⟩ := v.al m x T hx hm hop
  rw [hd] at e1
  simp only [sJ] at e1
  subst e1
  rw [vX hop hd] at h
  obtain ⟨z, hz, hdk, h⟩ := u7 hop hg h
  rw [hd] at h
  rcases oH t (o2 :: r) with ⟨h1, h2⟩ | ⟨j, y, T', q, h1, h2, h3, h4⟩
  · rw [h1, List.nil_append] at h
    refine ⟨z, z, hz, hdk, h, .inl ⟨fun j y T' q hy hj hf => ?_, rfl⟩⟩
    obtain ⟨g1, _⟩ := oJ v hx hop hm hd hy hj hf
    obtain ⟨d, rfl⟩ : ∃ d, j = m + (d + 1) := ⟨j - m - 1, by omega⟩
    have := hr (d + 1)
    rw [hy] at this
    exact h2 d y T' q (by simpa using this) (by simp at hlen hj ⊢; omega) hf.1
  · rw [h4] at h
    have hy : l[m + (j + 1)]? = some y := by rw [← hr (j + 1)]; simpa using h1
    have hj : m + (j + 1) + 1 < l.length := by simp at hlen h2; omega
    have hf : jD ts y T' t q := ⟨h3, hts⟩
    obtain ⟨_, rfl⟩ := oJ v hx hop hm hd hy hj hf
    obtain ⟨f1, f2, s, rfl, f3, f4, _⟩ := v.fl _ y T' t q hy hj hf
    obtain ⟨fo, h⟩ := vW h3 f1 f2 ht512 (fun e => by subst e; rw [hts] at f3; cases f3) hz h
    exact ⟨z, _, hz, hdk, h, .inr ⟨_, y, s, hy, hj, hf, fo, rfl⟩⟩
theorem mn.put {E : Env} {t s : Nat} {e : Ent} {T : TypeId} (ht : t < 512) (hst : s ≠ t) (h : mn P (E.putD (some t) e) T s) : mn P E T s := by
  have g : (E.putD (some t) e).get s = E.get s := by
    show (E.put t e).get s = _
    rw [Env.get_put' E t s _ ht, iN hst]
  exact ⟨g ▸ h.cond, h.known, h.pos, g ▸ h.len⟩
theorem u9 {ts masks : List Nat} {l : List Oper} {bs : List Bool} (v : qr l ts masks bs) {i j : Nat} {o y : Oper} {T T' : TypeId} {t s s' : Nat} (ho : l[i]? = some o) (hi : i + 1 < l.length) (hy : l[j]? = some y) (hj : j + 1 < l.length) (h1 : jD ts o T t (.tmp s)) (h2 : jD ts y T' t (.tmp s')) : s = s' ∧ T = T' := by
  obtain ⟨_, _, _, _, _, _, _, _, hu⟩ := v.fl i o T t _ ho hi h1
  have e : j = i := Classical.byContradiction fun e => hu j y T' _ hy e hj h2.1
  subst e
  rw [ho] at hy
  simp only [sJ] at hy
  subst hy
  have := h1.1.symm.trans h2.1
  simp only [Op.store.injEq, Operand.tmp.injEq, true_and] at this
  exact ⟨this.2, this.1⟩
theorem mo {ts masks : List Nat} {l : List Oper} {bs : List Bool} (v : qr l ts masks bs) {ops : Array Oper} {k : Env → List OB → Prop} {kp : PV → Env → List OB → Prop} : ∀ (r : List Oper) (m : Nat) (E : Env) (σ : List OB), (∀ i, r[i]? = l[m + i]?) → m + r.length = l.length →
    dA P ops (j6 r) E σ k kp →
    (∀ (i : Nat) (o : Oper) (T : TypeId), m ≤ i → l[i]? = some o → i + 1 < l.length → o.op = .alloc T → (∃ z, iv P T = some z) ∧ cy E o.dst) ∧
    (∀ (i : Nat) (o : Oper) (T : TypeId) (t s i0 : Nat) (y0 : Oper), l[i]? = some o → i + 1 < l.length → jD ts o T t (.tmp s) → l[i0]? = some y0 → m ≤ i0 → i0 + 1 < l.length → y0.dst = some t → y0.op = .alloc T → mn P E T s)
  | [], m, E, σ, hr, hlen, h => ⟨fun i o T h1 h2 h3 => by simp at hlen; omega, fun i o T t s i0 y0 _ _ _ _ h1 h2 => by simp at hlen; omega⟩
  | [q], m, E, σ, hr, hlen, h => ⟨fun i o T h1 h2 h3 => by simp at hlen; omega, fun i o T t s i0 y0 _ _ _ _ h1 h2 => by simp at hlen; omega⟩
  | x :: o2 :: r, m, E, σ, hr, hlen, h => by
    have hx : l[m]? = some x := by have := hr 0; simpa using this.symm
    have hr' : ∀ i, (o2 :: r)[i]? = l[m + 1 + i]? := fun i => by have := hr (i + 1); rw [show m + (i + 1) = m + 1 + i by omega] at this; simpa using this
    have hlen' : m + 1 + (o2 :: r).length = l.length := by simp at hlen ⊢; omega
    have hm : m + 1 < l.length := by simp at hlen; omega
    by_cases ha : ∀ T, x.op ≠ .alloc T
    · rw [oI ha] at h
      obtain ⟨k1, k2⟩ := mo v (o2 :: r) (m + 1) E σ hr' hlen' h
      refine ⟨fun i o T h1 h2 h3 h4 => ?_, fun i o T t s i0 y0 h1 h2 h3 h4 h5 h6 h7 h8 => ?_⟩
      · have : i ≠ m := fun e => by subst e; rw [hx] at h2; simp only [sJ] at h2; subst h2; exact ha T h4
        exact k1 i o T (by omega) h2 h3 h4
      · have : i0 ≠ m := fun e => by subst e; rw [hx] at h4; simp only [sJ] at h4; subst h4; exact ha T h8
        exact k2 i o T t s i0 y0 h1 h2 h3 h4 (by omega) h6 h7 h8
    · obtain ⟨T0, ha⟩ : ∃ T, x.op = .alloc T := Classical.byContradiction fun h => ha fun T e => h ⟨T, e⟩
      obtain ⟨_, t0, hd, ht512, hts, _⟩ := v.al m x T0 hx hm ha
      obtain ⟨z, cs, hz, hdk, h', hcs⟩ := sA v hr hlen ha hd h
      obtain ⟨k1, k2⟩ := mo v (o2 :: r) (m + 1) _ _ hr' hlen' h'
      refine ⟨fun i o T h1 h2 h3 h4 => ?_, fun i o T t s i0 y0 h1 h2 h3 h4 h5 h6 h7 h8 => ?_⟩
      · by_cases e : i = m
        · subst e; rw [hx] at h2; simp only [sJ] at h2; subst h2
          rw [ha] at h4; simp only [Op.alloc.injEq] at h4; subst h4
          exact ⟨⟨z, hz⟩, hdk⟩
        · obtain ⟨g1, g2⟩ := k1 i o T (by omega) h2 h3 h4
          exact ⟨g1, up (yg E (some t0) _) g2⟩
      · by_cases e : i0 = m
        · subst e; rw [hx] at h4; simp only [sJ] at h4; subst h4
          rw [hd] at h7; simp only [sJ] at h7; subst h7
          rcases hcs with ⟨g, _⟩ | ⟨j, y, s', g1, g2, g3, g4, _⟩
          · exact (g i o T _ h1 h2 h3).elim
          · obtain ⟨e1, e2⟩ := u9 v h1 h2 g1 g2 h3 g3
            subst e1; subst e2; exact g4
        · obtain ⟨_, _, s', e', hs', _⟩ := v.fl i o T t _ h1 h2 h3
          simp only [Operand.tmp.injEq] at e'
          subst e'
          exact (k2 i o T t s i0 y0 h1 h2 h3 h4 (by omega) h6 h7 h8).put ht512 fun e => by subst e; rw [hts] at hs'; cases hs'
def yj (P : Program) (ts : List Nat) (l : List Oper) (a : Act) (T : TypeId) (t : Nat) (x : Obj) : Prop :=
  ((∀ (j : Nat) (y : Oper) (T' : TypeId) (q : Operand), l[j]? = some y → j + 1 < l.length → ¬ jD ts y T' t q) → ∃ inf u, P.info? T = some inf ∧ inf.zero = some u ∧ x = .cells u.cells T) ∧
  ∀ (j : Nat) (y : Oper) (T' : TypeId) (s : Nat), l[j]? = some y → j + 1 < l.length → jD ts y T' t (.tmp s) → ∃ c, x = .cells c T ∧ c.toList = (a.tmps.getD s undef).cells.toList
theorem yk {ts masks : List Nat} {l : List Oper} {bs : List Bool} (v : qr l ts masks bs) {ops : Array Oper} {pb : Nat → Nat} {kp : PV → Env → List OB → Prop} {k : Env → List OB → Prop} {a : Act} {w : World}
    (hdist : ∀ (i j : Nat) (o o' : Oper) (T T' : TypeId), l[i]? = some o → l[j]? = some o' → i + 1 < l.length → j + 1 < l.length → o.op = .alloc T → o'.op = .alloc T' → pb i = pb j → i = j) :
    ∀ (r : List Oper) (m : Nat) (G : Gh) (E : Env) (σ : List OB), (∀ i, r[i]? = l[m + i]?) → m + r.length = l.length → Sim G E σ a w →
    (∀ (i : Nat) (o : Oper) (T : TypeId) (t : Nat), m ≤ i → l[i]? = some o → i + 1 < l.length → o.op = .alloc T → o.dst = some t → a.tmps.getD t undef = .pointer (some ⟨pb i, 0, none⟩) ∧ G.F (pb i) = none ∧ G.H (pb i) = none ∧
      (∀ (b : Nat) (og : OG), G.own[b]? = some (some og) → og.has = true → og.blk ≠ pb i) ∧ ∃ x, w.heap[pb i]? = some x ∧ yj P ts l a T t x) →
    dA P ops (j6 r) E σ k kp → ∀ q, r.getLast? = some q → ∃ G' E' σ', Gle G G' ∧ Sim G' E' σ' a w ∧ dA P ops [q] E' σ' k kp
  | [], m, G, E, σ, hr, hlen, hs, hf, h, q, hq => by simp at hq
  | [x], m, G, E, σ, hr, hlen, hs, hf, h, q, hq => by simp at hq; subst hq; exact ⟨G, E, σ, Gle.refl G, hs, h⟩
  | x :: o2 :: r, m, G, E, σ, hr, hlen, hs, hf, h, q, hq => by
    have hq' : (o2 :: r).getLast? = some q := by simpa [List.getLast?_cons_cons] using hq
    have hx : l[m]? = some x := by have := hr 0; simpa using this.symm
    have hr' : ∀ i, (o2 :: r)[i]? = l[m + 1 + i]? := fun i => by have := hr (i + 1); rw [show m + (i + 1) = m + 1 + i by omega] at this; simpa using this
    have hlen' : m + 1 + (o2 :: r).length = l.length := by simp at hlen ⊢; omega
    have hm : m + 1 < l.length := by simp at hlen; omega
    by_cases ha : ∀ T, x.op ≠ .alloc T
    · rw [oI ha] at h
      exact yk v hdist (o2 :: r) (m + 1) G E σ hr' hlen' hs (fun i o T t h1 => hf i o T t (by omega)) h q hq'
    · obtain ⟨T0, ha⟩ : ∃ T, x.op = .alloc T := Classical.byContradiction fun h => ha fun T e => h ⟨T, e⟩
      obtain ⟨_, t, hd, ht512, hts, _⟩ := v.al m x T0 hx hm ha
      obtain ⟨z, cs, hz, hdk, hrun, hcs⟩ := sA v hr hlen ha hd h
      obtain ⟨g1, g2, g3, g4, ob, g5, g6, g7⟩ := hf m x T0 t (Nat.le_refl _) hx hm ha hd
      obtain ⟨inf', u', k1, k2, _, _, _, k5⟩ := gK G hz
      have hobj : ∃ c, ob = .cells c T0 ∧ aL (Rep G) cs c.toList := by
        rcases hcs with ⟨n1, rfl⟩ | ⟨j, y, s, n1, n2, n3, n4, rfl⟩
        · obtain ⟨inf, u, e1, e2, rfl⟩ := g6 n1
          rw [e1] at k1; simp only [sJ] at k1; subst k1
          rw [e2] at k2; simp only [sJ] at k2; subst k2
          exact ⟨_, rfl, aL.mono (fun _ _ hr => be.rep hr) k5⟩
        · obtain ⟨c, rfl, e⟩ := g7 j y T0 s n1 n2 n3
          refine ⟨c, rfl, ?_⟩
          rw [e]
          exact jf (hs.slot s n4.cond) (by rw [n4.len]; exact n4.pos)
      obtain ⟨c, rfl, hrep⟩ := hobj
      have hinv := hs.inv.gain (cs := cs) g5 g3 g2 g4 hrep
      have hle : bl G.own (G.own ++ [some (⟨pb m, 0, 0, 0, true⟩ : OG)]) := bl.append _ _
      have hsim : Sim { G with own := G.own ++ [some ⟨pb m, 0, 0, 0, true⟩] } (E.putD (some t) ⟨true, .c (.optr σ.length 0)⟩) (σ ++ [.box cs]) a w := by
        refine ⟨hinv, hs.defers, hs.size, hs.na, fun i hc => ?_⟩
        have hg := Env.get_put E t i _ hc
        show aR _ ((E.put t _).get i).v _
        rw [hg]
        by_cases ei : i = t
        · rw [iP ei, ei, g1]
          refine ⟨rfl, some ⟨pb m, 0, 0, 0, true⟩, ?_, fun og e _ => by simp only [sJ] at e; subst e; rfl⟩
          show (G.own ++ _)[σ.length]? = _
          rw [← hs.inv.len]; simp
        · rw [iN ei]
          have hc' : (E.get i).cond = true := by
            have : ((E.put t ⟨true, .c (.optr σ.length 0)⟩).get i).cond = true := hc
            rw [hg, iN ei] at this; exact this
          exact aR.mono (G := G) (G' := { G with own := G.own ++ [some ⟨pb m, 0, 0, 0, true⟩] }) (fun _ _ h => h) hle (hs.slot i hc')
      obtain ⟨G', E', σ', q1, q2, q3⟩ := yk v hdist (o2 :: r) (m + 1) _ _ _ hr' hlen' hsim (fun i o T t' h1 h2 h3 h4 h5 => by
        obtain ⟨f1, f2, f3, f4, f5⟩ := hf i o T t' (by omega) h2 h3 h4 h5
        refine ⟨f1, f2, f3, fun b og hb hh => ?_, f5⟩
        rcases Nat.lt_or_ge b G.own.length with hb' | hb'
        · rw [List.getElem?_append_left hb'] at hb; exact f4 b og hb hh
        · rw [List.getElem?_append_right hb'] at hb
          rcases Nat.eq_zero_or_pos (b - G.own.length) with e0 | e0
          · rw [e0] at hb
            simp only [List.getElem?_cons_zero, sJ] at hb
            subst hb
            intro e1
            have := hdist m i x o T0 T hx h2 hm h3 ha h4 e1
            omega
          · rw [List.getElem?_eq_none (by simp; omega)] at hb; cases hb) hrun q hq'
      have hGle : Gle G { G with own := G.own ++ [some ⟨pb m, 0, 0, 0, true⟩] } := ⟨⟨fun _ _ h => h, rfl, rfl, rfl⟩, jU.of_le hle⟩
      exact ⟨G', E', σ', hGle.trans q1, q2, q3⟩
theorem tB {ts : List Nat} {l : List Oper} {i : Nat} {q : Oper} {K : Act → World → Prop} {a : Act} {w : World} (ho : (dR ts l)[i]? = some (kk q)) (hg : q.guard = none) (h : wpOp P (dR ts l).toArray (fun _ _ _ => False) i K a w) : K a w := by
  unfold wpOp at h
  simp only [List.getElem?_toArray, ho] at h
  rw [iP (by unfold Region.wanted; simp [kk, hg])] at h
  rcases h with h | ⟨_, _, _, h⟩
  · unfold Oper.wp at h
    have : (execOp a.eval (kk q)).run P w = .ok (.value (.bool true)) w := by simp [execOp, kk, Act.eval]
    rw [this] at h
    exact h
  · exact h.elim
theorem xd {id : Nat} {l : List Oper} {K : Kt} {E : Env} {σ : List OB} (hm : P.follows .mixedOrders = true) (ts : List Nat) (masks : List Nat) (bs : List Bool) (hc : yi l ts masks bs = true) {k : Env → List OB → Prop} {kp : PV → Env → List OB → Prop} (hkn : ∀ E σ, k E σ → K .normal E σ) (hkp : ∀ p E σ, kp p E σ → K (.panic p) E σ)
    (h : TR P (dR ts l).toArray (dR ts l) bs (E.forget ts) σ (fun E σ => dA P l.toArray (j6 l) E σ k kp)) : W P (.region id l.toArray true) K E σ := fun G a w hs0 => by
  have hs := Env.forget_sim ts hs0
  unfold yi at hc
  simp only [Bool.and_eq_true] at hc
  have c := yd hc.1
  have v := xb hc.2
  have hE : ∀ t, inL t ts = true → ((E.forget ts).get t).cond = false := fun t ht => tA ts E t v.small (rA ht)
  generalize E.forget ts = E1 at hs hE h
  obtain ⟨tr, ht, hk⟩ := h
  obtain ⟨z1, z2⟩ := mo v l 0 _ _ (fun i => by rw [Nat.zero_add]) (by omega) hk
  have hz : ∀ (i : Nat) (o : Oper) (T : TypeId), l[i]? = some o → i + 1 < l.length → o.op = .alloc T → (∃ z, iv P T = some z) ∧ cy E1 o.dst := fun i o T h1 h2 h3 => by
    obtain ⟨q1, q2⟩ := z1 i o T (Nat.zero_le _) h1 h2 h3
    exact ⟨q1, up (oZ (dR ts l) tr E1 (dR ts l).length).1 q2⟩
  have hfl : ∀ (i : Nat) (o : Oper) (T : TypeId) (t s : Nat), l[i]? = some o → i + 1 < l.length → jD ts o T t (.tmp s) → mn P (ce E1 (dR ts l) tr (dR ts l).length) T s := fun i o T t s h1 h2 h3 => by
    obtain ⟨_, _, _, _, _, _, _, ⟨i0, y0, g1, g2, g3, g4, _⟩, _⟩ := v.fl i o T t _ h1 h2 h3
    exact z2 i o T t s i0 y0 h1 h2 h3 g1 (Nat.zero_le _) (by omega) g3 g4
  have hpos := v.pos
  obtain ⟨q, hq⟩ : ∃ q, l[l.length - 1]? = some q := ⟨_, List.getElem?_eq_getElem (by omega)⟩
  obtain ⟨hqd, hqg⟩ := v.last _ q hq (by omega)
  have hvq := iC ts l _ q hq
  rw [iN (by omega)] at hvq
  refine wp_region_any hm ?_
  have key : ∀ (fuel : Nat) (listed : Array Bool) (a : Act) (w : World), listed.toList.count false ≤ fuel → listed.getD (l.length - 1) false = false → StB P ts l tr E1 σ G listed a w → wpAny P .any l.toArray (dL G K) fuel listed a w := by
    have some_ready : ∀ (listed : Array Bool) (a : Act) (w : World), listed.getD (l.length - 1) false = false → StB P ts l tr E1 σ G listed a w → Region.ready .any l.toArray listed ≠ [] := by
      intro listed a w h1 ⟨G1, _, hS⟩ hr
      have hr' : Region.ready .any (dR ts l).toArray listed = [] := by
        rw [List.eq_nil_iff_forall_not_mem] at hr ⊢
        exact fun i hi => hr i (sx hi)
      have := uP c hS.1 hr' (l.length - 1) (by rw [jv]; omega)
      rw [h1] at this; cases this
    intro fuel
    induction fuel with
    | zero =>
      intro listed a w hf hl hJ
      exfalso
      have hsz : listed.size = l.length := by obtain ⟨_, _, hS⟩ := hJ; rw [hS.1, jv]
      have : listed.toList[l.length - 1]? = some false := by
        rw [Array.getD_eq_getD_getElem?, Array.getElem?_eq_getElem (by omega)] at hl
        rw [Array.getElem?_toList, Array.getElem?_eq_getElem (by omega)]
        simpa using hl
      have hpos := List.count_pos_iff.2 (List.mem_of_getElem? this)
      omega
    | succ fuel ih =>
      intro listed a w hf hl hJ
      refine ⟨fun hr => (some_ready listed a w hl hJ hr).elim, fun i hi => ?_⟩
      have hsz : listed.size = l.length := by obtain ⟨_, _, hS⟩ := hJ; rw [hS.1, jv]
      obtain ⟨hi0, hil, o, ho, hr⟩ := jK hsz hi
      have hset : ∀ j, (listed.setIfInBounds i true).getD j false = if j = i then true else listed.getD j false := fun j => tm _ _ _ (by omega)
      by_cases hlt : i + 1 < l.length
      · refine wpOp_mono (fun a' w' hJ' => ih _ a' w' ?_ ?_ hJ') (StB.step c v ht hE hz hfl G listed a w i hJ hi hlt)
        · have : listed.toList[i]? = some false := by
            rw [Array.getD_eq_getD_getElem?, Array.getElem?_eq_getElem (by omega)] at hi0
            rw [Array.getElem?_toList, Array.getElem?_eq_getElem (by omega)]
            simpa using hi0
          have hc := oh _ _ this
          simp only [Array.toList_setIfInBounds]
          omega
        · rw [hset, iN (by omega)]; exact hl
      · have hie : i = l.length - 1 := by omega
        subst hie
        rw [hq] at ho
        simp only [sJ] at ho
        subst ho
        obtain ⟨G1, ⟨p1, p2, p3, p4, p5, pb, p6, p7⟩, hS⟩ := hJ
        have hdone : ∀ (j : Nat), j < l.length - 1 → listed.getD j false = true := by
          intro j hj
          have hy := iC ts l j l[j] (List.getElem?_eq_getElem (by omega))
          have := c.done hS.2.1 hvq hl (fun k hk => by
            have : dj (kk q) = dj q := rfl
            rw [this] at hk; exact hr k hk) hy (.inl (c.bar (l.length - 1) j _ _ hvq hy v.bar))
          rw [this]; simp; omega
        have hst := tB hvq hqg (StJ.step (Q := fun _ _ _ => False) c ht G1 listed a w (l.length - 1) hS (pO hi))
        have hall : ∀ j, j < l.length → (listed.setIfInBounds (l.length - 1) true).getD j false = true := by
          intro j hj
          rw [hset]
          by_cases e : j = l.length - 1
          · rw [iP e]
          · rw [iN e]; exact hdone j (by omega)
        obtain ⟨G2, hG2, hsim⟩ := (vB (Q := fun _ a' w' => ∃ G2, Gle G1 G2 ∧ Sim G2 (ce E1 (dR ts l) tr (dR ts l).length) (aQ σ tr (dR ts l).length) a' w') c ht G1 (fun G2 a' w' h1 h2 => ⟨G2, h1, h2⟩) 0 (listed.setIfInBounds (l.length - 1) true) a w (by
          refine Nat.le_of_eq (List.count_eq_zero.2 fun hm => ?_)
          obtain ⟨j, hj, he⟩ := List.getElem_of_mem hm
          have hj' : j < l.length := by simpa [hsz] using hj
          have := hall j hj'
          rw [Array.getD_eq_getD_getElem?, Array.getElem?_eq_getElem (by simpa [hsz] using hj')] at this
          rw [Array.getElem_toList] at he
          simp only [Option.getD_some] at this
          rw [he] at this; cases this) hst).2
        have hF2 : G2.F = G1.F := hG2.le.F
        have hsim' : Sim { G2 with F := G.F } (ce E1 (dR ts l) tr (dR ts l).length) (aQ σ tr (dR ts l).length) a w :=
          ⟨hsim.inv.less G.F (fun b x hb => by rw [hF2]; exact p5 b x hb), hsim.defers, hsim.size, hsim.na, fun i hc => aR.mono (G := G2) (G' := { G2 with F := G.F }) (fun _ _ h => h) (bl.refl _) (hsim.slot i hc)⟩
        obtain ⟨G3, E3, σ3, r1, r2, r3⟩ := yk v (pb := pb) (fun j k y y' T T' h1 h2 h3 h4 h5 h6 h7 => p6 j k y y' T T' h1 h2 h3 h4 h5 h6 (hdone j (by omega)) (hdone k (by omega)) h7) l 0 _ _ _ (fun i => by rw [Nat.zero_add]) (by omega) hsim' (fun j y T t _ h1 h2 h3 e2 => by
          obtain ⟨f1, f2, x, f5, f6, f7⟩ := p7 j y T t h1 h2 h3 e2 (hdone j (by omega))
          rw [← hF2] at f5
          refine ⟨f1, f2, hsim.inv.HF _ _ f5, fun b og hb hh he => ?_, x, hsim.inv.hF _ _ f5, fun h => f6 fun k z T' q hz hk hf => (h k z T' q hz hk hf).elim, fun k z T' s hz hk hf => f7 k z T' s hz hk hf (hdone k (by omega))⟩
          have := (hsim.inv.sep b og hb hh).2
          rw [he, f5] at this; cases this) hk q (by rw [List.getLast?_eq_getElem?]; exact hq)
        have hGle : Gle G { G2 with F := G.F } := by
          refine ⟨⟨fun b x hb => hG2.le.H b x (by rw [p1]; exact hb), rfl, hG2.le.w0.trans p3, hG2.le.na.trans p4⟩, ?_⟩
          have := hG2.own
          rw [p2, p4] at this
          exact this
        have hw := ig [q] E3 σ3 _ _ r3 G3 a w r2
        have hw' : wpList P l.toArray (dL G K) [q] a w := cS (fun e a' w' hp => dL.back (hGle.trans r1) (dL.mono (fun x E σ hx => by
          cases x with
          | normal => exact hkn E σ hx
          | exit id => exact hx.elim
          | ret => exact hx.elim
          | panic p => exact hkp p E σ hx) hp)) _ _ _ hw
        have hnil : Region.ready .any l.toArray (listed.setIfInBounds (l.length - 1) true) = [] := by
          rw [List.eq_nil_iff_forall_not_mem]
          intro j hj
          obtain ⟨g1, g2, _⟩ := jK (by simpa using hsz) hj
          rw [hall j g2] at g1; cases g1
        have hop : wpOp P l.toArray (dL G K) (l.length - 1) (fun a' w' => dL G K .normal a' w') a w := by
          unfold wpOp
          simp only [List.getElem?_toArray, hq]
          unfold wpList at hw'
          exact hw'
        exact wpOp_mono (fun a' w' hn => u5 hnil fuel a' w' hn) hop
  refine key _ _ a _ (Nat.le_refl _) ?_ ?_ |> fun h => by
    have e : (Array.replicate l.toArray.size false).toList.count false = l.toArray.size := by simp
    rw [e] at h; exact h
  · rw [Array.getD_eq_getD_getElem?, Array.getElem?_replicate]; split <;> rfl
  · have hfalse : ∀ i, (Array.replicate l.toArray.size false).getD i false = false := by
      intro i
      rw [Array.getD_eq_getD_getElem?, Array.getElem?_replicate]
      split <;> rfl
    refine ⟨G, ⟨rfl, rfl, rfl, rfl, fun _ _ h => h, fun _ => 0, (fun i j o o' T T' _ _ _ _ _ _ h _ _ => by rw [hfalse] at h; cases h), (fun i o T t _ _ _ _ h => by rw [hfalse] at h; cases h)⟩, ?_⟩
    refine ⟨by simp [jv], (fun i o ho hd => by simp only [hfalse] at hd; cases hd), G, 0, Gle.refl G, by omega, (fun j o ho hl => by rw [hfalse]; simp), ?_, hs.defers, hs.size, hs.na, fun t ht hc => ?_⟩
    · have : aQ σ tr 0 = σ := by cases tr <;> rfl
      rw [this]; exact hs.inv.drawn
    · have : eO t (dR ts l) tr (fun i => (Array.replicate l.toArray.size false).getD i false) (E1.get t) = E1.get t := jg t (dR ts l) tr _ _ fun j o _ _ => hfalse j
      rw [this] at hc ⊢
      exact hs.slot t hc
theorem xe {id : Nat} {l : List Oper} {y : Code} {K : Kt} {E : Env} {σ : List OB} (ms : List Nat) (ts : List Nat) (masks : List Nat) (bs : List Bool) (hm : P.follows .mixedOrders = true) (hc : yi l ts masks bs = true)
    (h : ∀ (k : Env → List OB → Prop) (kp : PV → Env → List OB → Prop), (∀ E σ, W P y K E σ → k E σ) → gn P (dR ts l).toArray (dR ts l) bs (E.forget ts) σ (fun E σ => dA P l.toArray (j6 l) E σ (fun E σ => k (E.forget ms) σ) kp)) : W P (.seq (.region id l.toArray true) y) K E σ :=
  oD (xd (k := fun E σ => W P y K (E.forget ms) σ) (kp := fun _ _ _ => False) hm ts masks bs hc (fun _ _ h => kM ms h) (fun _ _ _ h => h.elim) (gL _ bs _ σ _ (h (fun E σ => W P y K E σ) (fun _ _ _ => False) fun _ _ h => h)))
end
end Pam
namespace Pam
open Go Go.Shelf Go.Proofs
def lQ (l : List Int) : List Int := l.mergeSort fun x y => decide (x ≤ y)
theorem jI (l : List Int) : (lQ l).length = l.length := by simp [lQ, List.length_mergeSort]
theorem ot (cur : Array Value) (d : List Int) (k : Nat) : (Go.Sort.putCells (Value.int .i64) 0 d.toArray cur)[k]? = if h : k < d.length ∧ k < cur.size then some (.int .i64 (d[k]'h.1)) else cur[k]? := by
 unfold Go.Sort.putCells
 by_cases hk : k < cur.size
 ·by_cases hd : k < d.length
  ·rw [dif_pos ⟨hd, hk⟩]
   simp [hk, hd]
  ·rw [dif_neg (fun h => hd h.1)]
   simp [hk, hd]
 ·rw [dif_neg (fun h => hk h.2)]
  simp [hk]
theorem st (w : World) (n g : Nat) (os : Array Obj) (d : List Int) (cur : Array Value) (e : TypeId) (fr : Nat × Nat) (hb : w.heap[g]? = some (.cells cur e fr)) :
  (Go.Sort.grow (Go.Sort.putRow (Value.int .i64) (Go.Sort.ahead w n) g 0 d.toArray) os).heap[g]? = some (.cells (Go.Sort.putCells (Value.int .i64) 0 d.toArray cur) e fr) := by
 obtain ⟨hg, hb⟩ := Array.getElem?_eq_some_iff.1 hb
 simp [Go.Sort.grow, Go.Sort.putRow, Go.Sort.mapBlock, Go.Sort.ahead, Array.getElem?_append, hg, Array.getElem_modify, hb, Go.Sort.onCells]
theorem pJ (w : World) (n g : Nat) (os : Array Obj) (d : Array Int) (k : Nat) (o : Obj) (hk : w.heap[k]? = some o) (hne : g ≠ k) :
  (Go.Sort.grow (Go.Sort.putRow (Value.int .i64) (Go.Sort.ahead w n) g 0 d) os).heap[k]? = some o := by
 obtain ⟨hg, hk⟩ := Array.getElem?_eq_some_iff.1 hk
 simp [Go.Sort.grow, Go.Sort.putRow, Go.Sort.mapBlock, Go.Sort.ahead, Array.getElem?_append, hg, Array.getElem_modify, hk, hne]
theorem pK {G : Gh} {w : World} {v : Nat} {T : TypeId} {l l' d : List Int} {o : OG} {c : Array Value} {fz : Nat × Nat} {os : Array Obj} {n : Nat}
  (hi : Inv G [.arr 1 v T (l.map fun x => [.int .i64 x])] w) (ho : G.own[0]? = some (some o)) (hhas : o.has = true) (hc : w.heap[o.blk]? = some (.cells c T fz))
  (hl : l'.length ≤ l.length) (hd : d.length = l.length) (hp : l' <+: d) :
  Inv G [.arr 1 v T (l'.map fun x => [.int .i64 x])] (Go.Sort.grow (Go.Sort.putRow (Value.int .i64) (Go.Sort.ahead w n) o.blk 0 d.toArray) os) := by
 obtain ⟨o', ho', hver, hsz, _, hlc, hcm, _, hnh, hh⟩ := hi.own 0 _ rfl
 rw [ho] at ho'
 obtain rfl : o = o' := by simpa using ho'
 obtain ⟨c', fz', hc', hfz, hcs, _⟩ := hh hhas
 rw [hc] at hc'
 obtain ⟨rfl, rfl⟩ : c = c' ∧ fz = fz' := by simpa using hc'
 rw [Nat.mul_one] at hcs
 simp only [List.length_map] at hlc
 have hsep := hi.sep 0 o ho hhas
 refine ⟨?_, ?_, hi.HF, by simpa using hi.len, ?_, hi.inj, hi.sep, hi.os, hi.tape, hi.output, ?_⟩
 ·intro b ob h
  exact pJ _ _ _ _ _ _ _ (hi.hH b ob h) (fun e => by subst e; rw [hsep.1] at h; cases h)
 ·intro b ob h
  exact pJ _ _ _ _ _ _ _ (hi.hF b ob h) (fun e => by subst e; rw [hsep.2] at h; cases h)
 ·intro b ob h
  match b with
  | 0 =>
   obtain rfl : OB.arr 1 v T (l'.map fun x => [.int .i64 x]) = ob := by simpa using h
   refine ⟨o, ho, hver, hsz, by omega, by simp only [List.length_map]; omega, hcm, ?_, hnh, fun _ => ?_⟩
   ·intro e he; simp only [List.mem_map] at he; obtain ⟨x, _, rfl⟩ := he; rfl
   ·refine ⟨_, fz, st _ _ _ _ _ _ _ _ hc, ?_, ?_, ?_⟩
    ·rcases hfz with h | h
     ·exact .inl h
     ·exact .inr (by simpa [Go.Sort.putCells] using h)
    ·simpa [Go.Sort.putCells, hsz] using hcs
    ·intro i j e x hi1 hj1
     have hil : i < l'.length := by
      rcases Nat.lt_or_ge i l'.length with h | h
      ·exact h
      ·rw [List.getElem?_eq_none (by simpa using h)] at hi1; cases hi1
     have hid : i < d.length := Nat.lt_of_lt_of_le hil hp.length_le
     rw [List.getElem?_map, List.getElem?_eq_getElem hil] at hi1
     obtain rfl : [CV.int .i64 l'[i]] = e := by simpa using hi1
     match j with
     | 0 =>
      obtain rfl : CV.int .i64 l'[i] = x := by simpa using hj1
      refine ⟨.int .i64 d[i], ?_, ?_⟩
      ·rw [show i * 1 + 0 = i by omega]
       have := ot c d i
       rw [dif_pos ⟨hid, by omega⟩] at this
       exact this
      ·have : l'[i] = d[i] := hp.getElem hil
       rw [this]; exact .int .i64 _
     | k + 1 => simp at hj1
  | k + 1 => simp at h
 ·have := hi.grow
  simp only [Go.Sort.grow, Array.size_append, Go.Sort.size_putRow, Go.Sort.heap_ahead]
  omega
theorem qN {G : Gh} {w : World} {v : Nat} {T : TypeId} {l : List Int} {o : OG}
  (hi : Inv G [.arr 1 v T (l.map fun x => [.int .i64 x])] w) (ho : G.own[0]? = some (some o)) (hhas : o.has = true) :
  ∃ c fz, w.heap[o.blk]? = some (.cells c T fz) ∧ Go.Sort.Holds (Value.int .i64) w o.blk 0 l.toArray := by
 obtain ⟨o', ho', hver, hsz, _, hlc, hcm, _, hnh, hh⟩ := hi.own 0 _ rfl
 rw [ho] at ho'
 obtain rfl : o = o' := by simpa using ho'
 obtain ⟨c, fz, hc, hfz, hcs, hcell⟩ := hh hhas
 rw [Nat.mul_one] at hcs
 simp only [List.length_map] at hlc
 refine ⟨c, fz, hc, ?_⟩
 have hcell' : ∀ j (h : j < l.length), c[j]? = some (.int .i64 l[j]) := by
  intro j h
  obtain ⟨x, h1, h2⟩ := hcell j 0 [.int .i64 l[j]] (.int .i64 l[j]) (by simp [h]) (by simp)
  cases h2
  simpa using h1
 intro j hj
 have hj' : j < l.length := by simpa using hj
 have hjc : j < c.size := by omega
 constructor
 ·have := hcell' j hj'
  simp only [World.cell?, hc, Nat.zero_add]
  simp [this, hj']
 ·simp only [World.frozen?, hc]
  rcases hfz with rfl | hfz
  ·simp
  ·obtain ⟨lo, hi'⟩ := fz
   simp at hfz ⊢
   omega
theorem un {G : Gh} {w : World} {v : Nat} {T : TypeId} {l : List Int} {vs : List Value}
  (hi : Inv G [.arr 1 v T (l.map fun x => [.int .i64 x])] w) (ha : aL (aR G) [.c (.osl 0 v 0 l.length)] vs) :
  ∃ o a, G.own[0]? = some (some o) ∧ o.ver = v ∧ vs = [.slice a l.length o.cap] ∧ l.length ≤ o.cap ∧ (l ≠ [] → o.has = true ∧ a = some ⟨o.blk, 0, none⟩) := by
 obtain ⟨o, ho, hver, hsz, _, hlc, hcm, _, hnh, hh⟩ := hi.own 0 _ rfl
 simp only [List.length_map] at hlc
 match vs, ha with
 | [v0], ha =>
  obtain ⟨hv0, _⟩ := ha
  obtain ⟨_, oo, hoo, hsl⟩ := hv0
  rw [ho] at hoo
  obtain rfl : some o = oo := by simpa using hoo
  obtain ⟨hcap, a, rfl, haddr⟩ := (hsl o rfl).2 hver.symm
  refine ⟨o, a, ho, hver, rfl, hlc, fun he => ?_⟩
  have hpos : 0 < l.length := List.length_pos_iff.2 he
  have hhas : o.has = true := by
   cases h : o.has with
   | true => rfl
   | false => have := hnh h; omega
  obtain ⟨a', rfl, ha'⟩ := haddr hhas
  obtain rfl := ha' (by omega)
  exact ⟨hhas, by simp⟩
theorem uX {P : Program} {ρ : Ren} (Ly : Lays.n189 P ρ) {f : FuncId} (hf : ρ.f 189 = f) (hb : ∃ fn, P.funcs[f]? = some fn ∧ fn.body.isSome = true ∧ (fn.name == "runtime.NumGoroutine") = false)
  (T : TypeId) (v : Nat) (l : List Int) (hl : l.length ≤ 140737488355328) :
  eZ P f [.c (.osl 0 v 0 l.length)] [.arr 1 v T (l.map fun x => [.int .i64 x])] (fun p σ => p = .t [] ∧ σ = [.arr 1 v T ((lQ l).map fun x => [.int .i64 x])]) (fun _ _ => False) := by
 subst hf
 refine ⟨hb, fun G w vs hna hi ha => ?_⟩
 obtain ⟨o, a, ho, hver, rfl, hlc, hx⟩ := un hi ha
 by_cases he : l = []
 ·subst he
  refine (Any.slices_Sort_int_none Ly a _ w).mono ?_
  rintro e w' ⟨rfl, rfl⟩
  exact ⟨G, _, .t [], .tuple #[], Gle.refl G, hi, ⟨[], rfl, trivial⟩, .inl ⟨rfl, rfl, by simp [lQ]⟩⟩
 ·obtain ⟨hhas, rfl⟩ := hx he
  obtain ⟨c, fz, hc, hH⟩ := qN hi ho hhas
  refine (Any.slices_Sort_int Ly o.blk 0 o.cap l w hH (Array.getElem?_eq_some_iff.1 hc).1 (by omega)).mono ?_
  rintro e w' ⟨rfl, n, os, rfl⟩
  exact ⟨G, _, .t [], .tuple #[], Gle.refl G, pK hi ho hhas hc (Nat.le_of_eq (jI l)) (jI l) (List.prefix_rfl), ⟨[], rfl, trivial⟩, .inl ⟨rfl, rfl, rfl⟩⟩
theorem pL (l : List Int) : (Go.Lib.compact l).length ≤ l.length := by
 simp only [Go.Lib.compact, Go.Lib.compactUpTo, List.length_map]
 exact Nat.le_trans (List.length_filter_le _ _) (by simp)
theorem rv {P : Program} {ρ : Ren} (Ly : Lays2.n20 P ρ) {f : FuncId} (hf : ρ.f 20 = f) (hb : ∃ fn, P.funcs[f]? = some fn ∧ fn.body.isSome = true ∧ (fn.name == "runtime.NumGoroutine") = false)
  (T : TypeId) (v : Nat) (l : List Int) (hl : l.length ≤ 140737488355328) :
  eZ P f [.c (.osl 0 v 0 l.length)] [.arr 1 v T (l.map fun x => [.int .i64 x])] (fun p σ => p = .c (.osl 0 v 0 (Go.Lib.compact l).length) ∧ σ = [.arr 1 v T ((Go.Lib.compact l).map fun x => [.int .i64 x])]) (fun _ _ => False) := by
 subst hf
 refine ⟨hb, fun G w vs hna hi ha => ?_⟩
 obtain ⟨o, a, ho, hver, rfl, hlc, hx⟩ := un hi ha
 by_cases he : l = []
 ·subst he
  refine (calls_of_every_depth fun D => AnyS.slices_Compact_int_empty_in Ly D a _ w).mono ?_
  rintro e w' ⟨rfl, rfl⟩
  have : Go.Lib.compact ([] : List Int) = [] := List.eq_nil_of_length_eq_zero (Nat.le_zero.1 (pL []))
  rw [this]
  exact ⟨G, _, .c (.osl 0 v 0 0), _, Gle.refl G, hi, ha.1, .inl ⟨rfl, rfl, rfl⟩⟩
 ·obtain ⟨hhas, rfl⟩ := hx he
  obtain ⟨c, fz, hc, hH⟩ := qN hi ho hhas
  refine (calls_of_every_depth fun D => AnyS.slices_Compact_int_in Ly D o.blk 0 o.cap l w hH (by omega) hlc).mono ?_
  rintro e w' ⟨rfl, n, rfl⟩
  have hcl := pL l
  have hg : ∀ (W : World), Go.Sort.grow W #[] = W := fun W => by simp [Go.Sort.grow]
  have := pK (n := n) (os := #[]) hi ho hhas hc hcl (d := Go.Lib.compact l ++ List.replicate (l.length - (Go.Lib.compact l).length) 0) (by simp; omega) (List.prefix_append _ _)
  rw [hg] at this
  refine ⟨G, _, .c (.osl 0 v 0 (Go.Lib.compact l).length), _, Gle.refl G, this, ?_, .inl ⟨rfl, rfl, rfl⟩⟩
  obtain ⟨hv0, _⟩ := ha
  obtain ⟨_, oo, hoo, hsl⟩ := hv0
  rw [ho] at hoo
  obtain rfl : some o = oo := by simpa using hoo
  obtain ⟨hcap, a, hae, haddr⟩ := (hsl o rfl).2 hver.symm
  refine ⟨rfl, some o, ho, fun o' ho' => ?_⟩
  obtain rfl : o = o' := by simpa using ho'
  refine ⟨by omega, fun _ => ⟨by omega, some ⟨o.blk, 0, none⟩, by simp, fun h => ⟨_, rfl, fun _ => by simp⟩⟩⟩
end Pam
namespace Pam
open Go
section
variable {P : Program} {E : Env} {σ : List OB}
theorem ry (k : IntKind) (L : List Int) (n : Nat) (h : n < L.length) : (L.map (CV.int k)).getD n .junk = .int k (L.getD n 0) := by
 simp [List.getD, h]
theorem w9 {o : Oper} {T : TypeId} {x i : Operand} {ys : List CV} {k k' : IntKind} {n : Int} (L : List Int) (m : Nat) (ho : o.op = .index T x i) (hx : ev E x = ⟨true, .a ys⟩) (hi : ev E i = ⟨true, .c (.int k' n)⟩)
  (hy : ys = L.map (CV.int k)) (hC : lL P T = true ∧ bt P (P.elem T) = true ∧ P.arrayLen T * P.cellsOf (P.elem T) ≤ L.length ∧ jc P (P.elem T) = false ∧ P.cellsOf (P.elem T) = 1) (hl : P.arrayLen T = m) (hm : L.length = m)
  (h0 : 0 ≤ n) (h1 : n < (m : Int)) : nO P E σ o (.c (.int k (L.getD n.toNat 0))) σ := .quiet fun G a w hs => by
 subst hy
 have h : ∃ C, jz P true T (ev E x) (ev E i) = .ok C (.c ((L.map (CV.int k)).getD n.toNat .junk)) ∧ C := by
  rw [hx, hi]
  refine ⟨_, by unfold jz; rfl, ?_⟩
  exact ⟨fun _ => rfl, fun _ => rfl, hC.1, hC.2.1, by simpa using hC.2.2.1, hC.2.2.2.1, hC.2.2.2.2, fun _ => ⟨h0, by rw [hl]; exact h1⟩⟩
 obtain ⟨C, h, hc⟩ := h
 obtain ⟨r, e1, e2⟩ := qD (P := P) (G := G) (w := w) h hc rfl (cr hs x) (cr hs i)
 have : n.toNat < L.length := by omega
 rw [ry k L n.toNat this] at e2
 exact ⟨r, by simp only [execOp, ho]; exact jE e1, e2⟩
end
end Pam
namespace Pam
open Go
def ins : List Int → Int → List Int
 | [], n => [n]
 | x :: xs, n => if x ≥ n then (if x > n then n :: x :: xs else x :: xs) else x :: ins xs n
theorem rF (l : List Int) (n y : Int) : y ∈ ins l n ↔ y = n ∨ y ∈ l := by
 induction l with
 | nil => simp [ins]
 | cons x xs ih =>
  unfold ins
  split
  ·split
   ·simp
   ·have : x = n := by omega
    subst this; simp
  ·simp only [List.mem_cons, ih]
   constructor
   ·rintro (h | h | h) <;> simp [h]
   ·rintro (h | h | h) <;> simp [h]
theorem tE {l : List Int} (h : l.Pairwise (· < ·)) (n : Int) : (ins l n).Pairwise (· < ·) := by
 induction l with
 | nil => simp [ins]
 | cons x xs ih =>
  obtain ⟨h1, h2⟩ := List.pairwise_cons.1 h
  unfold ins
  split
  ·split
   ·refine List.pairwise_cons.2 ⟨?_, h⟩
    intro a ha
    rcases List.mem_cons.1 ha with rfl | ha
    ·omega
    ·have := h1 a ha; omega
   ·exact h
  ·refine List.pairwise_cons.2 ⟨?_, ih h2⟩
   intro a ha
   rcases (rF xs n a).1 ha with rfl | ha
   ·omega
   ·exact h1 a ha
theorem oN : ∀ {l l' : List Int}, l.Pairwise (· < ·) → l'.Pairwise (· < ·) → (∀ x, x ∈ l ↔ x ∈ l') → l = l'
 | [], [], _, _, _ => rfl
 | [], b :: l', _, _, h => by have := (h b).2 (by simp); simp at this
 | a :: l, [], _, _, h => by have := (h a).1 (by simp); simp at this
 | a :: l, b :: l', hl, hl', h => by
  obtain ⟨h1, h2⟩ := List.pairwise_cons.1 hl
  obtain ⟨k1, k2⟩ := List.pairwise_cons.1 hl'
  have e : a = b := by
   have ha := (h a).1 (by simp)
   have hb := (h b).2 (by simp)
   rcases List.mem_cons.1 ha with e | ha
   ·exact e
   ·rcases List.mem_cons.1 hb with e | hb
    ·exact e.symm
    ·have := h1 b hb; have := k1 a ha; omega
  subst e
  rw [oN h2 k2 fun x => ?_]
  constructor
  ·intro hx
   rcases List.mem_cons.1 ((h x).1 (by simp [hx])) with rfl | h'
   ·have := h1 x hx; omega
   ·exact h'
  ·intro hx
   rcases List.mem_cons.1 ((h x).2 (by simp [hx])) with rfl | h'
   ·have := k1 x hx; omega
   ·exact h'
theorem ve (l : List Int) (x : Int) : x ∈ lQ l ↔ x ∈ l := by simp [lQ, List.mem_mergeSort]
theorem rG (l : List Int) : (lQ l).Pairwise (· ≤ ·) := by
 have := List.pairwise_mergeSort (le := fun x y : Int => decide (x ≤ y)) (by intro a b c; simp; omega) (by intro a b; simp; omega) l
 exact this.imp (by simp)
theorem sF (l : List Int) (x : Int) : x ∈ Go.Lib.compact l ↔ x ∈ l := by
 simp only [Go.Lib.compact, Go.Lib.compactUpTo, List.mem_map, List.mem_filter, List.mem_range]
 constructor
 ·rintro ⟨i, ⟨h1, _⟩, rfl⟩
  simp [h1]
 ·intro hx
  obtain ⟨i, hi, rfl⟩ := List.mem_iff_getElem.1 hx
  have key : ∀ n i (hi : i < l.length), i = n → ∃ j, (j < l.length ∧ Go.Lib.keeps l.toArray j = true) ∧ l.toArray[j]! = l[i] := by
   intro n
   induction n with
   | zero => intro i hi e; subst e; exact ⟨0, ⟨hi, by simp [Go.Lib.keeps]⟩, by simp [hi]⟩
   | succ n ih =>
    intro i hi e
    subst e
    by_cases hk : Go.Lib.keeps l.toArray (n + 1) = true
    ·exact ⟨n + 1, ⟨hi, hk⟩, by simp [hi]⟩
    ·obtain ⟨j, h1, h2⟩ := ih n (by omega) rfl
     refine ⟨j, h1, h2.trans ?_⟩
     have hn : n < l.length := by omega
     simp [Go.Lib.keeps, hi, hn] at hk
     exact hk.symm
  exact key i i hi rfl
theorem pW {l : List Int} (h : l.Pairwise (· ≤ ·)) : (Go.Lib.compact l).Pairwise (· < ·) := by
 simp only [Go.Lib.compact, Go.Lib.compactUpTo, List.pairwise_map]
 have hm : ∀ i j, i ≤ j → (hj : j < l.length) → l.toArray[i]! ≤ l.toArray[j]! := by
  intro i j hij hj
  have hi : i < l.length := by omega
  simp only [List.getElem!_toArray, getElem!_pos l i hi, getElem!_pos l j hj]
  rcases Nat.lt_or_ge i j with h' | h'
  ·exact List.pairwise_iff_getElem.1 h i j hi hj h'
  ·have : i = j := by omega
   subst this; exact Int.le_refl _
 refine List.Pairwise.imp_of_mem ?_ ((List.pairwise_lt_range (n := l.length)).filter _)
 intro i j hi hj hij
 simp only [List.mem_filter, List.mem_range, Go.Lib.keeps, decide_eq_true_eq] at hi hj
 have h1 := hm i (j - 1) (by omega) (by omega)
 have h2 := hm (j - 1) j (by omega) hj.1
 have h3 : l.toArray[j]! ≠ l.toArray[j - 1]! := by
  rcases hj.2 with h' | h'
  ·omega
  ·exact h'
 omega
theorem oU (l : List Int) : Go.Lib.compact (lQ l) = l.foldl ins [] := by
 have key : ∀ (l a : List Int), a.Pairwise (· < ·) → (l.foldl ins a).Pairwise (· < ·) ∧ ∀ x, x ∈ l.foldl ins a ↔ x ∈ a ∨ x ∈ l := by
  intro l
  induction l with
  | nil => intro a ha; simpa using ha
  | cons y l ih =>
   intro a ha
   obtain ⟨h1, h2⟩ := ih (ins a y) (tE ha y)
   refine ⟨h1, fun x => ?_⟩
   rw [List.foldl_cons, h2 x, rF]
   simp only [List.mem_cons]
   constructor
   ·rintro ((h | h) | h) <;> simp [h]
   ·rintro (h | h | h) <;> simp [h]
 obtain ⟨h1, h2⟩ := key l [] List.Pairwise.nil
 refine oN (pW (rG l)) h1 fun x => ?_
 rw [sF, ve, h2]
 simp
end Pam
namespace Pam
open Go
def wX (ops : Array Oper) (l : List Oper) (masks : List Nat) (bar prv : List Bool) (rd : List (List Nat)) : Bool :=
  chk ops l masks bar &&
  (l.zipIdx.all fun (x, i) => e8 x || (x.looksAt ops).all (fun t => (rd.getD i []).contains t) || l.zipIdx.all fun (_, j) => !(prv.getD j false) || js masks i j)
def vP (P : Program) (ops : Array Oper) (pv : List Nat) (E : Env) (σ : List OB) (o : Oper) (bar prv : Bool) (rd : List Nat) (ts : TS) : Prop :=
  dC ops E o.guard = some ts.γ ∧ cy E o.dst ∧
  ((∃ C v, bn P ts.γ E σ o.op = .ok C v ∧ C ∧ (rd.all fun t => uc pv (E.get t).v) = true ∧ ts.e = ⟨ts.γ, v⟩ ∧ ts.σ = σ) ∨
   (ts.γ = true ∧ ∃ C v, bn P ts.γ E σ o.op = .upd C v ts.σ ∧ C ∧ ts.e = ⟨true, v⟩ ∧ (bar = true ∨ Ext σ ts.σ ∨ (prv = true ∧ iD pv σ ts.σ))) ∨
   (∃ C f args r, bn P ts.γ E σ o.op = .call C f args ∧ (ts.γ = true → C ∧ cz P f args r) ∧ args.all PV.noOwn = true ∧ (∀ n, r.ren (cT n []) = r) ∧ ts.e = ⟨ts.γ, r⟩ ∧ ts.σ = σ) ∨
   (ts.γ = false ∧ ts.e = ⟨true, .t []⟩ ∧ ts.σ = σ) ∨
   (ts.γ = true ∧ ∃ C f args p, bn P ts.γ E σ o.op = .call C f args ∧ C ∧ jW P σ f args p ts.σ ∧ ts.e = ⟨true, p⟩ ∧ (bar = true ∨ Ext σ ts.σ)) ∨
   (ts.γ = true ∧ e8 o = true ∧ ∃ v, (∀ E', (∀ x ∈ o.op.operands, ev E' x = ev E x) → ∀ G a w, Sim G E' σ a w → rk P G (execOp a.eval o) w v ts.σ) ∧ ts.e = ⟨true, v⟩ ∧ (bar = true ∨ Ext σ ts.σ ∨ (prv = true ∧ iD pv σ ts.σ))))
def rt (P : Program) (ops : Array Oper) (pv : List Nat) : List Oper → List Bool → List Bool → List (List Nat) → Env → List OB → List TS → Prop
  | [], _, _, _, _, _, tr => tr = []
  | o :: l, bs, ps, rd, E, σ, tr => ∃ ts r, tr = ts :: r ∧ vP P ops pv E σ o (bs.headD false) (ps.headD false) (rd.headD []) ts ∧ rt P ops pv l bs.tail ps.tail rd.tail (E.putD o.dst ts.e) ts.σ r
section
variable {P : Program} {ops : Array Oper} {pv : List Nat}
theorem eP.ofP : ∀ {l : List Oper} {bs ps : List Bool} {rd : List (List Nat)} {E : Env} {σ : List OB} {tr : List TS}, rt P ops pv l bs ps rd E σ tr → eP P ops pv l bs ps rd [] E σ tr
  | [], _, _, _, _, _, _, h => h
  | o :: l, _, _, _, _, _, _, ⟨ts, r, h1, ⟨h2, h3, h4⟩, h5⟩ => ⟨ts, r, h1, ⟨h2, h3, .inl ⟨rfl, h4⟩⟩, eP.ofP h5⟩
theorem vQ {ops : Array Oper} {l : List Oper} {masks : List Nat} {bs ps : List Bool} {rd : List (List Nat)} (h : wX ops l masks bs ps rd = true) : rZ ops l masks bs ps rd [] = true := by
  unfold wX chk at h
  unfold rZ
  rw [show ld ([] : List Bool) = fun _ o => e8 o from by funext i o; exact pz i o]
  exact h
def TRP (P : Program) (ops : Array Oper) (pv : List Nat) (l : List Oper) (bs ps : List Bool) (rd : List (List Nat)) (E : Env) (σ : List OB) (k : Env → List OB → Prop) : Prop :=
  ∃ tr, rt P ops pv l bs ps rd E σ tr ∧ k (ce E l tr l.length) (aQ σ tr l.length)
def so (pv : List Nat) : Nat → List OB → List OB → Prop
  | _, [], _ => True
  | i, a :: as_, b :: bs => (pv.contains i = true ∨ a = b) ∧ so pv (i + 1) as_ bs
  | _, _ :: _, [] => False
theorem sq : ∀ {i : Nat} {σ σ' : List OB}, so pv i σ σ' → σ.length ≤ σ'.length ∧ ∀ b, b + i ∉ pv → b < σ.length → σ'[b]? = σ[b]?
  | _, [], _, _ => ⟨by simp, fun b _ h => by simp at h⟩
  | i, a :: as_, b :: bs, ⟨h1, h2⟩ => by
    obtain ⟨k1, k2⟩ := sq h2
    refine ⟨by simpa using k1, fun c hc hl => ?_⟩
    cases c with
    | zero =>
      rcases h1 with h | h
      · simp at hc; simp at h; exact (hc h).elim
      · simp [h]
    | succ c => simpa using k2 c (by simpa [Nat.add_assoc, Nat.add_comm 1] using hc) (by simpa using hl)
def mg (P : Program) (ops : Array Oper) (pv : List Nat) (γ : Bool) (C : Prop) (f : FuncId) (args : List PV) (o : Oper) (r : List Oper) (bs ps : List Bool) (rd : List (List Nat)) (E : Env) (σ : List OB) (k : Env → List OB → Prop) : Prop :=
  bn P γ E σ o.op = .call C f args → dC ops E o.guard = some γ → TRP P ops pv (o :: r) bs ps rd E σ k
def oq (P : Program) (ops : Array Oper) (pv : List Nat) (γ : Bool) (o : Oper) (r : List Oper) (bs ps : List Bool) (rd : List (List Nat)) (E : Env) (σ : List OB) (k : Env → List OB → Prop) (run : Env → List OB → Prop) : R → Prop
  | .ok C v => cy E o.dst ∧ C ∧ ((rd.headD []).all fun t => uc pv (E.get t).v) = true ∧ run (E.putD o.dst ⟨γ, v⟩) σ
  | .upd C v σ' => cy E o.dst ∧ γ = true ∧ C ∧ (bs.headD false = true ∨ lT σ σ' ∨ (ps.headD false = true ∧ so pv 0 σ σ')) ∧ run (E.putD o.dst ⟨true, v⟩) σ'
  | .call C f args => mg P ops pv γ C f args o r bs ps rd E σ k
  | .bad => False
def gT (P : Program) (ops : Array Oper) (pv : List Nat) : List Oper → List Bool → List Bool → List (List Nat) → Env → List OB → (Env → List OB → Prop) → Prop
  | [], _, _, _, E, σ, k => k E σ
  | o :: r, bs, ps, rd, E, σ, k =>
    match dC ops E o.guard with
    | none => False
    | some false => cy E o.dst ∧ gT P ops pv r bs.tail ps.tail rd.tail (E.putD o.dst ⟨true, .t []⟩) σ k
    | some true => oq P ops pv true o r bs ps rd E σ k (fun E' σ' => gT P ops pv r bs.tail ps.tail rd.tail E' σ' k) (bn P true E σ o.op)
theorem TRP.cons {o : Oper} {r : List Oper} {bs ps : List Bool} {rd : List (List Nat)} {E : Env} {σ : List OB} {k : Env → List OB → Prop} {ts : TS} (h : vP P ops pv E σ o (bs.headD false) (ps.headD false) (rd.headD []) ts) (ht : TRP P ops pv r bs.tail ps.tail rd.tail (E.putD o.dst ts.e) ts.σ k) : TRP P ops pv (o :: r) bs ps rd E σ k := by
  obtain ⟨tr, h1, h2⟩ := ht
  refine ⟨ts :: tr, ⟨ts, tr, rfl, h, h1⟩, ?_⟩
  simpa [ce, aQ] using h2
theorem iE : ∀ (l : List Oper) (bs ps : List Bool) (rd : List (List Nat)) (E : Env) (σ : List OB) (k : Env → List OB → Prop), gT P ops pv l bs ps rd E σ k → TRP P ops pv l bs ps rd E σ k
  | [], bs, ps, rd, E, σ, k, h => ⟨[], rfl, by unfold gT at h; simpa [ce, aQ] using h⟩
  | o :: r, bs, ps, rd, E, σ, k, h => by
    unfold gT at h
    split at h
    · exact h.elim
    · rename_i hγ
      exact TRP.cons (ts := ⟨false, ⟨true, .t []⟩, σ⟩) ⟨hγ, h.1, .inr (.inr (.inr (.inl ⟨rfl, rfl, rfl⟩)))⟩ (iE r _ _ _ _ _ _ h.2)
    · rename_i hγ
      unfold oq at h
      split at h
      · rename_i C v hrun
        obtain ⟨hd, hC, hrd, hr⟩ := h
        exact TRP.cons (ts := ⟨true, ⟨true, v⟩, σ⟩) ⟨hγ, hd, .inl ⟨C, v, hrun, hC, hrd, rfl, rfl⟩⟩ (iE r _ _ _ _ _ _ hr)
      · rename_i C v σ' hrun
        obtain ⟨hd, hg, hC, hb, hr⟩ := h
        refine TRP.cons (ts := ⟨true, ⟨true, v⟩, σ'⟩) ⟨hγ, hd, .inr (.inl ⟨rfl, C, v, hrun, hC, rfl, ?_⟩)⟩ (iE r _ _ _ _ _ _ hr)
        rcases hb with h | h | ⟨h, h'⟩
        · exact .inl h
        · exact .inr (.inl (mG h))
        · exact .inr (.inr ⟨h, by have := sq h'; exact ⟨this.1, fun b hb hl => this.2 b hb hl⟩⟩)
      · rename_i C f args hrun
        exact h hrun hγ
      · exact h.elim
theorem qo {γ : Bool} {C : Prop} {f : FuncId} {args : List PV} {o : Oper} {r : List Oper} {bs ps : List Bool} {rd : List (List Nat)} {E : Env} {σ : List OB} {k : Env → List OB → Prop} {res : PV}
    (hs : γ = true → cz P f args res) (hd : cy E o.dst) (hC : γ = true → C) (hargs : args.all PV.noOwn = true) (hres : ∀ n, res.ren (cT n []) = res)
    (next : gT P ops pv r bs.tail ps.tail rd.tail (E.putD o.dst ⟨γ, res⟩) σ k) : mg P ops pv γ C f args o r bs ps rd E σ k := fun hrun hγ =>
  TRP.cons (ts := ⟨γ, ⟨γ, res⟩, σ⟩) ⟨hγ, hd, .inr (.inr (.inl ⟨C, f, args, res, hrun, fun h => ⟨hC h, hs h⟩, hargs, hres, rfl, rfl⟩))⟩ (iE r _ _ _ _ _ _ next)
theorem sr {C : Prop} {f : FuncId} {args : List PV} {o : Oper} {r : List Oper} {bs ps : List Bool} {rd : List (List Nat)} {E : Env} {σ σ2 : List OB} {k : Env → List OB → Prop} {res : PV}
    (hs : jW P σ f args res σ2) (hd : cy E o.dst) (hC : C) (hb : bs.headD false = true ∨ lT σ σ2)
    (next : gT P ops pv r bs.tail ps.tail rd.tail (E.putD o.dst ⟨true, res⟩) σ2 k) : mg P ops pv true C f args o r bs ps rd E σ k := fun hrun hγ =>
  TRP.cons (ts := ⟨true, ⟨true, res⟩, σ2⟩) ⟨hγ, hd, .inr (.inr (.inr (.inr (.inl ⟨rfl, C, f, args, res, hrun, hC, hs, rfl, hb.imp id mG⟩))))⟩ (iE r _ _ _ _ _ _ next)
theorem wY {id : Nat} {l : List Oper} {K : Kt} {E : Env} {σ : List OB} (hm : P.follows .mixedOrders = true) (pv masks : List Nat) (bs ps : List Bool) (rd : List (List Nat)) (hc : wX l.toArray l masks bs ps rd = true)
    (h : TRP P l.toArray pv l bs ps rd E σ (K .normal)) : W P (.region id l.toArray true) K E σ := by
  obtain ⟨tr, ht, hk⟩ := h
  exact rn hm pv masks bs ps rd [] (vQ hc) ⟨tr, eP.ofP ht, hk⟩
theorem ru {id : Nat} {l : List Oper} {y : Code} {K : Kt} {E : Env} {σ : List OB} (ms : List Nat) (hm : P.follows .mixedOrders = true) (pv masks : List Nat) (bs ps : List Bool) (rd : List (List Nat)) (hc : wX l.toArray l masks bs ps rd = true)
    (h : ∀ (k : Env → List OB → Prop), (∀ E σ, W P y K E σ → k E σ) → gT P l.toArray pv l bs ps rd E σ (fun E σ => k (E.forget ms) σ)) : W P (.seq (.region id l.toArray true) y) K E σ :=
  oD (wY hm pv masks bs ps rd hc (by
    obtain ⟨tr, h1, h2⟩ := iE l bs ps rd E σ _ (h (W P y K) fun _ _ h => h)
    exact ⟨tr, h1, kM ms h2⟩))
end
def bAP := And.intro (And.intro (And.intro @gT.eq_1 @gT.eq_2) bL) (And.intro bM (And.intro (And.intro @oq.eq_1 @oq.eq_2) (And.intro @oq.eq_3 @oq.eq_4)))
end Pam
namespace Pam
open Go
section
variable {P : Program} {ops : Array Oper}
theorem aM {l : List Oper} {bs : List Bool} {E : Env} {σ : List OB} {k : Env → List OB → Prop} (h : gn P ops l bs E σ k) : TR P ops l bs E σ k := gL l bs E σ k h
theorem ul : ∀ {l l' : List Oper} {bs bs' : List Bool} {E : Env} {σ : List OB} {k : Env → List OB → Prop}, bs.length = l.length → TR P ops l bs E σ (fun E' σ' => TR P ops l' bs' E' σ' k) → TR P ops (l ++ l') (bs ++ bs') E σ k
 | [], l', bs, bs', E, σ, k, hl, ⟨tr, h1, h2⟩ => by
  have : bs = [] := List.eq_nil_of_length_eq_zero (by simpa using hl)
  subst this
  simp only [lN] at h1
  subst h1
  simpa [ce, aQ] using h2
 | o :: l, l', bs, bs', E, σ, k, hl, ⟨tr, h1, h2⟩ => by
  obtain ⟨ts, r, rfl, h3, h4⟩ := h1
  match bs, hl with
  | b :: bs, hl =>
   refine TR.cons (bs := b :: bs ++ bs') (ts := ts) ?_ ?_
   ·simpa using h3
   ·exact ul (by simpa using hl) ⟨r, h4, by simpa [ce, aQ] using h2⟩
theorem bV (n : Nat) {l : List Oper} {bs : List Bool} {E : Env} {σ : List OB} {k : Env → List OB → Prop} (hn : bs.length = l.length) (h : gn P ops (l.take n) (bs.take n) E σ (fun E' σ' => TR P ops (l.drop n) (bs.drop n) E' σ' k)) : TR P ops l bs E σ k := by
 have := ul (by simp [hn]) (gL _ _ _ _ _ h)
 rwa [List.take_append_drop, List.take_append_drop] at this
theorem qn {γ : Bool} {C : Prop} {f : FuncId} {args : List PV} {o : Oper} {r : List Oper} {bs : List Bool} {E : Env} {σ : List OB} {k : Env → List OB → Prop} {res : PV}
  (hs : γ = true → cz P f args res) (hd : cy E o.dst) (hC : γ = true → C) (hargs : args.all PV.noOwn = true) (hres : ∀ n, res.ren (cT n []) = res)
  (next : TR P ops r bs.tail (E.putD o.dst ⟨γ, res⟩) σ k) : jH P ops γ C f args o r bs E σ k := fun hrun hγ =>
 TR.cons (ts := ⟨γ, ⟨γ, res⟩, σ⟩) ⟨hγ, hd, .inr (.inr (.inl ⟨C, f, args, res, hrun, fun h => ⟨hC h, hs h⟩, hargs, hres, rfl, rfl⟩))⟩ next
theorem sn {C : Prop} {f : FuncId} {args : List PV} {o : Oper} {r : List Oper} {bs : List Bool} {E : Env} {σ σ2 : List OB} {k : Env → List OB → Prop} {res : PV}
  (hs : jW P σ f args res σ2) (hd : cy E o.dst) (hC : C) (hb : bs.headD false = true ∨ lT σ σ2)
  (next : TR P ops r bs.tail (E.putD o.dst ⟨true, res⟩) σ2 k) : jH P ops true C f args o r bs E σ k := fun hrun hγ =>
 TR.cons (ts := ⟨true, ⟨true, res⟩, σ2⟩) ⟨hγ, hd, .inr (.inr (.inr (.inr (.inl ⟨rfl, C, f, args, res, hrun, hC, hs, rfl, hb.imp id mG⟩))))⟩ next
theorem wW {id : Nat} {l : List Oper} {K : Kt} {E : Env} {σ : List OB} (hm : P.follows .mixedOrders = true) (masks : List Nat) (bs : List Bool) (hc : chk l.toArray l masks bs = true)
  (h : ∀ (k : Env → List OB → Prop), (∀ E σ, K .normal E σ → k E σ) → TR P l.toArray l bs E σ k) : W P (.region id l.toArray true) K E σ :=
 rp hm masks bs hc (h (K .normal) fun _ _ h => h)
theorem fa {id : Nat} {l : List Oper} {y : Code} {K : Kt} {E : Env} {σ : List OB} (ms : List Nat) (hm : P.follows .mixedOrders = true) (masks : List Nat) (bs : List Bool) (hc : chk l.toArray l masks bs = true)
  (h : ∀ (k : Env → List OB → Prop), (∀ E σ, W P y K E σ → k E σ) → TR P l.toArray l bs E σ (fun E σ => k (E.forget ms) σ)) : W P (.seq (.region id l.toArray true) y) K E σ :=
 oD (rp hm masks bs hc (by
  obtain ⟨tr, h1, h2⟩ := h (W P y K) fun _ _ h => h
  exact ⟨tr, h1, kM ms h2⟩))
end
end Pam
namespace Pam
open Go
section
variable {P : Program} {ops : Array Oper}
variable {pv : List Nat}
end
end Pam
namespace Pam
open Go
section
variable {P : Program} {ops : Array Oper} {pv : List Nat}
theorem TRQ.cons {o : Oper} {r : List Oper} {bs ps : List Bool} {rd : List (List Nat)} {lt : List Bool} {E : Env} {σ : List OB} {k : Env → List OB → Prop} {ts : TS} (h : tn P ops pv E σ o (bs.headD false) (ps.headD false) (rd.headD []) (lt.headD false) ts) (ht : TRQ P ops pv r bs.tail ps.tail rd.tail lt.tail (E.putD o.dst ts.e) ts.σ k) : TRQ P ops pv (o :: r) bs ps rd lt E σ k := by
 obtain ⟨tr, h1, h2⟩ := ht
 refine ⟨ts :: tr, ⟨ts, tr, rfl, h, h1⟩, ?_⟩
 simpa [ce, aQ] using h2
theorem vR : ∀ {l : List Oper} {bs ps : List Bool} {rd : List (List Nat)} {lt : List Bool} {E : Env} {σ : List OB} {k : Env → List OB → Prop}, lt.any id = false → TRP P ops pv l bs ps rd E σ k → TRQ P ops pv l bs ps rd lt E σ k
 | [], _, _, _, _, _, _, _, _, ⟨tr, h1, h2⟩ => by
  simp only [rt] at h1
  subst h1
  exact ⟨[], rfl, h2⟩
 | o :: l, bs, ps, rd, lt, E, σ, k, hl, ⟨tr, h1, h2⟩ => by
  obtain ⟨ts, r, rfl, h3, h4⟩ := h1
  have hh : lt.headD false = false ∧ lt.tail.any id = false := by
   cases lt with
   | nil => exact ⟨rfl, rfl⟩
   | cons a lt => simpa using hl
  exact TRQ.cons (ts := ts) ⟨h3.1, h3.2.1, .inl ⟨hh.1, h3.2.2⟩⟩ (vR hh.2 ⟨r, h4, by simpa [ce, aQ] using h2⟩)
theorem um {l : List Oper} {bs ps : List Bool} {rd : List (List Nat)} {lt : List Bool} {E : Env} {σ : List OB} {k : Env → List OB → Prop} (hl : lt.any id = false) (h : gT P ops pv l bs ps rd E σ k) : TRQ P ops pv l bs ps rd lt E σ k := vR hl (iE l bs ps rd E σ k h)
theorem ss : ∀ {l l' : List Oper} {bs bs' ps ps' lt lt' : List Bool} {rd rd' : List (List Nat)} {E : Env} {σ : List OB} {k : Env → List OB → Prop}, bs.length = l.length → ps.length = l.length → rd.length = l.length → lt.length = l.length →
  TRQ P ops pv l bs ps rd lt E σ (fun E' σ' => TRQ P ops pv l' bs' ps' rd' lt' E' σ' k) → TRQ P ops pv (l ++ l') (bs ++ bs') (ps ++ ps') (rd ++ rd') (lt ++ lt') E σ k
 | [], l', bs, bs', ps, ps', lt, lt', rd, rd', E, σ, k, hl, hl2, hl3, hl4, ⟨tr, h1, h2⟩ => by
  have e1 : bs = [] := List.eq_nil_of_length_eq_zero (by simpa using hl)
  have e2 : ps = [] := List.eq_nil_of_length_eq_zero (by simpa using hl2)
  have e3 : rd = [] := List.eq_nil_of_length_eq_zero (by simpa using hl3)
  have e4 : lt = [] := List.eq_nil_of_length_eq_zero (by simpa using hl4)
  subst e1; subst e2; subst e3; subst e4
  simp only [eP] at h1
  subst h1
  simpa [ce, aQ] using h2
 | o :: l, l', bs, bs', ps, ps', lt, lt', rd, rd', E, σ, k, hl, hl2, hl3, hl4, ⟨tr, h1, h2⟩ => by
  obtain ⟨ts, r, rfl, h3, h4⟩ := h1
  match bs, hl, ps, hl2, rd, hl3, lt, hl4 with
  | b :: bs, hl, p :: ps, hl2, q :: rd, hl3, t :: lt, hl4 =>
   refine TRQ.cons (bs := b :: bs ++ bs') (ps := p :: ps ++ ps') (rd := q :: rd ++ rd') (lt := t :: lt ++ lt') (ts := ts) ?_ ?_
   ·simpa using h3
   ·exact ss (by simpa using hl) (by simpa using hl2) (by simpa using hl3) (by simpa using hl4) ⟨r, h4, by simpa [ce, aQ] using h2⟩
theorem wZ (n : Nat) {l : List Oper} {bs ps lt : List Bool} {rd : List (List Nat)} {E : Env} {σ : List OB} {k : Env → List OB → Prop} (hn : bs.length = l.length) (hn2 : ps.length = l.length) (hn3 : rd.length = l.length) (hn4 : lt.length = l.length) (hl : (lt.take n).any id = false)
  (h : gT P ops pv (l.take n) (bs.take n) (ps.take n) (rd.take n) E σ (fun E' σ' => TRQ P ops pv (l.drop n) (bs.drop n) (ps.drop n) (rd.drop n) (lt.drop n) E' σ' k)) : TRQ P ops pv l bs ps rd lt E σ k := by
 have := ss (by simp [hn]) (by simp [hn2]) (by simp [hn3]) (by simp [hn4]) (um hl h)
 rwa [List.take_append_drop, List.take_append_drop, List.take_append_drop, List.take_append_drop, List.take_append_drop] at this
theorem iD.set {pv : List Nat} {σ : List OB} {b : Nat} {ob : OB} (h : pv.contains b = true) : iD pv σ (σ.set b ob) :=
 ⟨by simp, fun c hc _ => by
  have : b ≠ c := fun e => by subst e; exact hc (by simpa using h)
  rw [List.getElem?_set_ne this]⟩
theorem w4 {o : Oper} {l : List Oper} {bs ps lt : List Bool} {rd : List (List Nat)} {E : Env} {σ : List OB} {k : Env → List OB → Prop} {v : PV} {b : Nat} {ob : OB} (hl : e8 o = true) (ht : lt.headD false = false)
  (hx : ∀ E', (∀ x ∈ o.op.operands, ev E' x = ev E x) → nO P E' σ o v (σ.set b ob)) (hg : dC ops E o.guard = some true) (hd : cy E o.dst) (hp : ps.headD false = true) (hb : pv.contains b = true)
  (next : TRQ P ops pv l bs.tail ps.tail rd.tail lt.tail (E.putD o.dst ⟨true, v⟩) (σ.set b ob) k) : TRQ P ops pv (o :: l) bs ps rd lt E σ k :=
 TRQ.cons (ts := ⟨true, ⟨true, v⟩, σ.set b ob⟩) ⟨hg, hd, .inl ⟨ht, .inr (.inr (.inr (.inr (.inr ⟨rfl, hl, v, hx, rfl, .inr (.inr ⟨hp, .set hb⟩)⟩))))⟩⟩ next
theorem w7 {id : Nat} {l : List Oper} {K : Kt} {E : Env} {σ : List OB} (hm : P.follows .mixedOrders = true) (pv masks : List Nat) (bs ps : List Bool) (rd : List (List Nat)) (lt : List Bool) (hc : rZ l.toArray l masks bs ps rd lt = true)
  (h : ∀ (k : Env → List OB → Prop), (∀ E σ, K .normal E σ → k E σ) → TRQ P l.toArray pv l bs ps rd lt E σ k) : W P (.region id l.toArray true) K E σ :=
 rn hm pv masks bs ps rd lt hc (h (K .normal) fun _ _ h => h)
end
end Pam
namespace Pam
open Go
section
variable {P : Program} {ops : Array Oper}
end
end Pam
namespace Pam
open Go
section
variable {P : Program} {ops : Array Oper} {pv : List Nat} {E E' : Env} {σ σ' σ2 : List OB} {k : Env → List OB → Prop} {kp : PV → Env → List OB → Prop}
theorem kr {rs : List ResultVar} {n : Nat} {post pp : PV → List OB → Prop} (N : Nat)
  (h : match gV P E σ rs with | some (C, ps) => C ∧ ps.all PV.isV = true ∧ (kN (σ.take N) σ ∧ n ≤ (σ.take N).length ∧ cg (σ.take N).length (σ.take N) ∧ (gQ ps).underP (σ.take N).length ∧ post (gQ ps) (σ.take N)) | none => False := by
   simp only [List.take_succ_cons, List.take_zero, List.take_nil, bF, bT, tab, bX, Sum.elim_inl, Sum.elim_inr, reduceIte, ↓reduceIte, reduceCtorEq, Int.reduceToNat, Nat.reduceDiv, Nat.reduceMod, Nat.reduceLT, Nat.reduceLeDiff, Nat.reduceAdd, Nat.reduceSub, Nat.reduceMul, Nat.reduceEqDiff, Nat.reduceBEq, Nat.reduceBNe, Nat.reduceGT] <;> first | done | rfl | (and_intros <;> first | rfl | omega | (simp; done) | (simp [eK, eB, eS, eL]; done) | (simp [lit, bX, eK, eB, eS, eL]; done) | (simp [CV.under, dD]; done))) : ma P rs (uR n post) pp .ret E σ := qL (σ.take N) h
theorem kn {rs : List ResultVar} {n : Nat} {post pp : PV → List OB → Prop} (N : Nat)
  (h : match gV P E σ rs with | some (C, ps) => C ∧ ps.all PV.isV = true ∧ (kN (σ.take N) σ ∧ n ≤ (σ.take N).length ∧ cg (σ.take N).length (σ.take N) ∧ (gQ ps).underP (σ.take N).length ∧ post (gQ ps) (σ.take N)) | none => False := by
   simp only [List.take_succ_cons, List.take_zero, List.take_nil, bF, bT, tab, bX, Sum.elim_inl, Sum.elim_inr, reduceIte, ↓reduceIte, reduceCtorEq, Int.reduceToNat, Nat.reduceDiv, Nat.reduceMod, Nat.reduceLT, Nat.reduceLeDiff, Nat.reduceAdd, Nat.reduceSub, Nat.reduceMul, Nat.reduceEqDiff, Nat.reduceBEq, Nat.reduceBNe, Nat.reduceGT] <;> first | done | rfl | (and_intros <;> first | rfl | omega | (simp; done) | (simp [eK, eB, eS, eL]; done) | (simp [lit, bX, eK, eB, eS, eL]; done) | (simp [CV.under, dD]; done))) : ma P rs (uR n post) pp .normal E σ := uS (σ.take N) h
theorem sp {p q : Prop} (hq : q) (hp : p := by first | omega | assumption | decide | exact eN fun _ => rfl | (intro _; omega) | rfl | exact fun e => absurd (List.map_eq_nil_iff.1 e) (by assumption) | (and_intros <;> first | omega | assumption | decide | exact eN fun _ => rfl) | (refine .inl ?_; simp only [lT]; and_intros <;> first | rfl | trivial) | (refine .inr (.inl ?_); simp only [lT]; and_intros <;> first | rfl | trivial) | (refine .inr ?_; simp only [so]; and_intros <;> first | exact .inl rfl | exact .inr rfl | trivial) | (refine .inr (.inr ⟨rfl, ?_⟩); simp only [so]; and_intros <;> first | exact .inl rfl | exact .inr rfl | trivial) | exact .inl rfl) : p ∧ q := ⟨hp, hq⟩
theorem gp {p q : Prop} (hq : q) (h : Bx q → p := by
  intro hq
  simp only [bAP, bT, tab, bX, reduceIte, ↓reduceIte, reduceCtorEq, Int.reduceToNat, Nat.reduceDiv, Nat.reduceMod, Nat.reduceLT, Nat.reduceLeDiff, Nat.reduceAdd, Nat.reduceSub, Nat.reduceMul, Nat.reduceEqDiff, Nat.reduceBEq, Nat.reduceBNe, Nat.reduceGT, List.replicate, List.foldr]
  repeat refine sp ?_
  exact hq.1) : p := h ⟨hq⟩
theorem gpx {p q F : Prop} (fx : F) (hq : q) (h : F → Bx q → p := by
  intro fx hq
  simp only [bAP, bT, tab, bX, reduceIte, ↓reduceIte, reduceCtorEq, Int.reduceToNat, Nat.reduceDiv, Nat.reduceMod, Nat.reduceLT, Nat.reduceLeDiff, Nat.reduceAdd, Nat.reduceSub, Nat.reduceMul, Nat.reduceEqDiff, Nat.reduceBEq, Nat.reduceBNe, Nat.reduceGT, List.replicate, List.foldr, fx]
  repeat refine sp ?_
  exact hq.1) : p := h fx ⟨hq⟩
theorem gt {p q : Prop} (hq : q) (h : Bx q → p := by
  intro hq
  simp only [bR, bT, tab, bX, reduceIte, ↓reduceIte, reduceCtorEq, Int.reduceToNat, Nat.reduceDiv, Nat.reduceMod, Nat.reduceLT, Nat.reduceLeDiff, Nat.reduceAdd, Nat.reduceSub, Nat.reduceMul, Nat.reduceEqDiff, Nat.reduceBEq, Nat.reduceBNe, Nat.reduceGT, bZ]
  repeat refine sd ?_
  exact hq.1) : p := h ⟨hq⟩
theorem gtx {p q F : Prop} (fx : F) (hq : q) (h : F → Bx q → p := by
  intro fx hq
  simp only [bR, bT, tab, bX, reduceIte, ↓reduceIte, reduceCtorEq, Int.reduceToNat, Nat.reduceDiv, Nat.reduceMod, Nat.reduceLT, Nat.reduceLeDiff, Nat.reduceAdd, Nat.reduceSub, Nat.reduceMul, Nat.reduceEqDiff, Nat.reduceBEq, Nat.reduceBNe, Nat.reduceGT, bZ, fx]
  repeat refine sd ?_
  exact hq.1) : p := h fx ⟨hq⟩
theorem gl {p q : Prop} (hq : q) (h : Bx q → p := by
  intro hq
  simp only [bAP, bT, tab, bX, reduceIte, ↓reduceIte, reduceCtorEq, Int.reduceToNat, Nat.reduceDiv, Nat.reduceMod, Nat.reduceLT, Nat.reduceLeDiff, Nat.reduceAdd, Nat.reduceSub, Nat.reduceMul, Nat.reduceEqDiff, Nat.reduceBEq, Nat.reduceBNe, Nat.reduceGT, List.tail_cons]
  exact hq.1) : p := h ⟨hq⟩
theorem la {p : Prop} (h : p := by first | (simp only [bS, bX, reduceIte, ↓reduceIte, reduceCtorEq, Int.reduceToNat, Nat.reduceDiv, Nat.reduceMod, Nat.reduceLT, Nat.reduceLeDiff, Nat.reduceAdd, Nat.reduceSub, Nat.reduceMul, Nat.reduceEqDiff, Nat.reduceBEq, Nat.reduceBNe, Nat.reduceGT] <;> first | done | (and_intros <;> first | rfl | (simp; done) | omega | (simp [lit, bX, eK, eB, eS, eL]; done) | (simp only [kw, List.length_cons, List.length_nil, List.length_append, List.length_set, List.length_replicate, List.length_map, List.length_take, List.length_drop]; omega))) | (simp only [bS, bX, reduceIte, ↓reduceIte, reduceCtorEq, Int.reduceToNat, Nat.reduceDiv, Nat.reduceMod, Nat.reduceLT, Nat.reduceLeDiff, Nat.reduceAdd, Nat.reduceSub, Nat.reduceMul, Nat.reduceEqDiff, Nat.reduceBEq, Nat.reduceBNe, Nat.reduceGT, *] <;> first | done | (and_intros <;> first | rfl | (simp; done) | omega | (simp [lit, bX, eK, eB, eS, eL]; done) | (simp only [kw, List.length_cons, List.length_nil, List.length_append, List.length_set, List.length_replicate, List.length_map, List.length_take, List.length_drop]; omega)))) : p := h
theorem ct {f : FuncId} {args : List PV} {p : PV} (ρ : List Nat) {args' : List PV} {σc : List OB} {post pp : PV → List OB → Prop} (hs : eZ P f args' σc post pp)
  (h1 : ρ.Nodup := by simp) (h2 : ∀ b ∈ ρ, b < σ.length := by simp) (h3 : args = args'.map (PV.ren (cT σ.length ρ)) := by exact rfl) (h4 : ρ.map (fun b => σ[b]?) = σc.map (fun ob => some (ob.ren (cT σ.length ρ))) := by exact rfl)
  (h5 : ii ρ.length args' := by first | trivial | (simp [bX, eK, eB, eS, eL, sc, ii, PV.under, CV.under, cg, OB.under, dD]; done)) (h6 : cg ρ.length σc := by first | trivial | (simp [bX, eK, eB, eS, eL, sc, ii, PV.under, CV.under, cg, OB.under, dD]; done))
  (h7 : ∀ q τ, post q τ → ρ.length ≤ τ.length → q.ren (cT σ.length ρ) = p ∧ cB σ ρ (τ.map (OB.ren (cT σ.length ρ))) = σ2 := by intro q τ hq _; obtain ⟨rfl, rfl⟩ := hq; exact ⟨rfl, rfl⟩) (h8 : ∀ q τ, pp q τ → False := by exact fun _ _ h => h.elim) : jW P σ f args p σ2 := ⟨args', σc, post, pp, ρ, hs, h1, h2, h3, h4, h5, h6, h7, h8⟩
theorem ca {C : Prop} {f : FuncId} {args : List PV} {o : Oper} {r : List Oper} {bs : List Bool} {res : PV} {ops : Array Oper} (hs : jW P σ f args res σ2) (next : gn P ops r bs.tail (E.putD o.dst ⟨true, res⟩) σ2 k)
  (hd : cy E o.dst := by first | trivial | exact jY rfl) (hC : C := by first | trivial | (intro _; first | trivial | simp [aF]) | simp [aF]) (hb : bs.headD false = true ∨ lT σ σ2 := by first | exact .inl rfl | exact .inr (by simp only [lT]; and_intros <;> first | rfl | trivial)) : jH P ops true C f args o r bs E σ k := tt hs hd hC hb next
theorem cat {C : Prop} {f : FuncId} {args : List PV} {o : Oper} {r : List Oper} {bs : List Bool} {res : PV} {ops : Array Oper} (hs : jW P σ f args res σ2) (next : TR P ops r bs.tail (E.putD o.dst ⟨true, res⟩) σ2 k)
  (hd : cy E o.dst := by first | trivial | exact jY rfl) (hC : C := by first | trivial | (intro _; first | trivial | simp [aF]) | simp [aF]) (hb : bs.headD false = true ∨ lT σ σ2 := by first | exact .inl rfl | exact .inr (by simp only [lT]; and_intros <;> first | rfl | trivial)) : jH P ops true C f args o r bs E σ k := sn hs hd hC hb next
theorem cap {C : Prop} {f : FuncId} {args : List PV} {o : Oper} {r : List Oper} {bs ps : List Bool} {rd : List (List Nat)} {res : PV} {ops : Array Oper} (hs : jW P σ f args res σ2) (next : gT P ops pv r bs.tail ps.tail rd.tail (E.putD o.dst ⟨true, res⟩) σ2 k)
  (hd : cy E o.dst := by first | trivial | exact jY rfl) (hC : C := by first | trivial | (intro _; first | trivial | simp [aF]) | simp [aF]) (hb : bs.headD false = true ∨ lT σ σ2 := by first | exact .inl rfl | exact .inr (by simp only [lT]; and_intros <;> first | rfl | trivial)) : mg P ops pv true C f args o r bs ps rd E σ k := sr hs hd hC hb next
theorem pat {γ : Bool} {C : Prop} {f : FuncId} {args : List PV} {o : Oper} {r : List Oper} {bs : List Bool} {res : PV} (hs : γ = true → cz P f args res) (next : TR P ops r bs.tail (E.putD o.dst ⟨γ, res⟩) σ k)
  (hd : cy E o.dst := by first | trivial | exact jY rfl) (hC : γ = true → C := by first | trivial | (intro _; first | trivial | simp [aF]) | simp [aF]) (hargs : args.all PV.noOwn = true := by exact rfl) (hres : ∀ n, res.ren (cT n []) = res := by exact fun _ => rfl) : jH P ops γ C f args o r bs E σ k := qn hs hd hC hargs hres next
theorem pap {γ : Bool} {C : Prop} {f : FuncId} {args : List PV} {o : Oper} {r : List Oper} {bs ps : List Bool} {rd : List (List Nat)} {res : PV} (hs : γ = true → cz P f args res) (next : gT P ops pv r bs.tail ps.tail rd.tail (E.putD o.dst ⟨γ, res⟩) σ k)
  (hd : cy E o.dst := by first | trivial | exact jY rfl) (hC : γ = true → C := by first | trivial | (intro _; first | trivial | simp [aF]) | simp [aF]) (hargs : args.all PV.noOwn = true := by exact rfl) (hres : ∀ n, res.ren (cT n []) = res := by exact fun _ => rfl) : mg P ops pv γ C f args o r bs ps rd E σ k := qo hs hd hC hargs hres next
end
end Pam
namespace Pam
open Go
section
variable {P : Program} {E : Env} {σ : List OB}
def cI (l : List Int) : List (List CV) := l.map fun x => [CV.int .i64 x]
theorem kS (P : Program) (g o : Nat) (t : TypeId) (fz : Nat × Nat) : ∀ (vs : List Value) (i : Nat) (cur : Array Value) (w : World),
  w.heap[g]? = some (.cells cur t fz) → (fz = (0, 0) ∨ cur.size ≤ fz.1) → o + i + vs.length ≤ cur.size → (∀ v ∈ vs, v.oneCell' = true) →
  (storeCells ⟨g, o, none⟩ vs i).run P w = .ok () (w.setRow g (cur.toList.take (o + i) ++ vs ++ cur.toList.drop (o + i + vs.length)).toArray)
 | [], i, cur, w, hg, _, _, _ => by
  simp only [storeCells, List.append_nil, List.length_nil, Nat.add_zero, List.take_append_drop, Array.toArray_toList]
  rw [setRow_self w g cur t fz hg]
  rfl
 | v :: rest, i, cur, w, hg, hfz, hl, h1 => by
  have hi : o + i < cur.size := by simp at hl; omega
  have hadd : (⟨g, o, none⟩ : Addr).add i = ⟨g, o + i, none⟩ := by unfold Addr.add; split <;> simp_all
  have hcell : w.cell? ⟨g, o + i, none⟩ = some cur[o + i] := by simp [World.cell?, hg, hi]
  have hfro : w.frozen? ⟨g, o + i, none⟩ = false := by
   simp only [World.frozen?, hg]
   rcases hfz with rfl | hfz
   ·simp
   ·obtain ⟨a, b⟩ := fz
    simp at hfz ⊢
    omega
  have hst : (store ((⟨g, o, none⟩ : Addr).add i) v).run P w = .ok () (w.setRow g (cur.setIfInBounds (o + i) v)) := by
   rw [hadd, run_store P w _ v _ (h1 v (by simp)), hcell]
   simp [hfro, setCell_eq_setRow w g (o + i) cur t fz v hg]
  have ih := kS P g o t fz rest (i + 1) (cur.setIfInBounds (o + i) v) (w.setRow g (cur.setIfInBounds (o + i) v)) (setRow_heap w g cur _ t _ hg) (by rcases hfz with h | h; exact .inl h; exact .inr (by simpa using h)) (by simp at hl ⊢; omega) (fun x hx => h1 x (by simp [hx]))
  simp only [storeCells, Sem.run_bind, hst, Result.andThen_ok, ih, mW]
  congr 3
  have e := list_seg_step cur.toList (o + i) v rest (by simp at hl ⊢; omega)
  simpa [Array.toList_setIfInBounds, Nat.add_assoc] using e
def vS (P : Program) (E : Env) (σ : List OB) (y : Operand) (m : List Int) : Prop := ∀ G a w, Sim G E σ a w →
 ∃ base cap, a.eval y = .slice base m.length cap ∧ (m ≠ [] → ∃ ad, base = some ad ∧ ∀ (j : Nat) (v : Int), m[j]? = some v → w.cell? (ad.add j) = some (.int .i64 v))
theorem vT (g o j : Nat) : (⟨g, o, none⟩ : Addr).add j = ⟨g, o + j, none⟩ := by unfold Addr.add; split <;> simp_all
theorem w8 {y : Operand} {b ver lo k : Nat} {T : TypeId} {l m : List Int} (hy : ev E y = ⟨true, .c (.osl b ver lo k)⟩) (hσ : σ[b]? = some (.arr 1 ver T (cI l))) (hm : m = (l.drop lo).take k) (hk : lo + k ≤ l.length) : vS P E σ y m := fun G a w hs => by
 obtain ⟨og, s', T'', es', hb', hown, hov, hosz, ⟨hcap, ad, hval, hha⟩, hok⟩ := iG hs.inv (si hσ) (xE hs hy)
 have hml : m.length = k := by rw [hm]; simp; omega
 rw [hσ] at hb'
 simp only [sJ, OB.arr.injEq] at hb'
 obtain ⟨rfl, _, rfl, rfl⟩ := hb'
 obtain ⟨o2, g1, g2, g3, g4, g5, g6, g7, g8, g9⟩ := hok
 rw [hown] at g1
 simp only [sJ] at g1
 subst g1
 refine ⟨ad, og.cap - lo, by rw [hval, hml], fun hne => ?_⟩
 have hpos : 0 < k := by rw [← hml]; exact List.length_pos_iff.2 hne
 have hh : og.has = true := by
  cases hh : og.has with
  | true => rfl
  | false => have := g8 hh; omega
 obtain ⟨a', rfl, ha'⟩ := hha hh
 obtain ⟨c, fz, hblk, hfz, hcs, hcells⟩ := g9 hh
 refine ⟨a', rfl, fun j v hj => ?_⟩
 have hjk : j < k := by rw [← hml]; exact (List.getElem?_eq_some_iff.1 hj).1
 rw [ha' (by omega), vT, hosz]
 have hlj : l[lo + j]? = some v := by
  rw [hm] at hj
  rw [List.getElem?_take_of_lt hjk, List.getElem?_drop] at hj
  exact hj
 have he : (cI l)[lo + j]? = some [CV.int .i64 v] := by simp [cI, hlj]
 obtain ⟨x, x1, x2⟩ := hcells (lo + j) 0 _ (.int .i64 v) he rfl
 cases x2
 simp only [World.cell?, hblk]
 rw [show lo * 1 + j = (lo + j) * 1 + 0 by omega]
 exact x1
theorem qO {o : Oper} {c : Call} {T T' : TypeId} {x y : Operand} {b ver lo n : Nat} {Ty : TypeId} {l m : List Int} (ho : o.op = .call c) (hc : c.callee = .builtin .copy) (hts : c.argTypes = #[T, T']) (has : c.args = #[x, y])
  (hx : ev E x = ⟨true, .c (.osl b ver lo n)⟩) (hσ : σ[b]? = some (.arr 1 ver Ty (cI l))) (hn : lo + n ≤ l.length) (hT : fN P T = true) (hi : (P.info? (P.elem T)).map (·.size) = some 1) (hy : vS P E σ y m) :
  nO P E σ o (.c (.int .i64 ((min m.length n : Nat) : Int))) (σ.set b (.arr 1 ver Ty (cI (l.take lo ++ m.take n ++ l.drop (lo + min m.length n))))) := fun G a w hs => by
 have hinv := hs.inv
 have hu := dV hT
 obtain ⟨base, cap, hyv, hyc⟩ := hy G a w hs
 obtain ⟨og, s', T'', es', hb', hown, hov, hosz, ⟨hcap, ad, hval, hha⟩, hok⟩ := iG hs.inv (si hσ) (xE hs hx)
 rw [hσ] at hb'
 simp only [sJ, OB.arr.injEq] at hb'
 obtain ⟨rfl, _, rfl, rfl⟩ := hb'
 obtain ⟨o2, g1, g2, g3, g4, g5, g6, g7, g8, g9⟩ := hok
 rw [hown] at g1
 simp only [sJ] at g1
 subst g1
 have hlen : (cI l).length = l.length := by simp [cI]
 obtain ⟨p, hp⟩ : ∃ p, p = min m.length n := ⟨_, rfl⟩
 obtain ⟨cs, hcs⟩ : ∃ cs : List Value, cs = (m.take n).map (Value.int .i64) := ⟨_, rfl⟩
 have hcl : cs.length = p := by rw [hcs, hp]; simp [Nat.min_comm]
 obtain ⟨q, hq⟩ : ∃ q, P.info? (P.elem T) = some q := by
  cases h : P.info? (P.elem T) with
  | none => simp [h] at hi
  | some q => exact ⟨q, rfl⟩
 have hqs : q.size = 1 := by simpa [hq] using hi
 have hG : ({ G with own := G.own.set b (some og) } : Gh) = G := by
  have : G.own.set b (some og) = G.own := by
   apply List.ext_getElem?
   intro k
   by_cases e : b = k
   ·subst e; rw [hown]; simp [(List.getElem?_eq_some_iff.1 hown).1]
   ·rw [List.getElem?_set_ne e]
  cases G; simp_all
 have hgo : ∀ k : Nat, k ≤ 9223372036854775807 → goInt k = .int .i64 (k : Int) := fun k _ => rfl
 have harr : c.args.map a.eval = #[a.eval x, a.eval y] := by rw [has]; simp
 rw [← hp]
 by_cases hp0 : p = 0
 ·
  have e1 : l.take lo ++ m.take n ++ l.drop (lo + p) = l := by
   have : m.take n = [] := by
    apply List.eq_nil_of_length_eq_zero
    rw [List.length_take]; omega
   rw [this, hp0, List.append_nil, Nat.add_zero, List.take_append_drop]
  rw [e1]
  have e2 : σ.set b (.arr 1 ver Ty (cI l)) = σ := by
   apply List.ext_getElem?
   intro k
   by_cases e : b = k
   ·subst e; rw [hσ]; simp [(List.getElem?_eq_some_iff.1 hσ).1]
   ·rw [List.getElem?_set_ne e]
  rw [e2, hp0]
  have hmin : Nat.min m.length n = 0 := by show min m.length n = 0; omega
  have hrun : (Builtin.copy_ #[T, T'] o.type #[a.eval x, a.eval y]).run P w = .ok (goInt 0) w := by
   rw [hval, hyv]
   cases base with
   | none =>
    cases ad <;> simp [Builtin.copy_, run_underlying hu, Builtin.lenOf, Builtin.firstCells, Go.sizeOf, typeInfo, hq, hqs, hmin, storeCells]
   | some bb =>
    have hl0 := run_loadCells_list (P := P) w bb [] (fun j v h => by simp at h)
    simp only [List.length_nil] at hl0
    cases ad <;> simp [Builtin.copy_, run_underlying hu, Builtin.lenOf, Builtin.firstCells, Go.sizeOf, typeInfo, hq, hqs, hmin, storeCells, hl0]
  refine ⟨_, .int .i64 0, w, G, ?_, .inl rfl, kB.refl G, bl.refl _, hinv, ed _ _⟩
  simp only [execOp, ho, Sem.run_bind, resolve, hc, Sem.run_pure, Result.andThen_ok, invoke, harr, hts, builtin]
  rw [hrun]
  rfl
 ·have hmn : m ≠ [] := by intro e; subst e; simp at hp; omega
  obtain ⟨ad2, rfl, hcells2⟩ := hyc hmn
  have hpos : 0 < n := by omega
  have hh : og.has = true := by
   cases hh : og.has with
   | true => rfl
   | false => have := g8 hh; omega
  obtain ⟨a', rfl, ha'⟩ := hha hh
  obtain ⟨cur, fz, hblk, hfz, hcsz, hcells⟩ := g9 hh
  have ea := ha' (by omega)
  rw [hosz, Nat.mul_one] at ea
  subst ea
  rw [Nat.mul_one] at hcsz
  rw [hlen] at g5
  have hload := run_loadCells_list (P := P) w ad2 cs (fun j v hj => by
   rw [hcs, List.getElem?_map] at hj
   cases hjj : (m.take n)[j]? with
   | none => rw [hjj] at hj; cases hj
   | some x =>
    rw [hjj] at hj
    simp only [Option.map_some, sJ] at hj
    subst hj
    have hjn : j < n := by
     have := (List.getElem?_eq_some_iff.1 hjj).1
     rw [List.length_take] at this; omega
    rw [List.getElem?_take_of_lt hjn] at hjj
    exact hcells2 j x hjj)
  have hst := kS P og.blk lo _ fz cs 0 cur w hblk hfz (by rw [hcl]; omega) (fun v hv => by
   rw [hcs] at hv
   obtain ⟨x, _, rfl⟩ := List.mem_map.1 hv
   rfl)
  simp only [Nat.add_zero] at hst
  have hmin : Nat.min m.length n = cs.length := by show min m.length n = _; rw [hcl, hp]
  have hrun : (Builtin.copy_ #[T, T'] o.type #[a.eval x, a.eval y]).run P w = .ok (goInt p) (w.setRow og.blk (cur.toList.take lo ++ cs ++ cur.toList.drop (lo + cs.length)).toArray) := by
   rw [hval, hyv]
   rw [hcl] at hload hst hmin ⊢
   simp [Builtin.copy_, run_underlying hu, Builtin.lenOf, Builtin.firstCells, Go.sizeOf, typeInfo, hq, hqs, hmin, hload, hst]
  refine ⟨_, .int .i64 (p : Int), w.setRow og.blk (cur.toList.take lo ++ cs ++ cur.toList.drop (lo + cs.length)).toArray, G, ?_, .inl rfl, kB.refl G, bl.refl _, ?_, ed _ _⟩
  ·simp only [execOp, ho, Sem.run_bind, resolve, hc, Sem.run_pure, Result.andThen_ok, invoke, harr, hts, builtin]
   rw [hrun]
   rfl
  ·have key := hinv.change (w' := w.setRow og.blk (cur.toList.take lo ++ cs ++ cur.toList.drop (lo + cs.length)).toArray) b (.arr 1 ver Ty (cI (l.take lo ++ m.take n ++ l.drop (lo + p)))) og og hown (.inl rfl) (by simp) (fun k _ hk => eY w _ k _ (hk hh)) (fun hh' => .inl ⟨rfl, hh'⟩) rfl rfl rfl (by
    rw [hG]
    have hnl : (l.take lo ++ m.take n ++ l.drop (lo + p)).length = l.length := by
     simp only [List.length_append, List.length_take, List.length_drop]; omega
    refine ⟨og, hown, g2, g3, g4, by simp only [cI, List.length_map]; rw [hnl]; exact g5, g6, ?_, g8, fun _ => ?_⟩
    ·intro e he
     simp only [cI, List.mem_map] at he
     obtain ⟨x, _, rfl⟩ := he; rfl
    ·refine ⟨_, fz, ey hblk _, ?_, ?_, ?_⟩
     ·rcases hfz with h | h
      ·exact .inl h
      ·right; simp; omega
     ·simp; omega
     ·intro i' j' e x he hx
      simp only [cI, List.getElem?_map] at he
      cases hv : (l.take lo ++ m.take n ++ l.drop (lo + p))[i']? with
      | none => rw [hv] at he; cases he
      | some v =>
       rw [hv] at he
       simp only [Option.map_some, sJ] at he
       subst he
       have hj0 : j' = 0 := by
        cases j' with
        | zero => rfl
        | succ k => simp at hx
       subst hj0
       simp only [List.getElem?_cons_zero, sJ] at hx
       subst hx
       refine ⟨.int .i64 v, ?_, .int _ _⟩
       rw [Nat.mul_one, Nat.add_zero]
       simp only [List.getElem?_toArray]
       have hl1 : (cur.toList.take lo).length = lo := by simp; omega
       have hl2 : (l.take lo).length = lo := by simp; omega
       have hmt : (m.take n).length = p := by rw [List.length_take]; omega
       by_cases k1 : i' < lo
       ·rw [List.append_assoc, List.getElem?_append_left (by omega), List.getElem?_take_of_lt k1] at hv ⊢
        obtain ⟨y, y1, y2⟩ := hcells i' 0 [CV.int .i64 v] (.int .i64 v) (by simp [cI, hv]) (by simp)
        cases y2
        rw [Nat.mul_one, Nat.add_zero] at y1
        rw [Array.getElem?_toList]; exact y1
       ·by_cases k2 : i' < lo + p
        ·rw [List.append_assoc, List.getElem?_append_right (by omega), List.getElem?_append_left (by omega)] at hv ⊢
         rw [hl2] at hv
         rw [hl1, hcs, List.getElem?_map, hv]; rfl
        ·rw [List.getElem?_append_right (by simp only [List.length_append]; omega), List.getElem?_drop] at hv ⊢
         have z1 : lo + p + (i' - (l.take lo ++ m.take n).length) = i' := by rw [List.length_append]; omega
         have z2 : lo + cs.length + (i' - (cur.toList.take lo ++ cs).length) = i' := by rw [List.length_append]; omega
         rw [z1] at hv
         rw [z2, Array.getElem?_toList]
         obtain ⟨y, y1, y2⟩ := hcells i' 0 [CV.int .i64 v] (.int .i64 v) (by simp [cI, hv]) (by simp)
         cases y2
         rw [Nat.mul_one, Nat.add_zero] at y1
         exact y1)
   rw [hG] at key
   exact key
theorem su {y : Operand} {b ver lo k : Nat} {T : TypeId} {l : List Int} (hy : ev E y = ⟨true, .c (.osl b ver lo k)⟩) (hσ : σ[b]? = some (.arr 1 ver T (l.map (eK .i64)))) (hk : lo + k ≤ l.length) :
  ∀ E', ev E' y = ev E y → vS P E' σ y ((l.drop lo).take k) := fun _ h => w8 (h.trans hy) hσ rfl hk
def cpy (l : List Int) (lo n : Nat) (m : List Int) : List Int := if lo + n ≤ l.length then l.take lo ++ m.take n ++ l.drop (lo + min m.length n) else l
def cpn (n : Nat) (m : List Int) : Int := ((min m.length n : Nat) : Int)
theorem kx (l : List Int) (lo n : Nat) (m : List Int) : (cpy l lo n m).length = l.length := by
 unfold cpy
 split
 ·simp only [List.length_append, List.length_take, List.length_drop]; omega
 ·rfl
theorem uY {o : Oper} {c : Call} {T T' : TypeId} {x y : Operand} {b ver lo n : Nat} {Ty : TypeId} {l m : List Int} (ho : o.op = .call c) (hc : c.callee = .builtin .copy) (hts : c.argTypes = #[T, T']) (has : c.args = #[x, y])
  (hx : ev E x = ⟨true, .c (.osl b ver lo n)⟩) (hσ : σ[b]? = some (.arr 1 ver Ty (l.map (eK .i64)))) (hn : lo + n ≤ l.length) (hT : fN P T = true) (hi : (P.info? (P.elem T)).map (·.size) = some 1) (hy : ∀ E', ev E' y = ev E y → vS P E' σ y m) :
  ∀ E', (∀ z ∈ o.op.operands, ev E' z = ev E z) → nO P E' σ o (.c (.int .i64 (cpn n m))) (σ.set b (.arr 1 ver Ty ((cpy l lo n m).map (eK .i64)))) := fun E' h => by
 rw [show cpy l lo n m = l.take lo ++ m.take n ++ l.drop (lo + min m.length n) from iP hn]
 have hmem : ∀ z, z = x ∨ z = y → z ∈ o.op.operands := fun z hz => by
  rw [ho]; rcases hz with rfl | rfl <;> simp [Op.operands, Call.operands, has, hc]
 exact qO ho hc hts has (by rw [h x (hmem x (.inl rfl))]; exact hx) hσ hn hT hi (hy E' (h y (hmem y (.inr rfl))))
theorem uZ {o : Oper} {c : Call} {T T' : TypeId} {x y : Operand} {b ver lo n : Nat} {Ty : TypeId} {l m : List Int} (ho : o.op = .call c) (hc : c.callee = .builtin .copy) (hts : c.argTypes = #[T, T']) (has : c.args = #[x, y])
  (hx : ev E x = ⟨true, .c (.osl b ver lo n)⟩) (hσ : σ[b]? = some (.arr 1 ver Ty (l.map (eK .i64)))) (hn : lo + n ≤ l.length) (hT : fN P T = true) (hi : (P.info? (P.elem T)).map (·.size) = some 1) (hy : ∀ E', ev E' y = ev E y → vS P E' σ y m) :
  nO P E σ o (.c (.int .i64 (cpn n m))) (σ.set b (.arr 1 ver Ty ((cpy l lo n m).map (eK .i64)))) := by
 rw [show cpy l lo n m = l.take lo ++ m.take n ++ l.drop (lo + min m.length n) from iP hn]
 exact qO ho hc hts has hx hσ hn hT hi (hy E rfl)
end
theorem lsC {p : Prop} (h : p := by simp only [bS, bX, kx, List.length_replicate, reduceIte, ↓reduceIte, reduceCtorEq, Int.reduceToNat, Nat.reduceDiv, Nat.reduceMod, Nat.reduceLT, Nat.reduceLeDiff, Nat.reduceAdd, Nat.reduceSub, Nat.reduceMul, Nat.reduceEqDiff, Nat.reduceBEq, Nat.reduceBNe, Nat.reduceGT] <;> first | done | (and_intros <;> first | rfl | (simp; done) | omega | (simp [lit, bX, eK, eB, eS, eL]; done) | (simp only [kw, List.length_cons, List.length_nil, List.length_append, List.length_set, List.length_replicate, List.length_map, List.length_take, List.length_drop]; omega))) : p := h
end Pam
