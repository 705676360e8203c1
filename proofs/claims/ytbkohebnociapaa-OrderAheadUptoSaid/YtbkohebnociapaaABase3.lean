/- Regions whose order is open, with memory set aside that nothing looks at ahead of the region's last operation. -/
import Derived.Test.YtbkohebnociapaaABase2
import Derived.Test.YtbkohebnociapaaABase1
import Derived.Shelf.Sort.Plain
import Derived.Shelf.Slices.In.SortNone
import Derived.Shelf.Slices.In.CompactI
import Derived.Shelf.Slices.Delete
set_option linter.all false
namespace Pam
open Go
def uW (o : Oper) : Bool := match o.op with | .alloc _ => true | _ => false
def nu (o : Oper) : Oper := { dst := none, op := .move (.const (.bool true)), type := o.type, pos := o.pos, after := o.after, guard := o.guard }
def pz (o : Oper) : Oper := match o.op with | .alloc _ => nu o | _ => o
def eZ : List Oper → List Oper
 | [] => []
 | [q] => [nu q]
 | o :: o2 :: r => pz o :: eZ (o2 :: r)
def kS : List Oper → List Oper
 | [] => []
 | [q] => [q]
 | o :: o2 :: r => match o.op with | .alloc _ => o :: kS (o2 :: r) | _ => kS (o2 :: r)
def xn (l : List Oper) (ts : List Nat) (bs : List Bool) : Bool :=
 bs.getD (l.length - 1) false && decide (0 < l.length) &&
 l.zipIdx.all fun (o, i) =>
  (if i + 1 < l.length then !uW o || (o.guard.isNone && (match o.dst with | some t => decide (t < 512) && ts.contains t && (l.zipIdx.all fun (y, j) => j == i || y.dst != some t) | none => false)) else o.dst.isNone && o.guard.isNone && !uW o) &&
  (match o.guard with | some (g, _) => (match l[g]? with | some y => !uW y | none => true) | none => true)
def xo (l : List Oper) (ts masks : List Nat) (bs : List Bool) : Bool := chk (eZ l).toArray (eZ l) masks bs && xn l ts bs
structure vT (l : List Oper) (ts : List Nat) (bs : List Bool) : Prop where
 bar : bs.getD (l.length - 1) false = true
 pos : 0 < l.length
 al : ∀ (i : Nat) (o : Oper) (T : TypeId), l[i]? = some o → i + 1 < l.length → o.op = .alloc T → o.guard = none ∧ ∃ t, o.dst = some t ∧ t < 512 ∧ t ∈ ts ∧ ∀ (j : Nat) (y : Oper), l[j]? = some y → j ≠ i → y.dst ≠ some t
 last : ∀ (i : Nat) (o : Oper), l[i]? = some o → i + 1 = l.length → o.dst = none ∧ o.guard = none
 ref : ∀ (i : Nat) (o : Oper) (g : Nat) (b : Bool) (y : Oper), l[i]? = some o → o.guard = some (g, b) → l[g]? = some y → ∀ T, y.op ≠ .alloc T
theorem vU {l : List Oper} {ts : List Nat} {bs : List Bool} (h : xn l ts bs = true) : vT l ts bs := by
 unfold xn at h
 simp only [Bool.and_eq_true, List.all_eq_true, decide_eq_true_eq] at h
 obtain ⟨⟨h1, h2⟩, h3⟩ := h
 have m : ∀ (i : Nat) (o : Oper), l[i]? = some o → (o, i) ∈ l.zipIdx := fun i o ho => by
  rw [List.mem_zipIdx_iff_getElem?]; simpa using ho
 refine ⟨h1, h2, ?_, ?_, ?_⟩
 ·intro i o T ho hi hop
  have := (h3 _ (m i o ho)).1
  simp only [if_pos hi, uW, hop, Bool.not_true, Bool.false_or, Bool.and_eq_true, Option.isNone_iff_eq_none] at this
  obtain ⟨g, h⟩ := this
  refine ⟨g, ?_⟩
  cases hd : o.dst with
  | none => rw [hd] at h; simp at h
  | some t =>
   rw [hd] at h
   simp only [Bool.and_eq_true, decide_eq_true_eq, List.contains_eq_mem, List.all_eq_true, Bool.or_eq_true, beq_iff_eq, bne_iff_ne] at h
   refine ⟨t, rfl, h.1.1, h.1.2, fun j y hy hji => ?_⟩
   rcases h.2 _ (m j y hy) with h | h
   ·exact (hji h).elim
   ·exact h
 ·intro i o ho hi
  have := (h3 _ (m i o ho)).1
  simp only [if_neg (by omega : ¬ i + 1 < l.length), Bool.and_eq_true, Option.isNone_iff_eq_none] at this
  exact this.1
 ·intro i o g b y ho hg hy T hop
  have := (h3 _ (m i o ho)).2
  simp [hg, hy, uW, hop] at this
theorem jf : ∀ l : List Oper, (eZ l).length = l.length
 | [] => rfl
 | [q] => rfl
 | o :: o2 :: r => by simp only [eZ, List.length_cons]; rw [jf (o2 :: r)]; rfl
theorem j7 : ∀ (l : List Oper) (i : Nat) (o : Oper), l[i]? = some o → (eZ l)[i]? = some (if i + 1 < l.length then pz o else nu o)
 | [], i, o, h => by simp at h
 | [q], 0, o, h => by simp at h; subst h; rfl
 | [q], i + 1, o, h => by simp at h
 | a :: o2 :: r, 0, o, h => by simp at h; subst h; simp [eZ]
 | a :: o2 :: r, i + 1, o, h => by
  have := j7 (o2 :: r) i o (by simpa using h)
  simp only [eZ, List.getElem?_cons_succ, this, List.length_cons]
  congr 1
  by_cases e : i + 1 < r.length + 1
  ·rw [if_pos e, if_pos (by omega)]
  ·rw [if_neg e, if_neg (by omega)]
theorem mR {o : Oper} (h : ∀ T, o.op ≠ .alloc T) : pz o = o := by
 unfold pz
 split
 ·rename_i T e; exact (h T e).elim
 ·rfl
theorem tt {o : Oper} {T : TypeId} (h : o.op = .alloc T) : pz o = nu o := by unfold pz; rw [h]
theorem sQ (o : Oper) : (pz o).after = o.after ∧ (pz o).guard = o.guard := by
 unfold pz
 split <;> exact ⟨rfl, rfl⟩
theorem nV {l : List Oper} {i : Nat} {o' : Oper} (h : (eZ l)[i]? = some o') : ∃ o, l[i]? = some o ∧ o' = (if i + 1 < l.length then pz o else nu o) ∧ o'.after = o.after ∧ o'.guard = o.guard := by
 have hlt : i < l.length := by rw [← jf]; exact (List.getElem?_eq_some_iff.1 h).1
 have e := j7 l i l[i] (List.getElem?_eq_getElem hlt)
 rw [h] at e
 simp only [Option.some.injEq] at e
 refine ⟨l[i], List.getElem?_eq_getElem hlt, e, ?_⟩
 rw [e]
 split
 ·exact sQ _
 ·exact ⟨rfl, rfl⟩
theorem pA {l : List Oper} {listed : Array Bool} {i : Nat} (h : i ∈ Region.ready .any l.toArray listed) : i ∈ Region.ready .any (eZ l).toArray listed := by
 obtain ⟨h1, o, ho, h2⟩ := mem_ready.1 h
 have ho' : l[i]? = some o := by simpa using ho
 have e := j7 l i o ho'
 obtain ⟨o2, q1, q2, q3, q4⟩ := nV e
 rw [ho'] at q1
 simp only [Option.some.injEq] at q1
 subst q1
 refine mem_ready.2 ⟨h1, _, by simpa using e, fun x hx => ?_⟩
 rw [q3] at hx
 exact h2 x hx
section
variable {P : Program}
theorem Oper.wp_put {o : Oper} {a : Act} {w : World} {K : Act → World → Prop} {Q : Exit → Act → World → Prop} (h : o.wp P a w K Q) :
  o.wp P a w (fun a' w' => K a' w' ∧ ∀ t, o.dst ≠ some t → a'.tmps.getD t undef = a.tmps.getD t undef) Q := by
 have key : ∀ (a1 : Act) (v : Value) (t : Nat), a1.tmps = a.tmps → o.dst ≠ some t → (a1.put o.dst v).tmps.getD t undef = a.tmps.getD t undef := by
  intro a1 v t h1 ht
  cases hd : o.dst with
  | none => simp [Act.put, h1]
  | some d =>
   have hne : d ≠ t := fun e => ht (by rw [hd, e])
   simp only [Act.put, Array.getD_eq_getD_getElem?, h1]
   rw [Array.getElem?_setIfInBounds_ne hne]
 unfold Oper.wp at *
 generalize (execOp a.eval o).run P w = r at *
 cases r with
 | ok n w' =>
  cases n <;> simp only [Oper.upon] at h ⊢ <;>
   first
    | exact ⟨h, fun t ht => key _ _ t rfl ht⟩
    | exact Calls.mono h (fun e w'' he => by cases e <;> first | exact ⟨he, fun t ht => key _ _ t rfl ht⟩ | exact he)
    | exact Rows.mono h (fun _ _ he => ⟨he, fun t ht => key _ _ t rfl ht⟩)
 | halt x w' => cases x <;> simp only [Oper.upon] at h ⊢ <;> exact h
theorem uX {ops : Array Oper} {Q : Exit → Act → World → Prop} {i : Nat} {o : Oper} {K : Act → World → Prop} {a : Act} {w : World} (ho : ops[i]? = some o) (h : wpOp P ops Q i K a w) :
  wpOp P ops Q i (fun a' w' => K a' w' ∧ ∀ t, o.dst ≠ some t → a'.tmps.getD t undef = a.tmps.getD t undef) a w := by
 unfold wpOp at *
 simp only [ho] at h ⊢
 split
 ·rename_i hw; simp only [hw, if_true] at h; exact h.imp Oper.wp_put id
 ·rename_i hw
  simp only [hw] at h
  refine ⟨h, fun t ht => ?_⟩
  cases hd : o.dst with
  | none => simp [Act.put]
  | some d =>
   have hne : d ≠ t := fun e => ht (by rw [hd, e])
   simp only [Act.put, Array.getD_eq_getD_getElem?]
   rw [Array.getElem?_setIfInBounds_ne hne]
theorem rV {l : List Oper} {ts : List Nat} {bs : List Bool} (v : vT l ts bs) {i : Nat} {o : Oper} (ho : l[i]? = some o) (tmps : Array Value) :
  Region.wanted o (yielded (eZ l).toArray tmps) = Region.wanted o (yielded l.toArray tmps) := by
 unfold Region.wanted
 cases hg : o.guard with
 | none => rfl
 | some gb =>
  obtain ⟨g, b⟩ := gb
  simp only
  have : yielded (eZ l).toArray tmps g = yielded l.toArray tmps g := by
   unfold yielded
   simp only [List.getElem?_toArray]
   cases hy : l[g]? with
   | none =>
    have : (eZ l)[g]? = none := by
     rw [List.getElem?_eq_none_iff] at hy ⊢
     rw [jf]; exact hy
    rw [this]
   | some y =>
    rw [j7 l g y hy]
    by_cases e : g + 1 < l.length
    ·rw [if_pos e, mR (v.ref i o g b y ho hg hy)]
    ·rw [if_neg e]
     have := (v.last g y hy (by have := (List.getElem?_eq_some_iff.1 hy).1; omega)).1
     simp [nu, this]
  rw [this]
theorem tT {l : List Oper} {ts : List Nat} {bs : List Bool} (v : vT l ts bs) {Q : Exit → Act → World → Prop} {i : Nat} {o : Oper} {K : Act → World → Prop} {a : Act} {w : World} (ho : l[i]? = some o) (hi : i + 1 < l.length) (hn : ∀ T, o.op ≠ .alloc T)
  (h : wpOp P (eZ l).toArray Q i K a w) : wpOp P l.toArray Q i (fun a' w' => K a' w' ∧ ∀ t, o.dst ≠ some t → a'.tmps.getD t undef = a.tmps.getD t undef) a w := by
 have e := j7 l i o ho
 rw [if_pos hi, mR hn] at e
 have h' := uX (o := o) (by simpa using e) h
 unfold wpOp at h' ⊢
 simp only [List.getElem?_toArray, e, ho, rV v ho] at h' ⊢
 exact h'
theorem Inv.aside {G : Gh} {σ : List OB} {w : World} (hi : Inv G σ w) (x : Obj) : Inv { G with F := fun b => if b = w.heap.size then some x else G.F b } σ (w.alloc x) := by
 have old : ∀ b, b < w.heap.size → (w.alloc x).heap[b]? = w.heap[b]? := fun b hb => heap_alloc_old w _ hb
 constructor
 ·intro b y h; rw [old b (cH (hi.hH b y h))]; exact hi.hH b y h
 ·intro b y h
  simp only at h
  by_cases e : b = w.heap.size
  ·rw [if_pos e] at h; rw [e, ← h]; exact heap_alloc_new w _
  ·rw [if_neg e] at h; rw [old b (cH (hi.hF b y h))]; exact hi.hF b y h
 ·intro b y h
  simp only at h ⊢
  by_cases e : b = w.heap.size
  ·cases hx : G.H b with
   | none => rfl
   | some z => have := cH (hi.hH _ _ hx); omega
  ·rw [if_neg e] at h; exact hi.HF b y h
 ·exact hi.len
 ·intro b ob h
  exact (hi.own b ob h).keep (fun _ _ h => h) (bo.refl _) rfl fun o ho hh => old _ (kF hi ho hh)
 ·exact hi.inj
 ·intro b o h hh
  have := kF hi h hh
  refine ⟨(hi.sep b o h hh).1, ?_⟩
  simp only
  rw [if_neg (by omega)]
  exact (hi.sep b o h hh).2
 ·exact hi.os
 ·exact hi.tape
 ·exact hi.output
 ·exact Nat.le_trans hi.grow (by simp)
theorem Inv.gain {G : Gh} {σ : List OB} {w : World} (hi : Inv G σ w) {blk : Nat} {cs : List CV} {c : Array Value} {T : TypeId} (hA : w.heap[blk]? = some (.cells c T)) (hB : G.H blk = none) (hC : G.F blk = none)
  (hD : ∀ (b : Nat) (o : OG), G.own[b]? = some (some o) → o.has = true → o.blk ≠ blk) (h : aO (Rep G) cs c.toList) : Inv { G with own := G.own ++ [some ⟨blk, 0, 0, 0, true⟩] } (σ ++ [.box cs]) w := by
 have hle : bo G.own (G.own ++ [some ⟨blk, 0, 0, 0, true⟩]) := bo.append _ _
 have split : ∀ (b : Nat) (o' : OG), (G.own ++ [some (⟨blk, 0, 0, 0, true⟩ : OG)])[b]? = some (some o') → (b < G.own.length ∧ G.own[b]? = some (some o')) ∨ (b = G.own.length ∧ o' = ⟨blk, 0, 0, 0, true⟩) := by
  intro b o' h
  rcases Nat.lt_or_ge b G.own.length with hb | hb
  ·rw [List.getElem?_append_left hb] at h; exact .inl ⟨hb, h⟩
  ·rw [List.getElem?_append_right hb] at h
   rcases Nat.eq_zero_or_pos (b - G.own.length) with e | e
   ·rw [e] at h; simp at h; exact .inr ⟨by omega, h.symm⟩
   ·rw [List.getElem?_eq_none (by simp; omega)] at h; cases h
 constructor
 ·exact hi.hH
 ·exact hi.hF
 ·exact hi.HF
 ·simp [hi.len]
 ·intro b ob' h'
  rcases Nat.lt_or_ge b σ.length with hb | hb
  ·rw [List.getElem?_append_left hb] at h'
   refine (hi.own b ob' h').keep (fun _ _ h => h) hle ?_ fun o' ho' hh => rfl
   exact List.getElem?_append_left (by rw [hi.len]; exact hb)
  ·rw [List.getElem?_append_right hb] at h'
   rcases Nat.eq_zero_or_pos (b - σ.length) with e | e
   ·rw [e] at h'; simp at h'
    have : b = σ.length := by omega
    subst this; subst h'
    refine ⟨⟨blk, 0, 0, 0, true⟩, c, T, ?_, rfl, rfl, hA, aO.mono (R := Rep G) (fun _ _ hr => Rep.mono (G := G) (G' := { G with own := G.own ++ [some ⟨blk, 0, 0, 0, true⟩] }) (fun _ _ h => h) hle hr) h⟩
    show (G.own ++ _)[σ.length]? = _
    rw [← hi.len]; simp
   ·rw [List.getElem?_eq_none (by simp; omega)] at h'; cases h'
 ·intro b b' o1 o2 h1 h2 hh1 hh2 he
  rcases split b o1 h1 with ⟨hb, g1⟩ | ⟨hb, g1⟩ <;> rcases split b' o2 h2 with ⟨hb', g2⟩ | ⟨hb', g2⟩
  ·exact hi.inj b b' o1 o2 g1 g2 hh1 hh2 he
  ·exact (hD b o1 g1 hh1 (by rw [he, g2])).elim
  ·exact (hD b' o2 g2 hh2 (by rw [← he, g1])).elim
  ·omega
 ·intro b o1 h1 hh1
  rcases split b o1 h1 with ⟨hb, h1⟩ | ⟨hb, rfl⟩
  ·exact hi.sep b o1 h1 hh1
  ·exact ⟨hB, hC⟩
 ·exact hi.os
 ·exact hi.tape
 ·exact hi.output
 ·exact hi.grow
theorem Inv.less {G : Gh} {σ : List OB} {w : World} (hi : Inv G σ w) (F : Nat → Option Obj) (h : ∀ b x, F b = some x → G.F b = some x) : Inv { G with F := F } σ w := by
 constructor
 ·exact hi.hH
 ·exact fun b x e => hi.hF b x (h b x e)
 ·exact fun b x e => hi.HF b x (h b x e)
 ·exact hi.len
 ·exact fun b ob e => (hi.own b ob e).keep (fun _ _ h => h) (bo.refl _) rfl fun _ _ _ => rfl
 ·exact hi.inj
 ·intro b o e hh
  refine ⟨(hi.sep b o e hh).1, ?_⟩
  show F o.blk = none
  cases hx : F o.blk with
  | none => rfl
  | some x => have := h _ _ hx; rw [(hi.sep b o e hh).2] at this; cases this
 ·exact hi.os
 ·exact hi.tape
 ·exact hi.output
 ·exact hi.grow
def yU (P : Program) (l : List Oper) (G0 G1 : Gh) (listed : Array Bool) (a : Act) : Prop :=
 G1.H = G0.H ∧ G1.own = G0.own ∧ G1.w0 = G0.w0 ∧ G1.na = G0.na ∧ (∀ b x, G0.F b = some x → G1.F b = some x) ∧
 ∃ pb : Nat → Nat,
  (∀ (i j : Nat) (o o' : Oper) (T T' : TypeId), l[i]? = some o → l[j]? = some o' → i + 1 < l.length → j + 1 < l.length → o.op = .alloc T → o'.op = .alloc T' → listed.getD i false = true → listed.getD j false = true → pb i = pb j → i = j) ∧
  ∀ (i : Nat) (o : Oper) (T : TypeId) (t : Nat), l[i]? = some o → i + 1 < l.length → o.op = .alloc T → o.dst = some t → listed.getD i false = true →
   a.tmps.getD t undef = .pointer (some ⟨pb i, 0, none⟩) ∧ G0.F (pb i) = none ∧ ∃ inf u, P.info? T = some inf ∧ inf.zero = some u ∧ G1.F (pb i) = some (.cells u.cells T)
def StA (P : Program) (l : List Oper) (tr : List TS) (E : Env) (σ : List OB) (G0 : Gh) (listed : Array Bool) (a : Act) (w : World) : Prop :=
 ∃ G1, yU P l G0 G1 listed a ∧ StJ (eZ l) tr E σ G1 listed a w
theorem kT {l : List Oper} {listed : Array Bool} (hsz : listed.size = l.length) {i : Nat} (hi : i ∈ Region.ready .any l.toArray listed) : listed.getD i false = false ∧ i < l.length ∧ ∃ o, l[i]? = some o ∧ ∀ j ∈ fw o, listed.getD j false = true := by
 obtain ⟨hun, o, ho', hdeps⟩ := mem_ready.1 hi
 have ho : l[i]? = some o := by simpa using ho'
 have hil : i < l.length := (List.getElem?_eq_some_iff.1 ho).1
 refine ⟨?_, hil, o, ho, fun j hj => ?_⟩
 ·rw [Array.getD_eq_getD_getElem?] at hun ⊢
  rw [Array.getElem?_eq_getElem (by omega)] at hun ⊢
  simpa using hun
 ·simp only [fw, List.mem_map, List.mem_filter] at hj
  obtain ⟨e, ⟨h1, h2⟩, rfl⟩ := hj
  exact hdeps e (by simpa using h1) h2
theorem StA.step {l : List Oper} {ts : List Nat} {bs : List Bool} {masks : List Nat} {E : Env} {σ : List OB} {tr : List TS} (c : Chk (eZ l).toArray (eZ l) masks bs) (v : vT l ts bs) (ht : ki P (eZ l).toArray (eZ l) bs E σ tr)
  (hE : ∀ t ∈ ts, (E.get t).cond = false) (hz : ∀ (i : Nat) (o : Oper) (T : TypeId), l[i]? = some o → i + 1 < l.length → o.op = .alloc T → (∃ z, iF P T = some z) ∧ dJ E o.dst) (G0 : Gh) {Q : Exit → Act → World → Prop} (listed : Array Bool) (a : Act) (w : World) (i : Nat)
  (hJ : StA P l tr E σ G0 listed a w) (hi : i ∈ Region.ready .any l.toArray listed) (hlt : i + 1 < l.length) : wpOp P l.toArray Q i (StA P l tr E σ G0 (listed.setIfInBounds i true)) a w := by
 obtain ⟨G1, ⟨p1, p2, p3, p4, p5, pb, p6, p7⟩, hS⟩ := hJ
 have hsz : listed.size = l.length := by rw [hS.1, jf]
 obtain ⟨hi0, hil, o, ho, hr⟩ := kT hsz hi
 have hset : ∀ j, (listed.setIfInBounds i true).getD j false = if j = i then true else listed.getD j false := fun j => ql _ _ _ (by omega)
 by_cases hn : ∀ T, o.op ≠ .alloc T
 ·have h1 := StJ.step (Q := Q) c ht G1 listed a w i hS (pA hi)
  refine wpOp_mono (fun a' w' h => ?_) (tT v ho hlt hn h1)
  obtain ⟨h2, h3⟩ := h
  refine ⟨G1, ⟨p1, p2, p3, p4, p5, pb, ?_, ?_⟩, h2⟩
  ·intro j k y y' T T' hy hy' hj hk hop hop' hl hl'
   rw [hset] at hl hl'
   have nj : j ≠ i := fun e => by subst e; rw [ho] at hy; simp only [Option.some.injEq] at hy; subst hy; exact hn T hop
   have nk : k ≠ i := fun e => by subst e; rw [ho] at hy'; simp only [Option.some.injEq] at hy'; subst hy'; exact hn T' hop'
   rw [if_neg nj] at hl
   rw [if_neg nk] at hl'
   exact p6 j k y y' T T' hy hy' hj hk hop hop' hl hl'
  ·intro j y T t hy hj hop hd hl
   rw [hset] at hl
   have nj : j ≠ i := fun e => by subst e; rw [ho] at hy; simp only [Option.some.injEq] at hy; subst hy; exact hn T hop
   rw [if_neg nj] at hl
   obtain ⟨q1, q2⟩ := p7 j y T t hy hj hop hd hl
   obtain ⟨_, t', g1, _, _, g4⟩ := v.al j y T hy hj hop
   rw [hd] at g1
   simp only [Option.some.injEq] at g1
   subst g1
   exact ⟨(h3 t (g4 i o ho (fun e => nj e.symm))).trans q1, q2⟩
 ·obtain ⟨T, hop⟩ : ∃ T, o.op = .alloc T := Classical.byContradiction fun h => hn fun T e => h ⟨T, e⟩
  obtain ⟨hg, t, hd, ht512, hts, huniq⟩ := v.al i o T ho hlt hop
  obtain ⟨⟨z, hzT⟩, hdok⟩ := hz i o T ho hlt hop
  obtain ⟨hsz', hcl, G, p, hG, hp, hloud, hinv, hdef, htm, hna, hslot⟩ := hS
  obtain ⟨inf, u, e1, e2, e3, e4, _, e5⟩ := hN G hzT
  have hFG : G.F = G1.F := hG.le.F
  have hvi := j7 l i o ho
  rw [if_pos hlt, tt hop] at hvi
  have hrun : (execOp a.eval o).run P w = .ok (.value (.pointer (some ⟨w.heap.size, 0, none⟩))) (w.alloc (.cells u.cells T)) := by
   simp [execOp, hop, Instr.alloc, fQ e1 e2, newVar, newRow]
  unfold wpOp
  simp only [List.getElem?_toArray, ho]
  rw [if_pos (by unfold Region.wanted; rw [hg])]
  left
  unfold Oper.wp
  rw [hrun]
  show StA P l tr E σ G0 (listed.setIfInBounds i true) (a.put o.dst _) _
  rw [hd]
  have hfree : ∀ j y, l[j]? = some y → j + 1 < l.length → (∃ T, y.op = .alloc T) → listed.getD j false = true → pb j ≠ w.heap.size := by
   intro j y hy hj ⟨T', hop'⟩ hl e
   obtain ⟨_, t', g1, _⟩ := v.al j y T' hy hj hop'
   obtain ⟨_, _, _, _, _, _, q⟩ := p7 j y T' t' hy hj hop' g1 hl
   rw [← hFG] at q
   have := cH (hinv.hF _ _ q)
   omega
  have hput : ∀ t', t' ≠ t → (a.put (some t) (.pointer (some ⟨w.heap.size, 0, none⟩))).tmps.getD t' undef = a.tmps.getD t' undef := by
   intro t' hne
   simp only [Act.put, Array.getD_eq_getD_getElem?]
   rw [Array.getElem?_setIfInBounds_ne (Ne.symm hne)]
  refine ⟨{ G1 with F := fun b => if b = w.heap.size then some (.cells u.cells T) else G1.F b }, ⟨p1, p2, p3, p4, ?_, fun j => if j = i then w.heap.size else pb j, ?_, ?_⟩, ?_⟩
  ·intro b x hb
   have h1 := p5 b x hb
   simp only
   rw [if_neg]
   ·exact h1
   ·intro e
    rw [← hFG] at h1
    have := cH (hinv.hF _ _ h1)
    omega
  ·intro j k y y' T1 T2 hy hy' hj hk hop1 hop2 hl hl' he
   rw [hset] at hl hl'
   simp only at he
   by_cases nj : j = i <;> by_cases nk : k = i
   ·omega
   ·rw [if_pos nj, if_neg nk] at he; rw [if_neg nk] at hl'
    exact (hfree k y' hy' hk ⟨T2, hop2⟩ hl' he.symm).elim
   ·rw [if_neg nj, if_pos nk] at he; rw [if_neg nj] at hl
    exact (hfree j y hy hj ⟨T1, hop1⟩ hl he).elim
   ·rw [if_neg nj, if_neg nk] at he; rw [if_neg nj] at hl; rw [if_neg nk] at hl'
    exact p6 j k y y' T1 T2 hy hy' hj hk hop1 hop2 hl hl' he
  ·intro j y T' t' hy hj hop' hd' hl
   rw [hset] at hl
   by_cases nj : j = i
   ·subst nj
    rw [ho] at hy
    simp only [Option.some.injEq] at hy
    subst hy
    rw [hd] at hd'
    simp only [Option.some.injEq] at hd'
    subst hd'
    rw [hop] at hop'
    simp only [Op.alloc.injEq] at hop'
    subst hop'
    simp only [if_true]
    refine ⟨?_, ?_, inf, u, e1, e2, ?_⟩
    ·have : t < a.tmps.size := by
      rw [htm]
      rw [hd] at hdok
      exact hdok
     simp [Act.put, Array.getD, this]
    ·cases hx : G0.F w.heap.size with
     | none => rfl
     | some x =>
      have h1 := p5 _ _ hx
      rw [← hFG] at h1
      have := cH (hinv.hF _ _ h1)
      omega
    ·simp
   ·rw [if_neg nj] at hl
    obtain ⟨q1, q2, inf', u', q3, q4, q5⟩ := p7 j y T' t' hy hj hop' hd' hl
    simp only [if_neg nj]
    have hne : t' ≠ t := fun e => huniq j y hy nj (by rw [hd', e])
    refine ⟨(hput t' hne).trans q1, q2, inf', u', q3, q4, ?_⟩
    rw [if_neg (hfree j y hy hj ⟨T', hop'⟩ hl)]
    exact q5
  ·refine ⟨by simpa using hsz', ?_, { G with F := fun b => if b = w.heap.size then some (.cells u.cells T) else G1.F b }, p, ⟨⟨hG.le.H, rfl, hG.le.w0, hG.le.na⟩, hG.own⟩, hp, ?_, ?_, hdef, by simpa [Act.put] using htm, hna, ?_⟩
   ·intro k ok hk hdn j hj
    simp only at hdn ⊢
    rw [hset] at hdn ⊢
    by_cases e : k = i
    ·subst e; rw [hvi] at hk; simp only [Option.some.injEq] at hk; subst hk
     by_cases e' : j = k
     ·rw [if_pos e']
     ·rw [if_neg e']; exact hr j hj
    ·rw [if_neg e] at hdn
     by_cases e' : j = i
     ·rw [if_pos e']
     ·rw [if_neg e']; exact hcl k ok hk hdn j hj
   ·intro j y hy hly
    rw [hset]
    by_cases e : j = i
    ·subst e; rw [hvi] at hy; simp only [Option.some.injEq] at hy; subst hy; simp [bP, nu] at hly
    ·rw [if_neg e]; exact hloud j y hy hly
   ·have := hinv.aside (.cells u.cells T)
    rw [hFG] at this
    exact this
   ·intro t' ht' hc
    have hfun : (fun k => (listed.setIfInBounds i true).getD k false) = (fun k => if k = i then true else listed.getD k false) := by
     funext k; exact hset k
    rw [hfun] at hc ⊢
    rw [lr t' (eZ l) tr _ _ i _ hvi (by simp [nu])] at hc ⊢
    by_cases e : t' = t
    ·subst e
     have hno : ∀ (j : Nat) (y : Oper), (eZ l)[j]? = some y → y.dst = some t' → False := by
      intro j y hy hyd
      obtain ⟨y0, g1, g2, _⟩ := nV hy
      by_cases ej : j + 1 < l.length
      ·rw [if_pos ej] at g2
       by_cases ha : ∀ T, y0.op ≠ .alloc T
       ·rw [mR ha] at g2
        subst g2
        by_cases eji : j = i
        ·subst eji; rw [ho] at g1; simp only [Option.some.injEq] at g1; subst g1; exact ha T hop
        ·exact huniq j y g1 eji hyd
       ·obtain ⟨T', ha⟩ : ∃ T, y0.op = .alloc T := Classical.byContradiction fun h => ha fun T e => h ⟨T, e⟩
        rw [tt ha] at g2
        subst g2
        cases hyd
      ·rw [if_neg ej] at g2
       subst g2
       cases hyd
     have hk : ed t' (eZ l) tr (fun k => listed.getD k false) (E.get t') = E.get t' := by
      rw [eF t' (eZ l) tr _ (fun _ => false) _ (fun j y hy hyd => (hno j y hy hyd).elim)]
      exact iI t' (eZ l) tr _ _ fun _ _ _ _ => rfl
     rw [hk, hE t' hts] at hc
     cases hc
    ·rw [hput t' e]
     exact aQ.mono (fun _ _ h => h) (bo.refl _) (hslot t' ht' hc)
theorem sR : ∀ (ts : List Nat) (E : Env) (t : Nat), (∀ x ∈ ts, x < 512) → t ∈ ts → ((E.forget ts).get t).cond = false := by
 have keep : ∀ (ts : List Nat) (E : Env) (t : Nat), (E.get t).cond = false → ((E.forget ts).get t).cond = false := by
  intro ts
  induction ts with
  | nil => intro E t h; exact h
  | cons i r ih =>
   intro E t h
   refine ih (E.erase i) t ?_
   cases hc : ((E.erase i).get t).cond with
   | false => rfl
   | true => have := Env.erase_get E i t hc; rw [this, h] at hc; cases hc
 have zap : ∀ (E : Env) (i : Nat), i < 512 → ((E.erase i).get i).cond = false := by
  intro E i h
  unfold Env.erase Env.get
  simp only
  have hb : i / 64 < 8 := by omega
  rw [Tr.get_put _ _ _ _ hb, if_pos rfl, Tr.get_put _ _ _ _ (Nat.mod_lt _ (by decide)), if_pos rfl, Tr.get_put _ _ _ _ (Nat.mod_lt _ (by decide)), if_pos rfl]
  simp [Tr.ent]
 intro ts
 induction ts with
 | nil => intro E t _ h; simp at h
 | cons i r ih =>
  intro E t hx h
  by_cases e : t ∈ r
  ·exact ih (E.erase i) t (fun x hx' => hx x (by simp [hx'])) e
  ·have : t = i := by simpa [e] using h
   subst this
   exact keep r _ t (zap E t (hx t (by simp)))
theorem xp (E : Env) (d : Option Tmp) (e : Ent) : (E.putD d e).n = E.n := by cases d <;> rfl
theorem tu {E E' : Env} (h : E.n = E'.n) {d : Option Tmp} (hd : dJ E d) : dJ E' d := by
 cases d with
 | none => trivial
 | some d => show d < E'.n; rw [← h]; exact hd
theorem nW {ops : Array Oper} {kp : PV → Env → List OB → Prop} {k : Env → List OB → Prop} : ∀ (r : List Oper) (E : Env) (σ : List OB), eo P ops (kS r) E σ k kp →
  ∀ (i : Nat) (o : Oper) (T : TypeId), (∀ (i : Nat) (o : Oper) (T : TypeId), r[i]? = some o → i + 1 < r.length → o.op = .alloc T → o.guard = none) → r[i]? = some o → i + 1 < r.length → o.op = .alloc T → (∃ z, iF P T = some z) ∧ dJ E o.dst
 | [], E, σ, h, i, o, T, hg, ho, hi, hop => by simp at ho
 | [q], E, σ, h, i, o, T, hg, ho, hi, hop => by simp at hi
 | x :: o2 :: r, E, σ, h, i, o, T, hg, ho, hi, hop => by
  have hg' : ∀ (i : Nat) (o : Oper) (T : TypeId), (o2 :: r)[i]? = some o → i + 1 < (o2 :: r).length → o.op = .alloc T → o.guard = none := fun i o T h1 h2 h3 => hg (i + 1) o T (by simpa using h1) (by simp at h2 ⊢; omega) h3
  by_cases hx : ∀ T, x.op ≠ .alloc T
  ·have e : kS (x :: o2 :: r) = kS (o2 :: r) := by
    unfold kS
    split
    ·rename_i T' e; exact (hx T' e).elim
    ·cases r <;> rfl
   rw [e] at h
   cases i with
   | zero => simp at ho; subst ho; exact (hx T hop).elim
   | succ i => exact nW (o2 :: r) E σ h i o T hg' (by simpa using ho) (by simp at hi ⊢; omega) hop
  ·obtain ⟨Tx, hx⟩ : ∃ T, x.op = .alloc T := Classical.byContradiction fun h => hx fun T e => h ⟨T, e⟩
   have e : kS (x :: o2 :: r) = x :: kS (o2 :: r) := by
    simp only [kS, hx]
   rw [e] at h
   have hgx := hg 0 x Tx rfl (by simp) hx
   unfold eo at h
   simp only [dz, hgx, bu, hx, jz] at h
   split at h
   ·rename_i z hz
    simp only [mt] at h
    obtain ⟨hd, _, hr⟩ := h
    cases i with
    | zero => simp at ho; subst ho; rw [hx] at hop; simp only [Op.alloc.injEq] at hop; subst hop; exact ⟨⟨z, hz⟩, hd⟩
    | succ i =>
     obtain ⟨q1, q2⟩ := nW (o2 :: r) _ _ hr i o T hg' (by simpa using ho) (by simp at hi ⊢; omega) hop
     exact ⟨q1, tu (xp _ _ _) q2⟩
   ·simp only [mt] at h
theorem mat {ops : Array Oper} {pb : Nat → Nat} {kp : PV → Env → List OB → Prop} {k : Env → List OB → Prop} {a : Act} {w : World} : ∀ (r : List Oper) (m : Nat) (G : Gh) (E : Env) (σ : List OB), Sim G E σ a w →
  (∀ (i : Nat) (o : Oper) (T : TypeId), r[i]? = some o → i + 1 < r.length → o.op = .alloc T → o.guard = none ∧ ∃ t, o.dst = some t ∧ a.tmps.getD t undef = .pointer (some ⟨pb (m + i), 0, none⟩) ∧ G.F (pb (m + i)) = none ∧ G.H (pb (m + i)) = none ∧
   (∀ (b : Nat) (og : OG), G.own[b]? = some (some og) → og.has = true → og.blk ≠ pb (m + i)) ∧ ∃ inf u, P.info? T = some inf ∧ inf.zero = some u ∧ w.heap[pb (m + i)]? = some (.cells u.cells T)) →
  (∀ (i j : Nat) (o o' : Oper) (T T' : TypeId), r[i]? = some o → r[j]? = some o' → i + 1 < r.length → j + 1 < r.length → o.op = .alloc T → o'.op = .alloc T' → pb (m + i) = pb (m + j) → i = j) →
  eo P ops (kS r) E σ k kp → ∀ q, r.getLast? = some q → ∃ G' E' σ', Gle G G' ∧ Sim G' E' σ' a w ∧ eo P ops [q] E' σ' k kp
 | [], m, G, E, σ, hs, hf, hdist, h, q, hq => by simp at hq
 | [x], m, G, E, σ, hs, hf, hdist, h, q, hq => by simp at hq; subst hq; exact ⟨G, E, σ, Gle.refl G, hs, h⟩
 | x :: o2 :: r, m, G, E, σ, hs, hf, hdist, h, q, hq => by
  have hq' : (o2 :: r).getLast? = some q := by simpa [List.getLast?_cons_cons] using hq
  have hdist' : ∀ (i j : Nat) (o o' : Oper) (T T' : TypeId), (o2 :: r)[i]? = some o → (o2 :: r)[j]? = some o' → i + 1 < (o2 :: r).length → j + 1 < (o2 :: r).length → o.op = .alloc T → o'.op = .alloc T' → pb (m + 1 + i) = pb (m + 1 + j) → i = j := by
   intro i j o o' T T' h1 h2 h3 h4 h5 h6 h7
   have := hdist (i + 1) (j + 1) o o' T T' (by simpa using h1) (by simpa using h2) (by simp at h3 ⊢; omega) (by simp at h4 ⊢; omega) h5 h6 (by rw [show m + (i + 1) = m + 1 + i by omega, show m + (j + 1) = m + 1 + j by omega]; exact h7)
   omega
  by_cases hx : ∀ T, x.op ≠ .alloc T
  ·have e : kS (x :: o2 :: r) = kS (o2 :: r) := by
    unfold kS
    split
    ·rename_i T' e; exact (hx T' e).elim
    ·cases r <;> rfl
   rw [e] at h
   refine mat (o2 :: r) (m + 1) G E σ hs (fun i o T h1 h2 h3 => ?_) hdist' h q hq'
   have := hf (i + 1) o T (by simpa using h1) (by simp at h2 ⊢; omega) h3
   rw [show m + (i + 1) = m + 1 + i by omega] at this
   exact this
  ·obtain ⟨Tx, hx⟩ : ∃ T, x.op = .alloc T := Classical.byContradiction fun h => hx fun T e => h ⟨T, e⟩
   have e : kS (x :: o2 :: r) = x :: kS (o2 :: r) := by
    simp only [kS, hx]
   rw [e] at h
   obtain ⟨hgx, t, hd, g1, g2, g3, g4, inf, u, g5, g6, g7⟩ := hf 0 x Tx rfl (by simp) hx
   simp only [Nat.add_zero] at g1 g2 g3 g4 g7
   unfold eo at h
   simp only [dz, hgx, bu, hx, jz] at h
   split at h
   ·rename_i z hz
    simp only [mt] at h
    obtain ⟨hdk, _, hr⟩ := h
    obtain ⟨inf', u', k1, k2, _, _, _, k5⟩ := hN G hz
    rw [g5] at k1; simp only [Option.some.injEq] at k1; subst k1
    rw [g6] at k2; simp only [Option.some.injEq] at k2; subst k2
    have hinv := hs.inv.gain (cs := z) g7 g3 g2 g4 (aO.mono (fun _ _ hr => aY.rep hr) k5)
    have hle : bo G.own (G.own ++ [some (⟨pb m, 0, 0, 0, true⟩ : OG)]) := bo.append _ _
    rw [hd] at hr
    have hsim : Sim { G with own := G.own ++ [some ⟨pb m, 0, 0, 0, true⟩] } (E.putD (some t) ⟨true, .c (.optr σ.length 0)⟩) (σ ++ [.box z]) a w := by
     refine ⟨hinv, hs.defers, hs.size, hs.na, fun i hc => ?_⟩
     have hg := Env.get_put E t i _ hc
     show aQ _ ((E.put t _).get i).v _
     rw [hg]
     by_cases ei : i = t
     ·rw [if_pos ei, ei, g1]
      refine ⟨rfl, some ⟨pb m, 0, 0, 0, true⟩, ?_, fun og e _ => by simp only [Option.some.injEq] at e; subst e; rfl⟩
      show (G.own ++ _)[σ.length]? = _
      rw [← hs.inv.len]; simp
     ·rw [if_neg ei]
      have hc' : (E.get i).cond = true := by
       have : ((E.put t ⟨true, .c (.optr σ.length 0)⟩).get i).cond = true := hc
       rw [hg, if_neg ei] at this; exact this
      exact aQ.mono (G := G) (G' := { G with own := G.own ++ [some ⟨pb m, 0, 0, 0, true⟩] }) (fun _ _ h => h) hle (hs.slot i hc')
    obtain ⟨G', E', σ', q1, q2, q3⟩ := mat (o2 :: r) (m + 1) _ _ _ hsim (fun i o T h1 h2 h3 => by
     obtain ⟨f1, t', f2, f3, f4, f5, f6, f7⟩ := hf (i + 1) o T (by simpa using h1) (by simp at h2 ⊢; omega) h3
     rw [show m + (i + 1) = m + 1 + i by omega] at f3 f4 f5 f6 f7
     refine ⟨f1, t', f2, f3, f4, f5, fun b og hb hh => ?_, f7⟩
     rcases Nat.lt_or_ge b G.own.length with hb' | hb'
     ·rw [List.getElem?_append_left hb'] at hb; exact f6 b og hb hh
     ·rw [List.getElem?_append_right hb'] at hb
      rcases Nat.eq_zero_or_pos (b - G.own.length) with e0 | e0
      ·rw [e0] at hb
       simp only [List.getElem?_cons_zero, Option.some.injEq] at hb
       subst hb
       intro e1
       have := hdist 0 (i + 1) x o Tx T rfl (by simpa using h1) (by simp) (by simp at h2 ⊢; omega) hx h3 (by rw [Nat.add_zero, show m + (i + 1) = m + 1 + i by omega]; exact e1)
       omega
      ·rw [List.getElem?_eq_none (by simp; omega)] at hb; cases hb) hdist' hr q hq'
    have hGle : Gle G { G with own := G.own ++ [some ⟨pb m, 0, 0, 0, true⟩] } := ⟨⟨fun _ _ h => h, rfl, rfl, rfl⟩, jA.of_le hle⟩
    exact ⟨G', E', σ', hGle.trans q1, q2, q3⟩
   ·simp only [mt] at h
theorem rW {l : List Oper} {listed : Array Bool} {i : Nat} (h : i ∈ Region.ready .any (eZ l).toArray listed) : i ∈ Region.ready .any l.toArray listed := by
 obtain ⟨h1, o, ho, h2⟩ := mem_ready.1 h
 obtain ⟨o2, q1, q2, q3, q4⟩ := nV (show (eZ l)[i]? = some o by simpa using ho)
 exact mem_ready.2 ⟨h1, o2, by simpa using q1, fun x hx => h2 x (by rw [q3]; exact hx)⟩
theorem tU {l : List Oper} {i : Nat} {q : Oper} {K : Act → World → Prop} {a : Act} {w : World} (ho : (eZ l)[i]? = some (nu q)) (hg : q.guard = none) (h : wpOp P (eZ l).toArray (fun _ _ _ => False) i K a w) : K a w := by
 unfold wpOp at h
 simp only [List.getElem?_toArray, ho] at h
 rw [if_pos (by unfold Region.wanted; simp [nu, hg])] at h
 rcases h with h | ⟨_, _, _, h⟩
 ·unfold Oper.wp at h
  have : (execOp a.eval (nu q)).run P w = .ok (.value (.bool true)) w := by simp [execOp, nu, Act.eval]
  rw [this] at h
  exact h
 ·exact h.elim
theorem tV {ops : Array Oper} {Q : Exit → Act → World → Prop} {listed : Array Bool} (hr : Region.ready .any ops listed = []) : ∀ (fuel : Nat) (a : Act) (w : World), Q .normal a w → wpAny P .any ops Q fuel listed a w
 | 0, a, w, h => ⟨hr, h⟩
 | fuel + 1, a, w, h => ⟨fun _ => h, fun i hi => by rw [hr] at hi; simp at hi⟩
theorem xq {id : Nat} {l : List Oper} {K : Kt} {E : Env} {σ : List OB} (hm : P.follows .mixedOrders = true) (ts : List Nat) (masks : List Nat) (bs : List Bool) (hc : xo l ts masks bs = true) (hts : ∀ t ∈ ts, t < 512) {k : Env → List OB → Prop} {kp : PV → Env → List OB → Prop} (hkn : ∀ E σ, k E σ → K .normal E σ) (hkp : ∀ p E σ, kp p E σ → K (.panic p) E σ)
  (h : TR P (eZ l).toArray (eZ l) bs (E.forget ts) σ (fun E σ => eo P l.toArray (kS l) E σ k kp)) : W P (.region id l.toArray true) K E σ := fun G a w hs0 => by
 have hs := Env.forget_sim ts hs0
 have hE := fun t ht => sR ts E t hts ht
 generalize E.forget ts = E1 at hs hE h
 obtain ⟨tr, ht, hk⟩ := h
 unfold xo at hc
 simp only [Bool.and_eq_true] at hc
 have c := sG hc.1
 have v := vU hc.2
 have hz : ∀ (i : Nat) (o : Oper) (T : TypeId), l[i]? = some o → i + 1 < l.length → o.op = .alloc T → (∃ z, iF P T = some z) ∧ dJ E1 o.dst := fun i o T h1 h2 h3 => by
  obtain ⟨q1, q2⟩ := nW l _ _ hk i o T (fun i o T h1 h2 h3 => (v.al i o T h1 h2 h3).1) h1 h2 h3
  exact ⟨q1, tu (lV (eZ l) tr E1 (eZ l).length).1 q2⟩
 have hpos := v.pos
 obtain ⟨q, hq⟩ : ∃ q, l[l.length - 1]? = some q := ⟨_, List.getElem?_eq_getElem (by omega)⟩
 obtain ⟨hqd, hqg⟩ := v.last _ q hq (by omega)
 have hvq := j7 l _ q hq
 rw [if_neg (by omega)] at hvq
 refine wp_region_any hm ?_
 have key : ∀ (fuel : Nat) (listed : Array Bool) (a : Act) (w : World), listed.toList.count false ≤ fuel → listed.getD (l.length - 1) false = false → StA P l tr E1 σ G listed a w → wpAny P .any l.toArray (dy G K) fuel listed a w := by
  have some_ready : ∀ (listed : Array Bool) (a : Act) (w : World), listed.getD (l.length - 1) false = false → StA P l tr E1 σ G listed a w → Region.ready .any l.toArray listed ≠ [] := by
   intro listed a w h1 ⟨G1, _, hS⟩ hr
   have hr' : Region.ready .any (eZ l).toArray listed = [] := by
    rw [List.eq_nil_iff_forall_not_mem] at hr ⊢
    exact fun i hi => hr i (rW hi)
   have := nO c hS.1 hr' (l.length - 1) (by rw [jf]; omega)
   rw [h1] at this; cases this
  intro fuel
  induction fuel with
  | zero =>
   intro listed a w hf hl hJ
   exfalso
   have hsz : listed.size = l.length := by obtain ⟨_, _, hS⟩ := hJ; rw [hS.1, jf]
   have : listed.toList[l.length - 1]? = some false := by
    rw [Array.getD_eq_getD_getElem?, Array.getElem?_eq_getElem (by omega)] at hl
    rw [Array.getElem?_toList, Array.getElem?_eq_getElem (by omega)]
    simpa using hl
   have hpos := List.count_pos_iff.2 (List.mem_of_getElem? this)
   omega
  | succ fuel ih =>
   intro listed a w hf hl hJ
   refine ⟨fun hr => (some_ready listed a w hl hJ hr).elim, fun i hi => ?_⟩
   have hsz : listed.size = l.length := by obtain ⟨_, _, hS⟩ := hJ; rw [hS.1, jf]
   obtain ⟨hi0, hil, o, ho, hr⟩ := kT hsz hi
   have hset : ∀ j, (listed.setIfInBounds i true).getD j false = if j = i then true else listed.getD j false := fun j => ql _ _ _ (by omega)
   by_cases hlt : i + 1 < l.length
   ·refine wpOp_mono (fun a' w' hJ' => ih _ a' w' ?_ ?_ hJ') (StA.step c v ht hE hz G listed a w i hJ hi hlt)
    ·have : listed.toList[i]? = some false := by
      rw [Array.getD_eq_getD_getElem?, Array.getElem?_eq_getElem (by omega)] at hi0
      rw [Array.getElem?_toList, Array.getElem?_eq_getElem (by omega)]
      simpa using hi0
     have hc := lW _ _ this
     simp only [Array.toList_setIfInBounds]
     omega
    ·rw [hset, if_neg (by omega)]; exact hl
   ·have hie : i = l.length - 1 := by omega
    subst hie
    rw [hq] at ho
    simp only [Option.some.injEq] at ho
    subst ho
    obtain ⟨G1, ⟨p1, p2, p3, p4, p5, pb, p6, p7⟩, hS⟩ := hJ
    have hdone : ∀ (j : Nat), j < l.length - 1 → listed.getD j false = true := by
     intro j hj
     have hy := j7 l j l[j] (List.getElem?_eq_getElem (by omega))
     have := c.done hS.2.1 hvq hl (fun k hk => by
      have : fw (nu q) = fw q := rfl
      rw [this] at hk; exact hr k hk) hy (.inl (c.bar (l.length - 1) j _ _ hvq hy v.bar))
     rw [this]; simp; omega
    have hst := tU hvq hqg (StJ.step (Q := fun _ _ _ => False) c ht G1 listed a w (l.length - 1) hS (pA hi))
    have hall : ∀ j, j < l.length → (listed.setIfInBounds (l.length - 1) true).getD j false = true := by
     intro j hj
     rw [hset]
     by_cases e : j = l.length - 1
     ·rw [if_pos e]
     ·rw [if_neg e]; exact hdone j (by omega)
    obtain ⟨G2, hG2, hsim⟩ := (rM (Q := fun _ a' w' => ∃ G2, Gle G1 G2 ∧ Sim G2 (bY E1 (eZ l) tr (eZ l).length) (aG σ tr (eZ l).length) a' w') c ht G1 (fun G2 a' w' h1 h2 => ⟨G2, h1, h2⟩) 0 (listed.setIfInBounds (l.length - 1) true) a w (by
     refine Nat.le_of_eq (List.count_eq_zero.2 fun hm => ?_)
     obtain ⟨j, hj, he⟩ := List.getElem_of_mem hm
     have hj' : j < l.length := by simpa [hsz] using hj
     have := hall j hj'
     rw [Array.getD_eq_getD_getElem?, Array.getElem?_eq_getElem (by simpa [hsz] using hj')] at this
     rw [Array.getElem_toList] at he
     simp only [Option.getD_some] at this
     rw [he] at this; cases this) hst).2
    have hF2 : G2.F = G1.F := hG2.le.F
    have hsim' : Sim { G2 with F := G.F } (bY E1 (eZ l) tr (eZ l).length) (aG σ tr (eZ l).length) a w :=
     ⟨hsim.inv.less G.F (fun b x hb => by rw [hF2]; exact p5 b x hb), hsim.defers, hsim.size, hsim.na, fun i hc => aQ.mono (G := G2) (G' := { G2 with F := G.F }) (fun _ _ h => h) (bo.refl _) (hsim.slot i hc)⟩
    obtain ⟨G3, E3, σ3, r1, r2, r3⟩ := mat (pb := pb) l 0 _ _ _ hsim' (fun j y T h1 h2 h3 => by
     obtain ⟨e1, t, e2, _, _, _⟩ := v.al j y T h1 h2 h3
     obtain ⟨f1, f2, inf, u, f3, f4, f5⟩ := p7 j y T t h1 h2 h3 e2 (hdone j (by omega))
     rw [← hF2] at f5
     simp only [Nat.zero_add]
     refine ⟨e1, t, e2, f1, f2, hsim.inv.HF _ _ f5, fun b og hb hh he => ?_, inf, u, f3, f4, hsim.inv.hF _ _ f5⟩
     have := (hsim.inv.sep b og hb hh).2
     rw [he, f5] at this; cases this)
     (fun j k y y' T T' h1 h2 h3 h4 h5 h6 h7 => p6 j k y y' T T' h1 h2 h3 h4 h5 h6 (hdone j (by omega)) (hdone k (by omega)) (by simpa using h7)) hk q (by rw [List.getLast?_eq_getElem?]; exact hq)
    have hGle : Gle G { G2 with F := G.F } := by
     refine ⟨⟨fun b x hb => hG2.le.H b x (by rw [p1]; exact hb), rfl, hG2.le.w0.trans p3, hG2.le.na.trans p4⟩, ?_⟩
     have := hG2.own
     rw [p2, p4] at this
     exact this
    have hw := gF [q] E3 σ3 _ _ r3 G3 a w r2
    have hw' : wpList P l.toArray (dy G K) [q] a w := cW (fun e a' w' hp => dy.back (hGle.trans r1) (dy.mono (fun x E σ hx => by
     cases x with
     | normal => exact hkn E σ hx
     | exit id => exact hx.elim
     | ret => exact hx.elim
     | panic p => exact hkp p E σ hx) hp)) _ _ _ hw
    have hnil : Region.ready .any l.toArray (listed.setIfInBounds (l.length - 1) true) = [] := by
     rw [List.eq_nil_iff_forall_not_mem]
     intro j hj
     obtain ⟨g1, g2, _⟩ := kT (by simpa using hsz) hj
     rw [hall j g2] at g1; cases g1
    have hop : wpOp P l.toArray (dy G K) (l.length - 1) (fun a' w' => dy G K .normal a' w') a w := by
     unfold wpOp
     simp only [List.getElem?_toArray, hq]
     unfold wpList at hw'
     exact hw'
    exact wpOp_mono (fun a' w' hn => tV hnil fuel a' w' hn) hop
 refine key _ _ a _ (Nat.le_refl _) ?_ ?_ |> fun h => by
  have e : (Array.replicate l.toArray.size false).toList.count false = l.toArray.size := by simp
  rw [e] at h; exact h
 ·rw [Array.getD_eq_getD_getElem?, Array.getElem?_replicate]; split <;> rfl
 ·have hfalse : ∀ i, (Array.replicate l.toArray.size false).getD i false = false := by
   intro i
   rw [Array.getD_eq_getD_getElem?, Array.getElem?_replicate]
   split <;> rfl
  refine ⟨G, ⟨rfl, rfl, rfl, rfl, fun _ _ h => h, fun _ => 0, (fun i j o o' T T' _ _ _ _ _ _ h _ _ => by rw [hfalse] at h; cases h), (fun i o T t _ _ _ _ h => by rw [hfalse] at h; cases h)⟩, ?_⟩
  refine ⟨by simp [jf], (fun i o ho hd => by simp only [hfalse] at hd; cases hd), G, 0, Gle.refl G, by omega, (fun j o ho hl => by rw [hfalse]; simp), ?_, hs.defers, hs.size, hs.na, fun t ht hc => ?_⟩
  ·have : aG σ tr 0 = σ := by cases tr <;> rfl
   rw [this]; exact hs.inv.drawn
  ·have : ed t (eZ l) tr (fun i => (Array.replicate l.toArray.size false).getD i false) (E1.get t) = E1.get t := iI t (eZ l) tr _ _ fun j o _ _ => hfalse j
   rw [this] at hc ⊢
   exact hs.slot t hc
theorem vV {id : Nat} {l : List Oper} {y : Code} {K : Kt} {E : Env} {σ : List OB} (ms : List Nat) (ts : List Nat) (masks : List Nat) (bs : List Bool) (hm : P.follows .mixedOrders = true) (hc : xo l ts masks bs = true) (hts : ∀ t ∈ ts, t < 512)
  (h : ∀ (k : Env → List OB → Prop) (kp : PV → Env → List OB → Prop), (∀ E σ, W P y K E σ → k E σ) → fB P (eZ l).toArray (eZ l) bs (E.forget ts) σ (fun E σ => eo P l.toArray (kS l) E σ (fun E σ => k (E.forget ms) σ) kp)) : W P (.seq (.region id l.toArray true) y) K E σ :=
 oj (xq (k := fun E σ => W P y K (E.forget ms) σ) (kp := fun _ _ _ => False) hm ts masks bs hc hts (fun _ _ h => kk ms h) (fun _ _ _ h => h.elim) (fR _ bs _ σ _ (h (fun E σ => W P y K E σ) (fun _ _ _ => False) fun _ _ h => h)))
end
end Pam

namespace Pam
open Go Go.Shelf Go.Proofs
def li (l : List Int) : List Int := l.mergeSort fun x y => decide (x ≤ y)
theorem jl (l : List Int) : (li l).length = l.length := by simp [li, List.length_mergeSort]
theorem nR (cur : Array Value) (d : List Int) (k : Nat) : (Go.Sort.putCells (Value.int .i64) 0 d.toArray cur)[k]? = if h : k < d.length ∧ k < cur.size then some (.int .i64 (d[k]'h.1)) else cur[k]? := by
 unfold Go.Sort.putCells
 by_cases hk : k < cur.size
 ·by_cases hd : k < d.length
  ·rw [dif_pos ⟨hd, hk⟩]
   simp [hk, hd]
  ·rw [dif_neg (fun h => hd h.1)]
   simp [hk, hd]
 ·rw [dif_neg (fun h => hk h.2)]
  simp [hk]
theorem rQ (w : World) (n g : Nat) (os : Array Obj) (d : List Int) (cur : Array Value) (e : TypeId) (fr : Nat × Nat) (hb : w.heap[g]? = some (.cells cur e fr)) :
  (Go.Sort.grow (Go.Sort.putRow (Value.int .i64) (Go.Sort.ahead w n) g 0 d.toArray) os).heap[g]? = some (.cells (Go.Sort.putCells (Value.int .i64) 0 d.toArray cur) e fr) := by
 obtain ⟨hg, hb⟩ := Array.getElem?_eq_some_iff.1 hb
 simp [Go.Sort.grow, Go.Sort.putRow, Go.Sort.mapBlock, Go.Sort.ahead, Array.getElem?_append, hg, Array.getElem_modify, hb, Go.Sort.onCells]
theorem pr (w : World) (n g : Nat) (os : Array Obj) (d : Array Int) (k : Nat) (o : Obj) (hk : w.heap[k]? = some o) (hne : g ≠ k) :
  (Go.Sort.grow (Go.Sort.putRow (Value.int .i64) (Go.Sort.ahead w n) g 0 d) os).heap[k]? = some o := by
 obtain ⟨hg, hk⟩ := Array.getElem?_eq_some_iff.1 hk
 simp [Go.Sort.grow, Go.Sort.putRow, Go.Sort.mapBlock, Go.Sort.ahead, Array.getElem?_append, hg, Array.getElem_modify, hk, hne]
theorem mO {G : Gh} {w : World} {v : Nat} {T : TypeId} {l l' d : List Int} {o : OG} {c : Array Value} {fz : Nat × Nat} {os : Array Obj} {n : Nat}
  (hi : Inv G [.arr 1 v T (l.map fun x => [.int .i64 x])] w) (ho : G.own[0]? = some (some o)) (hhas : o.has = true) (hc : w.heap[o.blk]? = some (.cells c T fz))
  (hl : l'.length ≤ l.length) (hd : d.length = l.length) (hp : l' <+: d) :
  Inv G [.arr 1 v T (l'.map fun x => [.int .i64 x])] (Go.Sort.grow (Go.Sort.putRow (Value.int .i64) (Go.Sort.ahead w n) o.blk 0 d.toArray) os) := by
 obtain ⟨o', ho', hver, hsz, _, hlc, hcm, _, hnh, hh⟩ := hi.own 0 _ rfl
 rw [ho] at ho'
 obtain rfl : o = o' := by simpa using ho'
 obtain ⟨c', fz', hc', hfz, hcs, _⟩ := hh hhas
 rw [hc] at hc'
 obtain ⟨rfl, rfl⟩ : c = c' ∧ fz = fz' := by simpa using hc'
 rw [Nat.mul_one] at hcs
 simp only [List.length_map] at hlc
 have hsep := hi.sep 0 o ho hhas
 refine ⟨?_, ?_, hi.HF, by simpa using hi.len, ?_, hi.inj, hi.sep, hi.os, hi.tape, hi.output, ?_⟩
 ·intro b ob h
  exact pr _ _ _ _ _ _ _ (hi.hH b ob h) (fun e => by subst e; rw [hsep.1] at h; cases h)
 ·intro b ob h
  exact pr _ _ _ _ _ _ _ (hi.hF b ob h) (fun e => by subst e; rw [hsep.2] at h; cases h)
 ·intro b ob h
  match b with
  | 0 =>
   obtain rfl : OB.arr 1 v T (l'.map fun x => [.int .i64 x]) = ob := by simpa using h
   refine ⟨o, ho, hver, hsz, by omega, by simp only [List.length_map]; omega, hcm, ?_, hnh, fun _ => ?_⟩
   ·intro e he; simp only [List.mem_map] at he; obtain ⟨x, _, rfl⟩ := he; rfl
   ·refine ⟨_, fz, rQ _ _ _ _ _ _ _ _ hc, ?_, ?_, ?_⟩
    ·rcases hfz with h | h
     ·exact .inl h
     ·exact .inr (by simpa [Go.Sort.putCells] using h)
    ·simpa [Go.Sort.putCells, hsz] using hcs
    ·intro i j e x hi1 hj1
     have hil : i < l'.length := by
      rcases Nat.lt_or_ge i l'.length with h | h
      ·exact h
      ·rw [List.getElem?_eq_none (by simpa using h)] at hi1; cases hi1
     have hid : i < d.length := Nat.lt_of_lt_of_le hil hp.length_le
     rw [List.getElem?_map, List.getElem?_eq_getElem hil] at hi1
     obtain rfl : [CV.int .i64 l'[i]] = e := by simpa using hi1
     match j with
     | 0 =>
      obtain rfl : CV.int .i64 l'[i] = x := by simpa using hj1
      refine ⟨.int .i64 d[i], ?_, ?_⟩
      ·rw [show i * 1 + 0 = i by omega]
       have := nR c d i
       rw [dif_pos ⟨hid, by omega⟩] at this
       exact this
      ·have : l'[i] = d[i] := hp.getElem hil
       rw [this]; exact .int .i64 _
     | k + 1 => simp at hj1
  | k + 1 => simp at h
 ·have := hi.grow
  simp only [Go.Sort.grow, Array.size_append, Go.Sort.size_putRow, Go.Sort.heap_ahead]
  omega
theorem nS {G : Gh} {w : World} {v : Nat} {T : TypeId} {l : List Int} {o : OG}
  (hi : Inv G [.arr 1 v T (l.map fun x => [.int .i64 x])] w) (ho : G.own[0]? = some (some o)) (hhas : o.has = true) :
  ∃ c fz, w.heap[o.blk]? = some (.cells c T fz) ∧ Go.Sort.Holds (Value.int .i64) w o.blk 0 l.toArray := by
 obtain ⟨o', ho', hver, hsz, _, hlc, hcm, _, hnh, hh⟩ := hi.own 0 _ rfl
 rw [ho] at ho'
 obtain rfl : o = o' := by simpa using ho'
 obtain ⟨c, fz, hc, hfz, hcs, hcell⟩ := hh hhas
 rw [Nat.mul_one] at hcs
 simp only [List.length_map] at hlc
 refine ⟨c, fz, hc, ?_⟩
 have hcell' : ∀ j (h : j < l.length), c[j]? = some (.int .i64 l[j]) := by
  intro j h
  obtain ⟨x, h1, h2⟩ := hcell j 0 [.int .i64 l[j]] (.int .i64 l[j]) (by simp [h]) (by simp)
  cases h2
  simpa using h1
 intro j hj
 have hj' : j < l.length := by simpa using hj
 have hjc : j < c.size := by omega
 constructor
 ·have := hcell' j hj'
  simp only [World.cell?, hc, Nat.zero_add]
  simp [this, hj']
 ·simp only [World.frozen?, hc]
  rcases hfz with rfl | hfz
  ·simp
  ·obtain ⟨lo, hi'⟩ := fz
   simp at hfz ⊢
   omega
theorem rl {G : Gh} {w : World} {v : Nat} {T : TypeId} {l : List Int} {vs : List Value}
  (hi : Inv G [.arr 1 v T (l.map fun x => [.int .i64 x])] w) (ha : aO (aQ G) [.c (.osl 0 v 0 l.length)] vs) :
  ∃ o a, G.own[0]? = some (some o) ∧ o.ver = v ∧ vs = [.slice a l.length o.cap] ∧ l.length ≤ o.cap ∧ (l ≠ [] → o.has = true ∧ a = some ⟨o.blk, 0, none⟩) := by
 obtain ⟨o, ho, hver, hsz, _, hlc, hcm, _, hnh, hh⟩ := hi.own 0 _ rfl
 simp only [List.length_map] at hlc
 match vs, ha with
 | [v0], ha =>
  obtain ⟨hv0, _⟩ := ha
  obtain ⟨_, oo, hoo, hsl⟩ := hv0
  rw [ho] at hoo
  obtain rfl : some o = oo := by simpa using hoo
  obtain ⟨hcap, a, rfl, haddr⟩ := (hsl o rfl).2 hver.symm
  refine ⟨o, a, ho, hver, rfl, hlc, fun he => ?_⟩
  have hpos : 0 < l.length := List.length_pos_iff.2 he
  have hhas : o.has = true := by
   cases h : o.has with
   | true => rfl
   | false => have := hnh h; omega
  obtain ⟨a', rfl, ha'⟩ := haddr hhas
  obtain rfl := ha' (by omega)
  exact ⟨hhas, by simp⟩
theorem tQ {P : Program} {ρ : Ren} (Ly : Lays.n189 P ρ) {f : FuncId} (hf : ρ.f 189 = f) (hb : ∃ fn, P.funcs[f]? = some fn ∧ fn.body.isSome = true ∧ (fn.name == "runtime.NumGoroutine") = false)
  (T : TypeId) (v : Nat) (l : List Int) (hl : l.length ≤ 140737488355328) :
  e7 P f [.c (.osl 0 v 0 l.length)] [.arr 1 v T (l.map fun x => [.int .i64 x])] (fun p σ => p = .t [] ∧ σ = [.arr 1 v T ((li l).map fun x => [.int .i64 x])]) (fun _ _ => False) := by
 subst hf
 refine ⟨hb, fun G w vs hna hi ha => ?_⟩
 obtain ⟨o, a, ho, hver, rfl, hlc, hx⟩ := rl hi ha
 by_cases he : l = []
 ·subst he
  refine (Any.slices_Sort_int_none Ly a _ w).mono ?_
  rintro e w' ⟨rfl, rfl⟩
  exact ⟨G, _, .t [], .tuple #[], Gle.refl G, hi, ⟨[], rfl, trivial⟩, .inl ⟨rfl, rfl, by simp [li]⟩⟩
 ·obtain ⟨hhas, rfl⟩ := hx he
  obtain ⟨c, fz, hc, hH⟩ := nS hi ho hhas
  refine (Any.slices_Sort_int Ly o.blk 0 o.cap l w hH (Array.getElem?_eq_some_iff.1 hc).1 (by omega)).mono ?_
  rintro e w' ⟨rfl, n, os, rfl⟩
  exact ⟨G, _, .t [], .tuple #[], Gle.refl G, mO hi ho hhas hc (Nat.le_of_eq (jl l)) (jl l) (List.prefix_rfl), ⟨[], rfl, trivial⟩, .inl ⟨rfl, rfl, rfl⟩⟩
theorem pt (l : List Int) : (Go.Lib.compact l).length ≤ l.length := by
 simp only [Go.Lib.compact, Go.Lib.compactUpTo, List.length_map]
 exact Nat.le_trans (List.length_filter_le _ _) (by simp)
theorem rm {P : Program} {ρ : Ren} (Ly : Lays2.n20 P ρ) {f : FuncId} (hf : ρ.f 20 = f) (hb : ∃ fn, P.funcs[f]? = some fn ∧ fn.body.isSome = true ∧ (fn.name == "runtime.NumGoroutine") = false)
  (T : TypeId) (v : Nat) (l : List Int) (hl : l.length ≤ 140737488355328) :
  e7 P f [.c (.osl 0 v 0 l.length)] [.arr 1 v T (l.map fun x => [.int .i64 x])] (fun p σ => p = .c (.osl 0 v 0 (Go.Lib.compact l).length) ∧ σ = [.arr 1 v T ((Go.Lib.compact l).map fun x => [.int .i64 x])]) (fun _ _ => False) := by
 subst hf
 refine ⟨hb, fun G w vs hna hi ha => ?_⟩
 obtain ⟨o, a, ho, hver, rfl, hlc, hx⟩ := rl hi ha
 by_cases he : l = []
 ·subst he
  refine (calls_of_every_depth fun D => AnyS.slices_Compact_int_empty_in Ly D a _ w).mono ?_
  rintro e w' ⟨rfl, rfl⟩
  have : Go.Lib.compact ([] : List Int) = [] := List.eq_nil_of_length_eq_zero (Nat.le_zero.1 (pt []))
  rw [this]
  exact ⟨G, _, .c (.osl 0 v 0 0), _, Gle.refl G, hi, ha.1, .inl ⟨rfl, rfl, rfl⟩⟩
 ·obtain ⟨hhas, rfl⟩ := hx he
  obtain ⟨c, fz, hc, hH⟩ := nS hi ho hhas
  refine (calls_of_every_depth fun D => AnyS.slices_Compact_int_in Ly D o.blk 0 o.cap l w hH (by omega) hlc).mono ?_
  rintro e w' ⟨rfl, n, rfl⟩
  have hcl := pt l
  have hg : ∀ (W : World), Go.Sort.grow W #[] = W := fun W => by simp [Go.Sort.grow]
  have := mO (n := n) (os := #[]) hi ho hhas hc hcl (d := Go.Lib.compact l ++ List.replicate (l.length - (Go.Lib.compact l).length) 0) (by simp; omega) (List.prefix_append _ _)
  rw [hg] at this
  refine ⟨G, _, .c (.osl 0 v 0 (Go.Lib.compact l).length), _, Gle.refl G, this, ?_, .inl ⟨rfl, rfl, rfl⟩⟩
  obtain ⟨hv0, _⟩ := ha
  obtain ⟨_, oo, hoo, hsl⟩ := hv0
  rw [ho] at hoo
  obtain rfl : some o = oo := by simpa using hoo
  obtain ⟨hcap, a, hae, haddr⟩ := (hsl o rfl).2 hver.symm
  refine ⟨rfl, some o, ho, fun o' ho' => ?_⟩
  obtain rfl : o = o' := by simpa using ho'
  refine ⟨by omega, fun _ => ⟨by omega, some ⟨o.blk, 0, none⟩, by simp, fun h => ⟨_, rfl, fun _ => by simp⟩⟩⟩
end Pam

namespace Pam
open Go Go.Shelf Go.Proofs
def rn (l : List Int) (i j : Nat) : List Int := l.take i ++ l.drop j
theorem uT (l : List Int) (i j : Nat) (hij : i ≤ j) (hj : j ≤ l.length) : (rn l i j).length = l.length - (j - i) := by
 unfold rn
 simp only [List.length_append, List.length_take, List.length_drop]
 omega
theorem rR {P : Program} {ρ : Ren} (Ly : Lays2.n23 P ρ) {f : FuncId} (hf : ρ.f 23 = f) (hb : ∃ fn, P.funcs[f]? = some fn ∧ fn.body.isSome = true ∧ (fn.name == "runtime.NumGoroutine") = false)
  (T : TypeId) (v : Nat) (l : List Int) (i j : Nat) (hij : i ≤ j) (hj : j ≤ l.length) (hl : l ≠ []) :
  e7 P f [.c (.osl 0 v 0 l.length), .c (.int .i64 (i : Int)), .c (.int .i64 (j : Int))] [.arr 1 v T (l.map fun x => [.int .i64 x])]
   (fun p σ => p = .c (.osl 0 v 0 (rn l i j).length) ∧ σ = [.arr 1 v T ((rn l i j).map fun x => [.int .i64 x])]) (fun _ _ => False) := by
 subst hf
 refine ⟨hb, fun G w vs hna hi ha => ?_⟩
 match vs, ha with
 | [v0, v1, v2], ha =>
  obtain ⟨ha0, hi1, hj1, _⟩ := ha
  obtain ⟨o, a, ho, hver, hvs, hlc, hx⟩ := rl (vs := [v0]) hi ⟨ha0, trivial⟩
  obtain rfl : v0 = .slice a l.length o.cap := by simpa using hvs
  have e1 : v1 = .int .i64 (i : Int) := db hi1
  have e2 : v2 = .int .i64 (j : Int) := db hj1
  subst e1; subst e2
  obtain ⟨hhas, rfl⟩ := hx hl
  obtain ⟨c, fz, hc, hH⟩ := nS hi ho hhas
  obtain ⟨o', ho', _, _, _, _, hcm, _⟩ := hi.own 0 _ rfl
  rw [ho] at ho'
  obtain rfl : o = o' := by simpa using ho'
  refine (Any.slices_Delete_int Ly o.blk 0 o.cap i j l w hH hlc (by have : maxLen = 9223372036854775807 := rfl; omega) hij hj).mono ?_
  rintro e w' ⟨rfl, n, rfl⟩
  have hcl := uT l i j hij hj
  have hg : ∀ (W : World), Go.Sort.grow W #[] = W := fun W => by simp [Go.Sort.grow]
  have := mO (n := n) (os := #[]) hi ho hhas hc (l' := rn l i j) (d := l.take i ++ l.drop j ++ List.replicate (j - i) 0) (by omega) (by simp; omega) (List.prefix_append _ _)
  rw [hg] at this
  refine ⟨G, _, .c (.osl 0 v 0 (rn l i j).length), _, Gle.refl G, this, ?_, .inl ⟨rfl, rfl, rfl⟩⟩
  obtain ⟨_, oo, hoo, hsl⟩ := ha0
  rw [ho] at hoo
  obtain rfl : some o = oo := by simpa using hoo
  obtain ⟨hcap, a, hae, haddr⟩ := (hsl o rfl).2 hver.symm
  refine ⟨rfl, some o, ho, fun o' ho' => ?_⟩
  obtain rfl : o = o' := by simpa using ho'
  refine ⟨by omega, fun _ => ⟨by omega, some ⟨o.blk, 0, none⟩, by simp [hcl], fun h => ⟨_, rfl, fun _ => by simp⟩⟩⟩
end Pam

namespace Pam
open Go
section
variable {P : Program} {E : Env} {σ : List OB}
theorem rp (k : IntKind) (L : List Int) (n : Nat) (h : n < L.length) : (L.map (CV.int k)).getD n .junk = .int k (L.getD n 0) := by
 simp [List.getD, h]
theorem vS {o : Oper} {T : TypeId} {x i : Operand} {ys : List CV} {k k' : IntKind} {n : Int} (L : List Int) (m : Nat) (ho : o.op = .index T x i) (hx : ev E x = ⟨true, .a ys⟩) (hi : ev E i = ⟨true, .c (.int k' n)⟩)
  (hy : ys = L.map (CV.int k)) (hC : lc P T = true ∧ bq P (P.elem T) = true ∧ P.arrayLen T * P.cellsOf (P.elem T) ≤ L.length ∧ ig P (P.elem T) = false ∧ P.cellsOf (P.elem T) = 1) (hl : P.arrayLen T = m) (hm : L.length = m)
  (h0 : 0 ≤ n) (h1 : n < (m : Int)) : pn P E σ o (.c (.int k (L.getD n.toNat 0))) σ := .quiet fun G a w hs => by
 subst hy
 have h : ∃ C, jg P true T (ev E x) (ev E i) = .ok C (.c ((L.map (CV.int k)).getD n.toNat .junk)) ∧ C := by
  rw [hx, hi]
  refine ⟨_, by unfold jg; rfl, ?_⟩
  exact ⟨fun _ => rfl, fun _ => rfl, hC.1, hC.2.1, by simpa using hC.2.2.1, hC.2.2.2.1, hC.2.2.2.2, fun _ => ⟨h0, by rw [hl]; exact h1⟩⟩
 obtain ⟨C, h, hc⟩ := h
 obtain ⟨r, e1, e2⟩ := qx (P := P) (G := G) (w := w) h hc rfl (ct hs x) (ct hs i)
 have : n.toNat < L.length := by omega
 rw [rp k L n.toNat this] at e2
 exact ⟨r, by simp only [execOp, ho]; exact i0 e1, e2⟩
theorem oq {s : Nat} {x : CV} : ∀ {es : List (List CV)} {i j : Nat} {e : List CV}, (∀ e ∈ es, e.length = s) → es[i]? = some e → e[j]? = some x → es.flatten[i * s + j]? = some x
 | [], i, j, e, _, h, _ => by simp at h
 | a :: es, 0, j, e, hl, h, hx => by
  obtain rfl : a = e := by simpa using h
  have hj : j < a.length := by
   rcases Nat.lt_or_ge j a.length with h' | h'
   ·exact h'
   ·rw [List.getElem?_eq_none h'] at hx; cases hx
  rw [List.flatten_cons, Nat.zero_mul, Nat.zero_add, List.getElem?_append_left hj]; exact hx
 | a :: es, i + 1, j, e, hl, h, hx => by
  have ha : a.length = s := hl a (by simp)
  rw [List.flatten_cons, List.getElem?_append_right (by rw [ha, Nat.add_mul]; omega)]
  have := oq (es := es) (i := i) (fun e he => hl e (by simp [he])) (by simpa using h) hx
  rw [ha, show (i + 1) * s + j - s = i * s + j by rw [Nat.add_mul]; omega]
  exact this
theorem sP {o : Oper} {T : TypeId} (s : Nat) (es : List (List CV)) (ho : o.op = .alloc T) (hz : iF P T = some es.flatten) (hs : 0 < s) (hl : ∀ e ∈ es, e.length = s) (hn : 0 < es.length) (hm : es.length ≤ 1000000) :
  pn P E σ o (.c (.oel σ.length 0 0 0)) (σ ++ [.arr s 0 T es]) := fun G a w hs' => by
 have hi := hs'.inv
 obtain ⟨i, u, h1, h2, h3, h4, _, h5⟩ := hN G hz
 have hlen : es.flatten.length = es.length * s := by
  rw [List.length_flatten, List.map_congr_left (g := fun _ => s) hl, List.map_const', List.sum_replicate_nat]
 have hcs : u.cells.size = es.length * s := by
  have := h5.length; simp only [Array.length_toList] at this; omega
 obtain ⟨G', k1, k2, k3, k4⟩ := mY (s := s) (T := T) (es := es) (c := u.cells) (cap := es.length) (w' := w.alloc (.cells u.cells T)) hi (.inr rfl) hs (Nat.le_refl _) (by have h9 : maxLen = 9223372036854775807 := rfl; omega) hl hcs
  (by
   intro i j e x hi1 hj1
   have hf := oq hl hi1 hj1
   obtain ⟨v, hv, hr⟩ := h5.get _ _ hf
   exact ⟨v, by show u.cells[i * s + j]? = some v; rw [← Array.getElem?_toList]; exact hv, hr⟩) es.length (Nat.le_refl _)
 refine ⟨_, _, _, G', ?_, .inl rfl, k1, k2, k3, (?_ : aQ G' (.c (.oel σ.length 0 0 0)) (.pointer (some ⟨w.heap.size, 0, none⟩)))⟩
 ·simp [execOp, ho, Instr.alloc, fQ h1 h2, newVar, newRow]
 ·obtain ⟨_, oo, hoo, hsl⟩ := k4
  refine ⟨rfl, oo, hoo, fun o e => ?_⟩
  subst e
  obtain ⟨g1, g2⟩ := hsl o rfl
  refine ⟨g1, fun hv => ?_⟩
  obtain ⟨hcap, ad, hval, hha⟩ := g2 hv
  obtain ⟨o', q1, q2, q3, q4, q5, q6, q7, q8, q9⟩ := k3.own σ.length (.arr s 0 T es) (by simp)
  rw [hoo] at q1
  obtain rfl : o = o' := by simpa using q1
  have hh : o.has = true := by
   cases hh : o.has with
   | true => rfl
   | false => have := q8 hh; omega
  obtain ⟨a', rfl, ha'⟩ := hha hh
  have := ha' (by omega)
  subst this
  simp only [Value.slice.injEq, Option.some.injEq] at hval
  have h0 := hval.1
  simp only [Addr.mk.injEq] at h0
  rw [← h0.1]
  simp
end
end Pam

namespace Pam
open Go
def ins : List Int → Int → List Int
 | [], n => [n]
 | x :: xs, n => if x ≥ n then (if x > n then n :: x :: xs else x :: xs) else x :: ins xs n
theorem rv (l : List Int) (n y : Int) : y ∈ ins l n ↔ y = n ∨ y ∈ l := by
 induction l with
 | nil => simp [ins]
 | cons x xs ih =>
  unfold ins
  split
  ·split
   ·simp
   ·have : x = n := by omega
    subst this; simp
  ·simp only [List.mem_cons, ih]
   constructor
   ·rintro (h | h | h) <;> simp [h]
   ·rintro (h | h | h) <;> simp [h]
theorem sV {l : List Int} (h : l.Pairwise (· < ·)) (n : Int) : (ins l n).Pairwise (· < ·) := by
 induction l with
 | nil => simp [ins]
 | cons x xs ih =>
  obtain ⟨h1, h2⟩ := List.pairwise_cons.1 h
  unfold ins
  split
  ·split
   ·refine List.pairwise_cons.2 ⟨?_, h⟩
    intro a ha
    rcases List.mem_cons.1 ha with rfl | ha
    ·omega
    ·have := h1 a ha; omega
   ·exact h
  ·refine List.pairwise_cons.2 ⟨?_, ih h2⟩
   intro a ha
   rcases (rv xs n a).1 ha with rfl | ha
   ·omega
   ·exact h1 a ha
theorem ow : ∀ {l l' : List Int}, l.Pairwise (· < ·) → l'.Pairwise (· < ·) → (∀ x, x ∈ l ↔ x ∈ l') → l = l'
 | [], [], _, _, _ => rfl
 | [], b :: l', _, _, h => by have := (h b).2 (by simp); simp at this
 | a :: l, [], _, _, h => by have := (h a).1 (by simp); simp at this
 | a :: l, b :: l', hl, hl', h => by
  obtain ⟨h1, h2⟩ := List.pairwise_cons.1 hl
  obtain ⟨k1, k2⟩ := List.pairwise_cons.1 hl'
  have e : a = b := by
   have ha := (h a).1 (by simp)
   have hb := (h b).2 (by simp)
   rcases List.mem_cons.1 ha with e | ha
   ·exact e
   ·rcases List.mem_cons.1 hb with e | hb
    ·exact e.symm
    ·have := h1 b hb; have := k1 a ha; omega
  subst e
  rw [ow h2 k2 fun x => ?_]
  constructor
  ·intro hx
   rcases List.mem_cons.1 ((h x).1 (by simp [hx])) with rfl | h'
   ·have := h1 x hx; omega
   ·exact h'
  ·intro hx
   rcases List.mem_cons.1 ((h x).2 (by simp [hx])) with rfl | h'
   ·have := k1 x hx; omega
   ·exact h'
theorem tZ (l : List Int) (x : Int) : x ∈ li l ↔ x ∈ l := by simp [li, List.mem_mergeSort]
theorem rx (l : List Int) : (li l).Pairwise (· ≤ ·) := by
 have := List.pairwise_mergeSort (le := fun x y : Int => decide (x ≤ y)) (by intro a b c; simp; omega) (by intro a b; simp; omega) l
 exact this.imp (by simp)
theorem sc (l : List Int) (x : Int) : x ∈ Go.Lib.compact l ↔ x ∈ l := by
 simp only [Go.Lib.compact, Go.Lib.compactUpTo, List.mem_map, List.mem_filter, List.mem_range]
 constructor
 ·rintro ⟨i, ⟨h1, _⟩, rfl⟩
  simp [h1]
 ·intro hx
  obtain ⟨i, hi, rfl⟩ := List.mem_iff_getElem.1 hx
  have key : ∀ n i (hi : i < l.length), i = n → ∃ j, (j < l.length ∧ Go.Lib.keeps l.toArray j = true) ∧ l.toArray[j]! = l[i] := by
   intro n
   induction n with
   | zero => intro i hi e; subst e; exact ⟨0, ⟨hi, by simp [Go.Lib.keeps]⟩, by simp [hi]⟩
   | succ n ih =>
    intro i hi e
    subst e
    by_cases hk : Go.Lib.keeps l.toArray (n + 1) = true
    ·exact ⟨n + 1, ⟨hi, hk⟩, by simp [hi]⟩
    ·obtain ⟨j, h1, h2⟩ := ih n (by omega) rfl
     refine ⟨j, h1, h2.trans ?_⟩
     have hn : n < l.length := by omega
     simp [Go.Lib.keeps, hi, hn] at hk
     exact hk.symm
  exact key i i hi rfl
theorem pF {l : List Int} (h : l.Pairwise (· ≤ ·)) : (Go.Lib.compact l).Pairwise (· < ·) := by
 simp only [Go.Lib.compact, Go.Lib.compactUpTo, List.pairwise_map]
 have hm : ∀ i j, i ≤ j → (hj : j < l.length) → l.toArray[i]! ≤ l.toArray[j]! := by
  intro i j hij hj
  have hi : i < l.length := by omega
  simp only [List.getElem!_toArray, getElem!_pos l i hi, getElem!_pos l j hj]
  rcases Nat.lt_or_ge i j with h' | h'
  ·exact List.pairwise_iff_getElem.1 h i j hi hj h'
  ·have : i = j := by omega
   subst this; exact Int.le_refl _
 refine List.Pairwise.imp_of_mem ?_ ((List.pairwise_lt_range (n := l.length)).filter _)
 intro i j hi hj hij
 simp only [List.mem_filter, List.mem_range, Go.Lib.keeps, decide_eq_true_eq] at hi hj
 have h1 := hm i (j - 1) (by omega) (by omega)
 have h2 := hm (j - 1) j (by omega) hj.1
 have h3 : l.toArray[j]! ≠ l.toArray[j - 1]! := by
  rcases hj.2 with h' | h'
  ·omega
  ·exact h'
 omega
theorem oI (l : List Int) : Go.Lib.compact (li l) = l.foldl ins [] := by
 have key : ∀ (l a : List Int), a.Pairwise (· < ·) → (l.foldl ins a).Pairwise (· < ·) ∧ ∀ x, x ∈ l.foldl ins a ↔ x ∈ a ∨ x ∈ l := by
  intro l
  induction l with
  | nil => intro a ha; simpa using ha
  | cons y l ih =>
   intro a ha
   obtain ⟨h1, h2⟩ := ih (ins a y) (sV ha y)
   refine ⟨h1, fun x => ?_⟩
   rw [List.foldl_cons, h2 x, rv]
   simp only [List.mem_cons]
   constructor
   ·rintro ((h | h) | h) <;> simp [h]
   ·rintro (h | h | h) <;> simp [h]
 obtain ⟨h1, h2⟩ := key l [] List.Pairwise.nil
 refine ow (pF (rx l)) h1 fun x => ?_
 rw [sc, tZ, h2]
 simp
end Pam

namespace Pam
open Go
def uU (pv : List Nat) (p : PV) : Bool := match kL p with | some b => !pv.contains b | none => true
def jc (pv : List Nat) (σ σ' : List OB) : Prop := σ.length ≤ σ'.length ∧ ∀ b, b ∉ pv → b < σ.length → σ'[b]? = σ[b]?
theorem jc.refl (pv : List Nat) (σ : List OB) : jc pv σ σ := ⟨Nat.le_refl _, fun _ _ _ => rfl⟩
theorem jc.trans {pv : List Nat} {σ σ' σ'' : List OB} (h : jc pv σ σ') (h' : jc pv σ' σ'') : jc pv σ σ'' :=
  ⟨Nat.le_trans h.1 h'.1, fun b hb hl => (h'.2 b hb (Nat.lt_of_lt_of_le hl h.1)).trans (h.2 b hb hl)⟩
theorem jc.of_ext {pv : List Nat} {σ σ' : List OB} (h : Ext σ σ') : jc pv σ σ' := by
  obtain ⟨ρ, rfl⟩ := h
  exact ⟨by simp, fun b _ hb => List.getElem?_append_left hb⟩
def vO (ops : Array Oper) (l : List Oper) (masks : List Nat) (bar prv : List Bool) (rd : List (List Nat)) : Bool :=
  chk ops l masks bar &&
  (l.zipIdx.all fun (x, i) => bP x || (x.looksAt ops).all (fun t => (rd.getD i []).contains t) || l.zipIdx.all fun (_, j) => !(prv.getD j false) || mh masks i j)
def sN (P : Program) (ops : Array Oper) (pv : List Nat) (E : Env) (σ : List OB) (o : Oper) (bar prv : Bool) (rd : List Nat) (ts : TS) : Prop :=
  dz ops E o.guard = some ts.γ ∧ dJ E o.dst ∧
  ((∃ C v, bu P ts.γ E σ o.op = .ok C v ∧ C ∧ (rd.all fun t => uU pv (E.get t).v) = true ∧ ts.e = ⟨ts.γ, v⟩ ∧ ts.σ = σ) ∨
   (ts.γ = true ∧ ∃ C v, bu P ts.γ E σ o.op = .upd C v ts.σ ∧ C ∧ ts.e = ⟨true, v⟩ ∧ (bar = true ∨ Ext σ ts.σ ∨ (prv = true ∧ jc pv σ ts.σ))) ∨
   (∃ C f args r, bu P ts.γ E σ o.op = .call C f args ∧ (ts.γ = true → C ∧ cD P f args r) ∧ args.all PV.noOwn = true ∧ (∀ n, r.ren (dr n []) = r) ∧ ts.e = ⟨ts.γ, r⟩ ∧ ts.σ = σ) ∨
   (ts.γ = false ∧ ts.e = ⟨true, .t []⟩ ∧ ts.σ = σ) ∨
   (ts.γ = true ∧ ∃ C f args p, bu P ts.γ E σ o.op = .call C f args ∧ C ∧ nL P σ f args p ts.σ ∧ ts.e = ⟨true, p⟩ ∧ (bar = true ∨ Ext σ ts.σ)) ∨
   (ts.γ = true ∧ bP o = true ∧ ∃ v, (∀ E', (∀ x ∈ o.op.operands, ev E' x = ev E x) → ∀ G a w, Sim G E' σ a w → sB P G (execOp a.eval o) w v ts.σ) ∧ ts.e = ⟨true, v⟩ ∧ (bar = true ∨ Ext σ ts.σ)))
def jN (P : Program) (ops : Array Oper) (pv : List Nat) : List Oper → List Bool → List Bool → List (List Nat) → Env → List OB → List TS → Prop
  | [], _, _, _, _, _, tr => tr = []
  | o :: l, bs, ps, rd, E, σ, tr => ∃ ts r, tr = ts :: r ∧ sN P ops pv E σ o (bs.headD false) (ps.headD false) (rd.headD []) ts ∧ jN P ops pv l bs.tail ps.tail rd.tail (E.putD o.dst ts.e) ts.σ r
section
variable {P : Program} {ops : Array Oper} {pv : List Nat}
theorem jN.at : ∀ {l : List Oper} {bs ps : List Bool} {rd : List (List Nat)} {E : Env} {σ : List OB} {tr : List TS}, jN P ops pv l bs ps rd E σ tr → tr.length = l.length ∧
    ∀ (i : Nat) (o : Oper), l[i]? = some o → ∃ ts, tr[i]? = some ts ∧ sN P ops pv (bY E l tr i) (aG σ tr i) o (bs.getD i false) (ps.getD i false) (rd.getD i []) ts ∧ aG σ tr (i + 1) = ts.σ
  | [], bs, ps, rd, E, σ, tr, h => by simp only [jN] at h; subst h; exact ⟨rfl, fun i o h => by simp at h⟩
  | o :: l, bs, ps, rd, E, σ, tr, h => by
    obtain ⟨ts, r, rfl, h1, h2⟩ := h
    obtain ⟨h3, h4⟩ := jN.at h2
    refine ⟨by simp [h3], fun i o' ho => ?_⟩
    cases i with
    | zero =>
      simp only [List.getElem?_cons_zero, Option.some.injEq] at ho
      subst ho
      refine ⟨ts, rfl, ?_, ?_⟩
      · cases bs <;> cases ps <;> cases rd <;> exact h1
      · cases r <;> rfl
    | succ i =>
      obtain ⟨ts', k1, k2, k3⟩ := h4 i o' (by simpa using ho)
      refine ⟨ts', by simpa using k1, ?_, ?_⟩
      · cases bs <;> cases ps <;> cases rd <;> simpa [bY, aG] using k2
      · simpa [aG] using k3
theorem lF {σ : List OB} {tr : List TS} (l : List Oper) (hlen : tr.length = l.length) (p : Nat) : ∀ (q : Nat), p ≤ q → q ≤ l.length → (∀ j, p ≤ j → j < q → jc pv (aG σ tr j) (aG σ tr (j + 1))) → jc pv (aG σ tr p) (aG σ tr q)
  | 0, h, _, _ => by have : p = 0 := by omega
                     subst this; exact jc.refl _ _
  | q + 1, h, hq, he => by
    by_cases e : p = q + 1
    · subst e; exact jc.refl _ _
    · exact (lF l hlen p q (by omega) (by omega) fun j h1 h2 => he j h1 (by omega)).trans (he q (by omega) (by omega))
theorem lG {l : List Oper} {bs ps : List Bool} {rd : List (List Nat)} {E : Env} {σ : List OB} {tr : List TS} (ht : jN P ops pv l bs ps rd E σ tr) {j : Nat} {o : Oper} (ho : l[j]? = some o) (hq : bP o = false) : aG σ tr (j + 1) = aG σ tr j := by
  obtain ⟨_, h⟩ := ht.at
  obtain ⟨ts, _, h2, h3⟩ := h j o ho
  rw [h3]
  obtain ⟨q1, q2⟩ := iJ (P := P) (γ := ts.γ) (E := bY E l tr j) (σ := aG σ tr j) hq
  rcases h2.2.2 with ⟨_, _, _, _, _, _, h⟩ | ⟨_, C, v, h, _⟩ | ⟨C, f, args, r, h, _⟩ | ⟨_, _, h⟩ | ⟨_, C, f, args, p, h, _⟩ | ⟨_, h, _⟩
  · exact h
  · exact (q1 _ _ _ h).elim
  · exact (q2 _ _ _ h).elim
  · exact h
  · exact (q2 _ _ _ h).elim
  · rw [hq] at h; cases h
theorem mP {l : List Oper} {bs ps : List Bool} {rd : List (List Nat)} {E : Env} {σ : List OB} {tr : List TS} (ht : jN P ops pv l bs ps rd E σ tr) {p q : Nat} (hpq : p ≤ q) (hq : q ≤ l.length)
    (h : ∀ (j : Nat) (o : Oper), l[j]? = some o → p ≤ j → j < q → bP o = false) : aG σ tr q = aG σ tr p := by
  induction q with
  | zero => have : p = 0 := by omega
            subst this; rfl
  | succ q ih =>
    by_cases e : p = q + 1
    · subst e; rfl
    · have hl : q < l.length := by omega
      rw [lG ht (List.getElem?_eq_getElem hl) (h q _ (List.getElem?_eq_getElem hl) (by omega) (by omega))]
      exact ih (by omega) (by omega) fun j o ho h1 h2 => h j o ho h1 (by omega)
theorem qI {l : List Oper} {bs ps : List Bool} {rd : List (List Nat)} {E : Env} {σ : List OB} {tr : List TS} (ht : jN P ops pv l bs ps rd E σ tr) {j : Nat} {o : Oper} (ho : l[j]? = some o) (hb : bs.getD j false = false) :
    (ps.getD j false = false → Ext (aG σ tr j) (aG σ tr (j + 1))) ∧ jc pv (aG σ tr j) (aG σ tr (j + 1)) := by
  obtain ⟨_, h⟩ := ht.at
  obtain ⟨ts, _, h2, h3⟩ := h j o ho
  rw [h3]
  have same : ∀ σ' : List OB, σ' = aG σ tr j → (ps.getD j false = false → Ext (aG σ tr j) σ') ∧ jc pv (aG σ tr j) σ' := fun σ' e => by
    subst e; exact ⟨fun _ => ⟨[], by simp⟩, jc.refl _ _⟩
  have ext : Ext (aG σ tr j) ts.σ → (ps.getD j false = false → Ext (aG σ tr j) ts.σ) ∧ jc pv (aG σ tr j) ts.σ := fun e => ⟨fun _ => e, .of_ext e⟩
  rcases h2.2.2 with ⟨_, _, _, _, _, _, h⟩ | ⟨_, C, v, h, _, _, h'⟩ | ⟨C, f, args, r, h, _, _, _, _, h'⟩ | ⟨_, _, h'⟩ | ⟨_, C, f, args, p, h, _, _, _, h'⟩ | ⟨_, _, v, _, _, h'⟩
  · exact same _ h
  · rcases h' with h' | h' | ⟨h', h''⟩
    · rw [hb] at h'; cases h'
    · exact ext h'
    · exact ⟨fun hp => by (rw [hp] at h'; cases h'), h''⟩
  · exact same _ h'
  · exact same _ h'
  · rcases h' with h' | h'
    · rw [hb] at h'; cases h'
    · exact ext h'
  · rcases h' with h' | h'
    · rw [hb] at h'; cases h'
    · exact ext h'
structure xm (ops : Array Oper) (l : List Oper) (masks : List Nat) (bar prv : List Bool) (rd : List (List Nat)) : Prop where
  base : Chk ops l masks bar
  see : ∀ (i : Nat) (o : Oper), l[i]? = some o → bP o = false → (∀ t ∈ o.looksAt ops, t ∈ rd.getD i []) ∨ ∀ j y, l[j]? = some y → prv.getD j false = true → mh masks i j = true
theorem vP {ops : Array Oper} {l : List Oper} {masks : List Nat} {bar prv : List Bool} {rd : List (List Nat)} (h : vO ops l masks bar prv rd = true) : xm ops l masks bar prv rd := by
  unfold vO at h
  simp only [Bool.and_eq_true, List.all_eq_true] at h
  obtain ⟨h1, h2⟩ := h
  refine ⟨sG h1, fun i o ho hq => ?_⟩
  have m : ∀ (i : Nat) (o : Oper), l[i]? = some o → (o, i) ∈ l.zipIdx := fun i o ho => by
    rw [List.mem_zipIdx_iff_getElem?]; simpa using ho
  have := h2 _ (m i o ho)
  simp only [Bool.or_eq_true, hq, Bool.false_eq_true, false_or, List.all_eq_true] at this
  rcases this with h | h
  · exact .inl fun t ht => by simpa using h t ht
  · right
    intro j y hy hp
    have := h _ (m j y hy)
    simpa only [hp, Bool.not_true, Bool.false_or, Bool.false_eq_true, false_or] using this
theorem sO {v : Value} {c : CV} (h : ik v = some c) : kL (.c c) = none := by
  unfold ik at h
  split at h <;> first | (cases h; rfl) | cases h
theorem uV (v : Value) : kL (mf v).v = none := by
  unfold mf
  split
  · split <;> rfl
  · split
    · rename_i h; exact sO h
    · rfl
theorem StJ.stepP {l : List Oper} {bs ps : List Bool} {rd : List (List Nat)} {masks : List Nat} {E : Env} {σ : List OB} {tr : List TS} (cP : xm l.toArray l masks bs ps rd) (ht : jN P l.toArray pv l bs ps rd E σ tr) (G0 : Gh) {Q : Exit → Act → World → Prop} (listed : Array Bool) (a : Act) (w : World) (i : Nat)
    (hJ : StJ l tr E σ G0 listed a w) (hready : i ∈ Region.ready .any l.toArray listed) : wpOp P l.toArray Q i (StJ l tr E σ G0 (listed.setIfInBounds i true)) a w := by
  have c := cP.base
  obtain ⟨hsz, hcl, G, p, hG, hp, hloud, hinv, hdef, htm, hna, hslot⟩ := hJ
  obtain ⟨hun, o, ho', hdeps⟩ := mem_ready.1 hready
  have ho : l[i]? = some o := by simpa using ho'
  have hil : i < l.length := (List.getElem?_eq_some_iff.1 ho).1
  have hi0 : listed.getD i false = false := by
    rw [Array.getD_eq_getD_getElem?] at hun ⊢
    rw [Array.getElem?_eq_getElem (by omega)] at hun ⊢
    simpa using hun
  have hr : ∀ j ∈ fw o, listed.getD j false = true := by
    intro j hj
    simp only [fw, List.mem_map, List.mem_filter] at hj
    obtain ⟨e, ⟨h1, h2⟩, rfl⟩ := hj
    exact hdeps e (by simpa using h1) h2
  have hdone := fun {j : Nat} {y : Oper} (hy : l[j]? = some y) (hord : mh masks i j = true ∨ mh masks j i = true) => c.done hcl ho hi0 hr hy hord
  obtain ⟨htl, hat⟩ := ht.at
  obtain ⟨ts, hts, ⟨hguard, hdst, hstep⟩, hnext⟩ := hat i o ho
  have hcl' : pg l (fun k => (listed.setIfInBounds i true).getD k false) := by
    intro k ok hk hd j hj
    simp only at hd ⊢
    rw [ql _ _ _ (by omega)] at hd ⊢
    by_cases e : k = i
    · subst e; rw [ho] at hk; simp only [Option.some.injEq] at hk; subst hk
      by_cases e' : j = k
      · rw [if_pos e']
      · rw [if_neg e']; exact hr j hj
    · rw [if_neg e] at hd
      by_cases e' : j = i
      · rw [if_pos e']
      · rw [if_neg e']; exact hcl k ok hk hd j hj
  have hsz' : (listed.setIfInBounds i true).size = l.length := by simpa using hsz
  have hEn := lV l tr E i
  have hlook := c.look i o ho
  have hreads : ∀ t ∈ o.looksAt l.toArray, (bY E l tr i).get t = ed t l tr (fun j => listed.getD j false) (E.get t) := by
    intro t htm'
    rw [kj t l tr E i (fun j o x hj hd => c.dst j o hj x hd) htl]
    apply eF
    intro j y hy hd
    refine (hdone hy (.inr ?_)).symm
    refine c.hit j i y o hy ho ?_
    simp only [tM, hd, Bool.or_eq_true]
    left
    simpa using htm'
  have hres := kM (bY E l tr i) (o.looksAt l.toArray)
  have hgetr : ∀ t ∈ o.looksAt l.toArray, (dK (bY E l tr i) (o.looksAt l.toArray)).get t = (bY E l tr i).get t := fun t h => (hres t hlook).1 h
  have hsim : Sim G (dK (bY E l tr i) (o.looksAt l.toArray)) (aG σ tr p) a w := by
    refine ⟨hinv, hdef, by rw [(jD _ _).1, hEn.1]; exact htm, by rw [(jD _ _).2, hEn.2]; exact hna, fun t hc => ?_⟩
    by_cases hmem : t ∈ o.looksAt l.toArray
    · rw [hgetr t hmem, hreads t hmem] at hc ⊢
      exact hslot t (hlook t hmem) hc
    · rw [(hres t hlook).2 hmem] at hc; cases hc
  have hops : ∀ x ∈ o.op.operands, ev (dK (bY E l tr i) (o.looksAt l.toArray)) x = ev (bY E l tr i) x := by
    intro x hx
    refine rL (ts := o.looksAt l.toArray) (fun t h => hgetr t h) x fun t e => ?_
    subst e
    simp only [Oper.looksAt, List.mem_append, List.mem_filterMap]
    left
    exact ⟨.tmp t, by simpa using hx, rfl⟩
  have hguard' : dz l.toArray (dK (bY E l tr i) (o.looksAt l.toArray)) o.guard = some ts.γ := by
    rw [mu o hgetr]; exact hguard
  have hwant := jB (P := P) hsim hguard'
  have hdlt : ∀ d, o.dst = some d → d < a.tmps.size := by
    intro d hd
    rw [htm]
    rw [hd] at hdst
    have h' : d < (bY E l tr i).n := hdst
    rwa [hEn.1] at h'
  have hslot' : ∀ (G' : Gh) (val : Value), (∀ q v, aQ G q v → aQ G' q v) → (ts.e.cond = true → aQ G' ts.e.v val) → ∀ t, t < 512 →
      (ed t l tr (fun k => (listed.setIfInBounds i true).getD k false) (E.get t)).cond = true →
      aQ G' (ed t l tr (fun k => (listed.setIfInBounds i true).getD k false) (E.get t)).v ((a.put o.dst val).tmps.getD t undef) := by
    intro G' val hmono hval t ht512 hc
    have hfun : (fun k => (listed.setIfInBounds i true).getD k false) = (fun k => if k = i then true else listed.getD k false) := by
      funext k; exact ql _ _ _ (by omega)
    rw [hfun] at hc ⊢
    by_cases hd : o.dst = some t
    · rw [nM t l tr _ _ i o ts ho hts hd (fun j y hy hdy hij => by
          have := hdone hy (.inr (c.hit j i y o hy ho (by simp [tM, hdy, hd])))
          rw [this]; simp; omega)] at hc ⊢
      have hlt := hdlt t hd
      have : (a.put o.dst val).tmps.getD t undef = val := by rw [hd]; simp [Act.put, Array.getD, hlt]
      rw [this]; exact hval hc
    · rw [lr t l tr _ _ i o ho hd] at hc ⊢
      have : (a.put o.dst val).tmps.getD t undef = a.tmps.getD t undef := by
        cases hod : o.dst with
        | none => rfl
        | some d =>
          have hne : d ≠ t := fun e => hd (by rw [hod, e])
          simp only [Act.put, Array.getD_eq_getD_getElem?]
          rw [Array.getElem?_setIfInBounds_ne hne]
      rw [this]
      exact hmono _ _ (hslot t ht512 hc)
  have hput : ∀ val, (a.put o.dst val).defers = [] ∧ (a.put o.dst val).tmps.size = E.n := by
    intro val; cases o.dst <;> simp [Act.put, hdef, htm]
  have hheap : bP o = true → aG σ tr p = aG σ tr i := by
    intro hl
    have key : ∀ (j : Nat) (y : Oper), l[j]? = some y → bP y = true → (j < p ↔ j < i) := by
      intro j y hy hly
      have h1 := hloud j y hy hly
      have h2 := hdone hy (.inl (c.loud i j o y ho hy hl hly))
      rw [h2] at h1
      simpa using h1.symm
    rcases Nat.le_total p i with h | h
    · exact (mP ht h (by omega) fun j y hy h1 h2 => by
        cases hly : bP y with
        | false => rfl
        | true => have := (key j y hy hly).2 h2; omega).symm
    · exact mP ht h hp fun j y hy h1 h2 => by
        cases hly : bP y with
        | false => rfl
        | true => have := (key j y hy hly).1 h2; omega
  have hloud' : bP o = true → ∀ (j : Nat) (y : Oper), l[j]? = some y → bP y = true → (listed.setIfInBounds i true).getD j false = decide (j < i + 1) := by
    intro hl j y hy hly
    rw [ql _ _ _ (by omega)]
    by_cases e : j = i
    · subst e; simp
    · rw [if_neg e, hdone hy (.inl (c.loud i j o y ho hy hl hly))]
      simp; omega
  have hquiet' : bP o = false → ∀ (j : Nat) (y : Oper), l[j]? = some y → bP y = true → (listed.setIfInBounds i true).getD j false = decide (j < p) := by
    intro hl j y hy hly
    rw [ql _ _ _ (by omega)]
    by_cases e : j = i
    · subst e; rw [ho] at hy; simp only [Option.some.injEq] at hy; subst hy; rw [hl] at hly; cases hly
    · rw [if_neg e]; exact hloud j y hy hly
  have stay : ∀ (G' : Gh) (w' : World) (val : Value), Gle G G' → bo G.own G'.own → Inv G' (aG σ tr p) w' → ts.σ = aG σ tr i → (ts.e.cond = true → aQ G' ts.e.v val) → StJ l tr E σ G0 (listed.setIfInBounds i true) (a.put o.dst val) w' := by
    intro G' w' val h1 h2 h3 h4 h5
    refine ⟨hsz', hcl', ?_⟩
    have hm : ∀ q v, aQ G q v → aQ G' q v := fun q v h => aQ.mono h1.le.H h2 h
    cases hl : bP o with
    | true =>
      refine ⟨G', i + 1, hG.trans h1, by omega, hloud' hl, ?_, (hput val).1, (hput val).2, h1.le.na.trans hna, hslot' G' val hm h5⟩
      rw [hnext, h4, ← hheap hl]; exact h3
    | false => exact ⟨G', p, hG.trans h1, hp, hquiet' hl, h3, (hput val).1, (hput val).2, h1.le.na.trans hna, hslot' G' val hm h5⟩
  unfold wpOp
  simp only [ho']
  have skip : ts.γ = false → (ts.e.cond = true → aQ G ts.e.v undef) → ts.σ = aG σ tr i → (if Region.wanted o (yielded l.toArray a.tmps) = true then o.wp P a w (StJ l tr E σ G0 (listed.setIfInBounds i true)) Q ∨ (o.asks P a w ∧ LetsOut Q) else StJ l tr E σ G0 (listed.setIfInBounds i true) (a.put o.dst undef) w) := by
    intro hγ hc hσ
    rw [if_neg (by rw [hwant, hγ]; simp)]
    exact stay G w undef (Gle.refl G) (bo.refl _) hinv hσ hc
  rcases hstep with ⟨C, v, hrun, hC, hrd, he, hσ⟩ | ⟨hγ, C, v, hrun, hC, he, _⟩ | ⟨C, f, args, r, hrun, hC, hargs, hres', he, hσ⟩ | ⟨hγ, he, hσ⟩ | ⟨hγ, C, f, args, r, hrun, hC, hto, he, _⟩ | ⟨hγ, hl, v, hx, he, _⟩
  · cases hγ : ts.γ with
    | false => exact skip hγ (by rw [he, hγ]; intro h; cases h) hσ
    | true =>
      rw [if_pos (by rw [hwant, hγ])]
      left
      rw [hγ] at hrun
      have hrun1 := (fZ (P := P) (γ := true) (σ := aG σ tr i) o.op hops).trans hrun
      have hlo : bP o = false ∨ bP o = true := by cases bP o <;> simp
      have notbar : ∀ (j : Nat) (y : Oper), l[j]? = some y → bP y = true → listed.getD j false ≠ decide (j < i) → bs.getD j false = false := by
        intro j y hy hly hne
        cases hb : bs.getD j false with
        | false => rfl
        | true => exact (hne (hdone hy (.inr (c.bar j i y o hy ho hb)))).elim
      have one : ∀ (j : Nat), j < l.length → (∀ y, l[j]? = some y → bP y = true → listed.getD j false ≠ decide (j < i)) → jc pv (aG σ tr j) (aG σ tr (j + 1)) := by
        intro j hj hne
        have hy := List.getElem?_eq_getElem hj
        cases hly : bP l[j] with
        | false => rw [lG ht hy hly]; exact jc.refl _ _
        | true => exact (qI ht hy (notbar j _ hy hly (hne _ hy hly))).2
      have onePv : (∀ j y, l[j]? = some y → ps.getD j false = true → mh masks i j = true) → ∀ (j : Nat), j < l.length → (∀ y, l[j]? = some y → bP y = true → listed.getD j false ≠ decide (j < i)) → jc [] (aG σ tr j) (aG σ tr (j + 1)) := by
        intro hord j hj hne
        have hy := List.getElem?_eq_getElem hj
        cases hly : bP l[j] with
        | false => rw [lG ht hy hly]; exact jc.refl _ _
        | true =>
          refine .of_ext ((qI ht hy (notbar j _ hy hly (hne _ hy hly))).1 ?_)
          cases hp : ps.getD j false with
          | false => rfl
          | true => exact (hne _ hy hly (hdone hy (.inl (hord j _ hy hp)))).elim
      have reach : ∀ (q : List Nat), (∀ (j : Nat), j < l.length → (∀ y, l[j]? = some y → bP y = true → listed.getD j false ≠ decide (j < i)) → jc q (aG σ tr j) (aG σ tr (j + 1))) → jc q (aG σ tr p) (aG σ tr i) ∨ jc q (aG σ tr i) (aG σ tr p) := by
        intro q hone
        rcases Nat.le_total p i with h | h
        · left
          refine lF l htl p i h (by omega) fun j h1 h2 => hone j (by omega) fun y hy hly => ?_
          rw [hloud j y hy hly]; simp; omega
        · right
          refine lF l htl i p h hp fun j h1 h2 => hone j (by omega) fun y hy hly => ?_
          rw [hloud j y hy hly]; simp; omega
      have fromNear : ∀ (q : List Nat) (b : Nat) (ob : OB), jc q (aG σ tr p) (aG σ tr i) ∨ jc q (aG σ tr i) (aG σ tr p) → b ∉ q → b < (aG σ tr p).length → (aG σ tr i)[b]? = some ob → (aG σ tr p)[b]? = some ob := by
        intro q b ob hn hb hlt hob
        rcases hn with h | h
        · rw [← h.2 b hb hlt]; exact hob
        · rw [h.2 b hb (List.getElem?_eq_some_iff.1 hob).1]; exact hob
      obtain ⟨C', hrun2, hC'⟩ := qB (σ' := aG σ tr p) hrun1 hC (fun x hc b ob htop hb => by
        have hlt := qD hinv (ct hsim x hc) htop
        rcases hlo with hl | hl
        · rcases cP.see i o ho hl with hsee | hsee
          · refine fromNear pv b ob (reach pv one) ?_ hlt hb
            cases x with
            | tmp t =>
              by_cases hmem : t ∈ o.looksAt l.toArray
              · have h1 := List.all_eq_true.1 hrd t (hsee t hmem)
                have h2 : (dK (bY E l tr i) (o.looksAt l.toArray)).get t = (bY E l tr i).get t := hgetr t hmem
                have htop' : kL ((bY E l tr i).get t).v = some b := by rw [← h2]; exact htop
                simp only [uU, htop'] at h1
                simpa using h1
              · exfalso
                have : ((dK (bY E l tr i) (o.looksAt l.toArray)).get t).cond = true := hc
                rw [(hres t hlook).2 hmem] at this; cases this
            | const v =>
              exfalso
              have h1 : kL (mf v).v = some b := htop
              rw [uV] at h1; cases h1
            | func f => cases htop
            | global g => cases htop
          · exact fromNear [] b ob (reach [] (onePv hsee)) (by simp) hlt hb
        · rw [hheap hl]; exact hb)
      obtain ⟨val, e1, e2⟩ := rc hsim rfl o hrun2 hC'
      unfold Oper.wp
      rw [e1]
      exact stay G w val (Gle.refl G) (bo.refl _) hinv hσ fun _ => by rw [he]; exact e2
  · rw [if_pos (by rw [hwant, hγ])]
    left
    rw [hγ] at hrun
    have hl : bP o = true := by
      cases hl : bP o with
      | true => rfl
      | false => exact ((iJ hl).1 _ _ _ hrun).elim
    have hrun1 := (fZ (P := P) (γ := true) (σ := aG σ tr i) o.op hops).trans hrun
    rw [← hheap hl] at hrun1
    obtain ⟨nx, val, w', G', e1, e2, e3, e4, e5, e6⟩ := pd hsim rfl o hrun1 hC
    have hfin : StJ l tr E σ G0 (listed.setIfInBounds i true) (a.put o.dst val) w' :=
      ⟨hsz', hcl', G', i + 1, hG.trans (Gle.mk' e3 e4), by omega, hloud' hl, by rw [hnext]; exact e5, (hput val).1, (hput val).2, e3.na.trans hna,
        hslot' G' val (fun q v h => aQ.mono e3.H e4 h) fun _ => by rw [he]; exact e6⟩
    unfold Oper.wp
    rw [e1]
    rcases e2 with rfl | ⟨rfl, rfl⟩
    · exact hfin
    · exact hfin
  · cases hγ : ts.γ with
    | false => exact skip hγ (by rw [he, hγ]; intro h; cases h) hσ
    | true =>
      rw [if_pos (by rw [hwant, hγ])]
      left
      rw [hγ] at hrun
      obtain ⟨hC1, hspec⟩ := hC hγ
      have hrun1 := (fZ (P := P) (γ := true) (σ := aG σ tr i) o.op hops).trans hrun
      have hrun2 := lu (σ' := aG σ tr p) hrun1
      exact qC hsim o hrun2 hC1 hspec hargs hres' fun G' w' v h1 h2 h3 h4 => stay G' w' v h1 h2 h3 hσ fun _ => by rw [he]; exact h4
  · exact skip hγ (by rw [he]; exact fun _ => ⟨[], rfl, trivial⟩) hσ
  · rw [if_pos (by rw [hwant, hγ])]
    left
    rw [hγ] at hrun
    have hl : bP o = true := by
      cases hl : bP o with
      | true => rfl
      | false => exact ((iJ hl).2 _ _ _ hrun).elim
    have hrun1 := (fZ (P := P) (γ := true) (σ := aG σ tr i) o.op hops).trans hrun
    rw [← hheap hl] at hrun1 hto
    exact pf hsim o hrun1 hC hto fun G' w' v h1 h2 h3 h4 h5 =>
      ⟨hsz', hcl', G', i + 1, hG.trans h1, by omega, hloud' hl, by rw [hnext]; exact h4, (hput v).1, (hput v).2, h1.le.na.trans hna,
        hslot' G' v (fun q v h => aQ.mono h2 h3 h) fun _ => by rw [he]; exact h5⟩
  · rw [if_pos (by rw [hwant, hγ])]
    left
    rw [← hheap hl] at hx
    obtain ⟨nx, val, w', G', e1, e2, e3, e4, e5, e6⟩ := hx _ hops G a w hsim
    have hfin : StJ l tr E σ G0 (listed.setIfInBounds i true) (a.put o.dst val) w' :=
      ⟨hsz', hcl', G', i + 1, hG.trans (Gle.mk' e3 e4), by omega, hloud' hl, by rw [hnext]; exact e5, (hput val).1, (hput val).2, e3.na.trans hna,
        hslot' G' val (fun q v h => aQ.mono e3.H e4 h) fun _ => by rw [he]; exact e6⟩
    unfold Oper.wp
    rw [e1]
    rcases e2 with rfl | ⟨rfl, rfl⟩
    · exact hfin
    · exact hfin
theorem tS {l : List Oper} {masks : List Nat} {bs ps : List Bool} {rd : List (List Nat)} {E : Env} {σ : List OB} {tr : List TS} (cP : xm l.toArray l masks bs ps rd) (ht : jN P l.toArray pv l bs ps rd E σ tr) (G0 : Gh) {Q : Exit → Act → World → Prop}
    (fin : ∀ G a w, Gle G0 G → Sim G (bY E l tr l.length) (aG σ tr l.length) a w → Q .normal a w) :
    ∀ (fuel : Nat) (listed : Array Bool) (a : Act) (w : World), listed.toList.count false ≤ fuel → StJ l tr E σ G0 listed a w → wpAny P .any l.toArray Q fuel listed a w := by
  have c := cP.base
  have done : ∀ (listed : Array Bool) (a : Act) (w : World), StJ l tr E σ G0 listed a w → Region.ready .any l.toArray listed = [] → Q .normal a w := by
    intro listed a w hJ hr
    obtain ⟨hsz, hcl, G, p, hG, hp, hloud, hinv, hdef, htm, hna, hslot⟩ := hJ
    have hall := nO c hsz hr
    obtain ⟨htl, hat⟩ := ht.at
    have hE := lV l tr E l.length
    have hheap : aG σ tr l.length = aG σ tr p := mP ht hp (Nat.le_refl _) fun j y hy h1 h2 => by
      cases hly : bP y with
      | false => rfl
      | true =>
        have := hloud j y hy hly
        rw [hall j h2] at this
        have : j < p := by simpa using this.symm
        omega
    refine fin G a w hG ⟨by rw [hheap]; exact hinv, hdef, by rw [hE.1]; exact htm, by rw [hE.2]; exact hna, fun t hc => ?_⟩
    by_cases h512 : t < 512
    · have hg : (bY E l tr l.length).get t = ed t l tr (fun i => listed.getD i false) (E.get t) := by
        rw [kj t l tr E l.length (fun j o x hj hd => c.dst j o hj x hd) htl]
        apply eF
        intro j y hy _
        have hlt := (List.getElem?_eq_some_iff.1 hy).1
        simp [hlt, hall j hlt]
      rw [hg] at hc ⊢
      exact hslot t h512 hc
    · rw [Env.get_big _ t (by omega)] at hc; cases hc
  intro fuel
  induction fuel with
  | zero =>
    intro listed a w hf hJ
    have hr : Region.ready .any l.toArray listed = [] := by
      rw [List.eq_nil_iff_forall_not_mem]
      intro i hi
      obtain ⟨h1, o, ho, _⟩ := mem_ready.1 hi
      have hlt : i < listed.size := by rw [hJ.1]; have := (Array.getElem?_eq_some_iff.1 ho).1; simpa using this
      have : listed.toList[i]? = some false := by
        rw [Array.getD_eq_getD_getElem?, Array.getElem?_eq_getElem hlt] at h1
        rw [Array.getElem?_toList, Array.getElem?_eq_getElem hlt]
        simpa using h1
      have hpos := List.count_pos_iff.2 (List.mem_of_getElem? this)
      omega
    exact ⟨hr, done listed a w hJ hr⟩
  | succ fuel ih =>
    intro listed a w hf hJ
    refine ⟨fun hr => done listed a w hJ hr, fun i hi => ?_⟩
    have hstep := StJ.stepP (Q := Q) cP ht G0 listed a w i hJ hi
    refine wpOp_mono (fun a' w' hJ' => ih _ a' w' ?_ hJ') hstep
    obtain ⟨h1, o, ho, _⟩ := mem_ready.1 hi
    have hlt : i < listed.size := by rw [hJ.1]; have := (Array.getElem?_eq_some_iff.1 ho).1; simpa using this
    have : listed.toList[i]? = some false := by
      rw [Array.getD_eq_getD_getElem?, Array.getElem?_eq_getElem hlt] at h1
      rw [Array.getElem?_toList, Array.getElem?_eq_getElem hlt]
      simpa using h1
    have hc := lW _ _ this
    simp only [Array.toList_setIfInBounds]
    omega
def TRP (P : Program) (ops : Array Oper) (pv : List Nat) (l : List Oper) (bs ps : List Bool) (rd : List (List Nat)) (E : Env) (σ : List OB) (k : Env → List OB → Prop) : Prop :=
  ∃ tr, jN P ops pv l bs ps rd E σ tr ∧ k (bY E l tr l.length) (aG σ tr l.length)
def ix (pv : List Nat) : Nat → List OB → List OB → Prop
  | _, [], _ => True
  | i, a :: as_, b :: bs => (pv.contains i = true ∨ a = b) ∧ ix pv (i + 1) as_ bs
  | _, _ :: _, [] => False
theorem rS : ∀ {i : Nat} {σ σ' : List OB}, ix pv i σ σ' → σ.length ≤ σ'.length ∧ ∀ b, b + i ∉ pv → b < σ.length → σ'[b]? = σ[b]?
  | _, [], _, _ => ⟨by simp, fun b _ h => by simp at h⟩
  | i, a :: as_, b :: bs, ⟨h1, h2⟩ => by
    obtain ⟨k1, k2⟩ := rS h2
    refine ⟨by simpa using k1, fun c hc hl => ?_⟩
    cases c with
    | zero =>
      rcases h1 with h | h
      · simp at hc; simp at h; exact (hc h).elim
      · simp [h]
    | succ c => simpa using k2 c (by simpa [Nat.add_assoc, Nat.add_comm 1] using hc) (by simpa using hl)
def pu (P : Program) (ops : Array Oper) (pv : List Nat) (γ : Bool) (C : Prop) (f : FuncId) (args : List PV) (o : Oper) (r : List Oper) (bs ps : List Bool) (rd : List (List Nat)) (E : Env) (σ : List OB) (k : Env → List OB → Prop) : Prop :=
  bu P γ E σ o.op = .call C f args → dz ops E o.guard = some γ → TRP P ops pv (o :: r) bs ps rd E σ k
def nT (P : Program) (ops : Array Oper) (pv : List Nat) (γ : Bool) (o : Oper) (r : List Oper) (bs ps : List Bool) (rd : List (List Nat)) (E : Env) (σ : List OB) (k : Env → List OB → Prop) (run : Env → List OB → Prop) : R → Prop
  | .ok C v => dJ E o.dst ∧ C ∧ ((rd.headD []).all fun t => uU pv (E.get t).v) = true ∧ run (E.putD o.dst ⟨γ, v⟩) σ
  | .upd C v σ' => dJ E o.dst ∧ γ = true ∧ C ∧ (bs.headD false = true ∨ fA σ σ' ∨ (ps.headD false = true ∧ ix pv 0 σ σ')) ∧ run (E.putD o.dst ⟨true, v⟩) σ'
  | .call C f args => pu P ops pv γ C f args o r bs ps rd E σ k
  | .bad => False
def iV (P : Program) (ops : Array Oper) (pv : List Nat) : List Oper → List Bool → List Bool → List (List Nat) → Env → List OB → (Env → List OB → Prop) → Prop
  | [], _, _, _, E, σ, k => k E σ
  | o :: r, bs, ps, rd, E, σ, k =>
    match dz ops E o.guard with
    | none => False
    | some false => dJ E o.dst ∧ iV P ops pv r bs.tail ps.tail rd.tail (E.putD o.dst ⟨true, .t []⟩) σ k
    | some true => nT P ops pv true o r bs ps rd E σ k (fun E' σ' => iV P ops pv r bs.tail ps.tail rd.tail E' σ' k) (bu P true E σ o.op)
theorem TRP.cons {o : Oper} {r : List Oper} {bs ps : List Bool} {rd : List (List Nat)} {E : Env} {σ : List OB} {k : Env → List OB → Prop} {ts : TS} (h : sN P ops pv E σ o (bs.headD false) (ps.headD false) (rd.headD []) ts) (ht : TRP P ops pv r bs.tail ps.tail rd.tail (E.putD o.dst ts.e) ts.σ k) : TRP P ops pv (o :: r) bs ps rd E σ k := by
  obtain ⟨tr, h1, h2⟩ := ht
  refine ⟨ts :: tr, ⟨ts, tr, rfl, h, h1⟩, ?_⟩
  simpa [bY, aG] using h2
theorem iL : ∀ (l : List Oper) (bs ps : List Bool) (rd : List (List Nat)) (E : Env) (σ : List OB) (k : Env → List OB → Prop), iV P ops pv l bs ps rd E σ k → TRP P ops pv l bs ps rd E σ k
  | [], bs, ps, rd, E, σ, k, h => ⟨[], rfl, by unfold iV at h; simpa [bY, aG] using h⟩
  | o :: r, bs, ps, rd, E, σ, k, h => by
    unfold iV at h
    split at h
    · exact h.elim
    · rename_i hγ
      exact TRP.cons (ts := ⟨false, ⟨true, .t []⟩, σ⟩) ⟨hγ, h.1, .inr (.inr (.inr (.inl ⟨rfl, rfl, rfl⟩)))⟩ (iL r _ _ _ _ _ _ h.2)
    · rename_i hγ
      unfold nT at h
      split at h
      · rename_i C v hrun
        obtain ⟨hd, hC, hrd, hr⟩ := h
        exact TRP.cons (ts := ⟨true, ⟨true, v⟩, σ⟩) ⟨hγ, hd, .inl ⟨C, v, hrun, hC, hrd, rfl, rfl⟩⟩ (iL r _ _ _ _ _ _ hr)
      · rename_i C v σ' hrun
        obtain ⟨hd, hg, hC, hb, hr⟩ := h
        refine TRP.cons (ts := ⟨true, ⟨true, v⟩, σ'⟩) ⟨hγ, hd, .inr (.inl ⟨rfl, C, v, hrun, hC, rfl, ?_⟩)⟩ (iL r _ _ _ _ _ _ hr)
        rcases hb with h | h | ⟨h, h'⟩
        · exact .inl h
        · exact .inr (.inl (lX h))
        · exact .inr (.inr ⟨h, by have := rS h'; exact ⟨this.1, fun b hb hl => this.2 b hb hl⟩⟩)
      · rename_i C f args hrun
        exact h hrun hγ
      · exact h.elim
theorem qn {γ : Bool} {C : Prop} {f : FuncId} {args : List PV} {o : Oper} {r : List Oper} {bs ps : List Bool} {rd : List (List Nat)} {E : Env} {σ : List OB} {k : Env → List OB → Prop} {res : PV}
    (hs : γ = true → cD P f args res) (hd : dJ E o.dst) (hC : γ = true → C) (hargs : args.all PV.noOwn = true) (hres : ∀ n, res.ren (dr n []) = res)
    (next : iV P ops pv r bs.tail ps.tail rd.tail (E.putD o.dst ⟨γ, res⟩) σ k) : pu P ops pv γ C f args o r bs ps rd E σ k := fun hrun hγ =>
  TRP.cons (ts := ⟨γ, ⟨γ, res⟩, σ⟩) ⟨hγ, hd, .inr (.inr (.inl ⟨C, f, args, res, hrun, fun h => ⟨hC h, hs h⟩, hargs, hres, rfl, rfl⟩))⟩ (iL r _ _ _ _ _ _ next)
theorem lH {C : Prop} {f : FuncId} {args : List PV} {o : Oper} {r : List Oper} {bs ps : List Bool} {rd : List (List Nat)} {E : Env} {σ σ2 : List OB} {k : Env → List OB → Prop} {res : PV}
    (hs : nL P σ f args res σ2) (hd : dJ E o.dst) (hC : C) (hb : bs.headD false = true ∨ fA σ σ2)
    (next : iV P ops pv r bs.tail ps.tail rd.tail (E.putD o.dst ⟨true, res⟩) σ2 k) : pu P ops pv true C f args o r bs ps rd E σ k := fun hrun hγ =>
  TRP.cons (ts := ⟨true, ⟨true, res⟩, σ2⟩) ⟨hγ, hd, .inr (.inr (.inr (.inr (.inl ⟨rfl, C, f, args, res, hrun, hC, hs, rfl, hb.imp id lX⟩))))⟩ (iL r _ _ _ _ _ _ next)
theorem vQ {id : Nat} {l : List Oper} {K : Kt} {E : Env} {σ : List OB} (hm : P.follows .mixedOrders = true) (pv masks : List Nat) (bs ps : List Bool) (rd : List (List Nat)) (hc : vO l.toArray l masks bs ps rd = true)
    (h : TRP P l.toArray pv l bs ps rd E σ (K .normal)) : W P (.region id l.toArray true) K E σ := fun G a w hs => by
  obtain ⟨tr, ht, hk⟩ := h
  refine wp_region_any hm ?_
  refine tS (vP hc) ht G (fun G' a' w' hG hs' => ⟨G', _, _, .normal, hG, hs', rfl, hk⟩) _ _ a _ ?_ ?_
  · simp
  · have hfalse : ∀ i, (Array.replicate l.length false).getD i false = false := by
      intro i
      rw [Array.getD_eq_getD_getElem?, Array.getElem?_replicate]
      split <;> rfl
    refine ⟨by simp, fun i o ho hd => by simp [hfalse] at hd, G, 0, Gle.refl G, by omega, fun j o ho hl => by simp [hfalse], ?_, hs.defers, hs.size, hs.na, fun t ht hc => ?_⟩
    · have : aG σ tr 0 = σ := by cases tr <;> rfl
      rw [this]; exact hs.inv.drawn
    · have : ed t l tr (fun i => (Array.replicate l.length false).getD i false) (E.get t) = E.get t := iI t l tr _ _ fun j o _ _ => hfalse j
      simp only [List.size_toArray] at hc ⊢
      rw [this] at hc ⊢
      exact hs.slot t hc
theorem oN {id : Nat} {l : List Oper} {y : Code} {K : Kt} {E : Env} {σ : List OB} (ms : List Nat) (hm : P.follows .mixedOrders = true) (pv masks : List Nat) (bs ps : List Bool) (rd : List (List Nat)) (hc : vO l.toArray l masks bs ps rd = true)
    (h : ∀ (k : Env → List OB → Prop), (∀ E σ, W P y K E σ → k E σ) → iV P l.toArray pv l bs ps rd E σ (fun E σ => k (E.forget ms) σ)) : W P (.seq (.region id l.toArray true) y) K E σ :=
  oj (vQ hm pv masks bs ps rd hc (by
    obtain ⟨tr, h1, h2⟩ := iL l bs ps rd E σ _ (h (W P y K) fun _ _ h => h)
    exact ⟨tr, h1, kk ms h2⟩))
end
def bAP := And.intro (And.intro (And.intro @iV.eq_1 @iV.eq_2) bL) (And.intro bM (And.intro (And.intro @nT.eq_1 @nT.eq_2) (And.intro @nT.eq_3 @nT.eq_4)))
end Pam

namespace Pam
open Go
section
variable {P : Program} {ops : Array Oper}
theorem aU {l : List Oper} {bs : List Bool} {E : Env} {σ : List OB} {k : Env → List OB → Prop} (h : fB P ops l bs E σ k) : TR P ops l bs E σ k := fR l bs E σ k h
theorem tq : ∀ {l l' : List Oper} {bs bs' : List Bool} {E : Env} {σ : List OB} {k : Env → List OB → Prop}, bs.length = l.length → TR P ops l bs E σ (fun E' σ' => TR P ops l' bs' E' σ' k) → TR P ops (l ++ l') (bs ++ bs') E σ k
 | [], l', bs, bs', E, σ, k, hl, ⟨tr, h1, h2⟩ => by
  have : bs = [] := List.eq_nil_of_length_eq_zero (by simpa using hl)
  subst this
  simp only [ki] at h1
  subst h1
  simpa [bY, aG] using h2
 | o :: l, l', bs, bs', E, σ, k, hl, ⟨tr, h1, h2⟩ => by
  obtain ⟨ts, r, rfl, h3, h4⟩ := h1
  match bs, hl with
  | b :: bs, hl =>
   refine TR.cons (bs := b :: bs ++ bs') (ts := ts) ?_ ?_
   ·simpa using h3
   ·exact tq (by simpa using hl) ⟨r, h4, by simpa [bY, aG] using h2⟩
theorem dM (n : Nat) {l : List Oper} {bs : List Bool} {E : Env} {σ : List OB} {k : Env → List OB → Prop} (hn : bs.length = l.length) (h : fB P ops (l.take n) (bs.take n) E σ (fun E' σ' => TR P ops (l.drop n) (bs.drop n) E' σ' k)) : TR P ops l bs E σ k := by
 have := tq (by simp [hn]) (fR _ _ _ _ _ h)
 rwa [List.take_append_drop, List.take_append_drop] at this
theorem bx {γ : Bool} {C : Prop} {f : FuncId} {args : List PV} {o : Oper} {r : List Oper} {bs : List Bool} {E : Env} {σ : List OB} {k : Env → List OB → Prop} {res : PV}
  (hs : γ = true → cD P f args res) (hd : dJ E o.dst) (hC : γ = true → C) (hargs : args.all PV.noOwn = true) (hres : ∀ n, res.ren (dr n []) = res)
  (next : TR P ops r bs.tail (E.putD o.dst ⟨γ, res⟩) σ k) : lY P ops γ C f args o r bs E σ k := fun hrun hγ =>
 TR.cons (ts := ⟨γ, ⟨γ, res⟩, σ⟩) ⟨hγ, hd, .inr (.inr (.inl ⟨C, f, args, res, hrun, fun h => ⟨hC h, hs h⟩, hargs, hres, rfl, rfl⟩))⟩ next
theorem ia {C : Prop} {f : FuncId} {args : List PV} {o : Oper} {r : List Oper} {bs : List Bool} {E : Env} {σ σ2 : List OB} {k : Env → List OB → Prop} {res : PV}
  (hs : nL P σ f args res σ2) (hd : dJ E o.dst) (hC : C) (hb : bs.headD false = true ∨ fA σ σ2)
  (next : TR P ops r bs.tail (E.putD o.dst ⟨true, res⟩) σ2 k) : lY P ops true C f args o r bs E σ k := fun hrun hγ =>
 TR.cons (ts := ⟨true, ⟨true, res⟩, σ2⟩) ⟨hγ, hd, .inr (.inr (.inr (.inr (.inl ⟨rfl, C, f, args, res, hrun, hC, hs, rfl, hb.imp id lX⟩))))⟩ next
theorem vR {id : Nat} {l : List Oper} {K : Kt} {E : Env} {σ : List OB} (hm : P.follows .mixedOrders = true) (masks : List Nat) (bs : List Bool) (hc : chk l.toArray l masks bs = true)
  (h : ∀ (k : Env → List OB → Prop), (∀ E σ, K .normal E σ → k E σ) → TR P l.toArray l bs E σ k) : W P (.region id l.toArray true) K E σ :=
 rh hm masks bs hc (h (K .normal) fun _ _ h => h)
theorem dV {id : Nat} {l : List Oper} {y : Code} {K : Kt} {E : Env} {σ : List OB} (ms : List Nat) (hm : P.follows .mixedOrders = true) (masks : List Nat) (bs : List Bool) (hc : chk l.toArray l masks bs = true)
  (h : ∀ (k : Env → List OB → Prop), (∀ E σ, W P y K E σ → k E σ) → TR P l.toArray l bs E σ (fun E σ => k (E.forget ms) σ)) : W P (.seq (.region id l.toArray true) y) K E σ :=
 oj (rh hm masks bs hc (by
  obtain ⟨tr, h1, h2⟩ := h (W P y K) fun _ _ h => h
  exact ⟨tr, h1, kk ms h2⟩))
end
end Pam
