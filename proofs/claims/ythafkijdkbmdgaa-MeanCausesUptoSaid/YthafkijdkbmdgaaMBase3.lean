/- Regions whose order is open, with memory set aside that nothing looks at ahead of the region's last operation. -/
import Derived.Test.YthafkijdkbmdgaaMBase2
import Derived.Test.YthafkijdkbmdgaaMBase1
import Derived.Shelf.Sort.Plain
import Derived.Shelf.Slices.In.SortNone
import Derived.Shelf.Slices.In.CompactI
import Derived.Shelf.Slices.Delete
set_option linter.all false
namespace Pam
open Go
def yI (o : Oper) : Bool := match o.op with | .alloc _ => true | _ => false
def oM (o : Oper) : Oper := { dst := none, op := .move (.const (.bool true)), type := o.type, pos := o.pos, after := o.after, guard := o.guard }
def q6 (o : Oper) : Oper := match o.op with | .alloc _ => oM o | _ => o
def fJ : List Oper → List Oper
 | [] => []
 | [q] => [oM q]
 | o :: o2 :: r => q6 o :: fJ (o2 :: r)
def mg : List Oper → List Oper
 | [] => []
 | [q] => [q]
 | o :: o2 :: r => match o.op with | .alloc _ => o :: mg (o2 :: r) | _ => mg (o2 :: r)
def Bd (l : List Oper) (ts : List Nat) (bs : List Bool) : Bool :=
 bs.getD (l.length - 1) false && decide (0 < l.length) &&
 l.zipIdx.all fun (o, i) =>
  (if i + 1 < l.length then !yI o || (o.guard.isNone && (match o.dst with | some t => decide (t < 512) && ts.contains t && (l.zipIdx.all fun (y, j) => j == i || y.dst != some t) | none => false)) else o.dst.isNone && o.guard.isNone && !yI o) &&
  (match o.guard with | some (g, _) => (match l[g]? with | some y => !yI y | none => true) | none => true)
def Be (l : List Oper) (ts masks : List Nat) (bs : List Bool) : Bool := chk (fJ l).toArray (fJ l) masks bs && Bd l ts bs
structure zT (l : List Oper) (ts : List Nat) (bs : List Bool) : Prop where
 bar : bs.getD (l.length - 1) false = true
 pos : 0 < l.length
 al : ∀ (i : Nat) (o : Oper) (T : TypeId), l[i]? = some o → i + 1 < l.length → o.op = .alloc T → o.guard = none ∧ ∃ t, o.dst = some t ∧ t < 512 ∧ t ∈ ts ∧ ∀ (j : Nat) (y : Oper), l[j]? = some y → j ≠ i → y.dst ≠ some t
 last : ∀ (i : Nat) (o : Oper), l[i]? = some o → i + 1 = l.length → o.dst = none ∧ o.guard = none
 ref : ∀ (i : Nat) (o : Oper) (g : Nat) (b : Bool) (y : Oper), l[i]? = some o → o.guard = some (g, b) → l[g]? = some y → ∀ T, y.op ≠ .alloc T
theorem zU {l : List Oper} {ts : List Nat} {bs : List Bool} (h : Bd l ts bs = true) : zT l ts bs := by
 unfold Bd at h
 simp only [Bool.and_eq_true, List.all_eq_true, decide_eq_true_eq] at h
 obtain ⟨⟨h1, h2⟩, h3⟩ := h
 have m : ∀ (i : Nat) (o : Oper), l[i]? = some o → (o, i) ∈ l.zipIdx := fun i o ho => by
  rw [List.mem_zipIdx_iff_getElem?]; simpa using ho
 refine ⟨h1, h2, ?_, ?_, ?_⟩
 ·intro i o T ho hi hop
  have := (h3 _ (m i o ho)).1
  simp only [iP hi, yI, hop, Bool.not_true, Bool.false_or, Bool.and_eq_true, Option.isNone_iff_eq_none] at this
  obtain ⟨g, h⟩ := this
  refine ⟨g, ?_⟩
  cases hd : o.dst with
  | none => rw [hd] at h; simp at h
  | some t =>
   rw [hd] at h
   simp only [Bool.and_eq_true, decide_eq_true_eq, List.contains_eq_mem, List.all_eq_true, Bool.or_eq_true, beq_iff_eq, bne_iff_ne] at h
   refine ⟨t, rfl, h.1.1, h.1.2, fun j y hy hji => ?_⟩
   rcases h.2 _ (m j y hy) with h | h
   ·exact (hji h).elim
   ·exact h
 ·intro i o ho hi
  have := (h3 _ (m i o ho)).1
  simp only [iN (by omega : ¬ i + 1 < l.length), Bool.and_eq_true, Option.isNone_iff_eq_none] at this
  exact this.1
 ·intro i o g b y ho hg hy T hop
  have := (h3 _ (m i o ho)).2
  simp [hg, hy, yI, hop] at this
theorem ks : ∀ l : List Oper, (fJ l).length = l.length
 | [] => rfl
 | [q] => rfl
 | o :: o2 :: r => by simp only [fJ, List.length_cons]; rw [ks (o2 :: r)]; rfl
theorem lI : ∀ (l : List Oper) (i : Nat) (o : Oper), l[i]? = some o → (fJ l)[i]? = some (if i + 1 < l.length then q6 o else oM o)
 | [], i, o, h => by simp at h
 | [q], 0, o, h => by simp at h; subst h; rfl
 | [q], i + 1, o, h => by simp at h
 | a :: o2 :: r, 0, o, h => by simp at h; subst h; simp [fJ]
 | a :: o2 :: r, i + 1, o, h => by
  have := lI (o2 :: r) i o (by simpa using h)
  simp only [fJ, List.getElem?_cons_succ, this, List.length_cons]
  congr 1
  by_cases e : i + 1 < r.length + 1
  ·rw [iP e, iP (by omega)]
  ·rw [iN e, iN (by omega)]
theorem oN {o : Oper} (h : ∀ T, o.op ≠ .alloc T) : q6 o = o := by
 unfold q6
 split
 ·rename_i T e; exact (h T e).elim
 ·rfl
theorem wR {o : Oper} {T : TypeId} (h : o.op = .alloc T) : q6 o = oM o := by unfold q6; rw [h]
theorem vX (o : Oper) : (q6 o).after = o.after ∧ (q6 o).guard = o.guard := by
 unfold q6
 split <;> exact ⟨rfl, rfl⟩
theorem qk {l : List Oper} {i : Nat} {o' : Oper} (h : (fJ l)[i]? = some o') : ∃ o, l[i]? = some o ∧ o' = (if i + 1 < l.length then q6 o else oM o) ∧ o'.after = o.after ∧ o'.guard = o.guard := by
 have hlt : i < l.length := by rw [← ks]; exact (List.getElem?_eq_some_iff.1 h).1
 have e := lI l i l[i] (List.getElem?_eq_getElem hlt)
 rw [h] at e
 simp only [sJ] at e
 refine ⟨l[i], List.getElem?_eq_getElem hlt, e, ?_⟩
 rw [e]
 split
 ·exact vX _
 ·exact ⟨rfl, rfl⟩
theorem rQ {l : List Oper} {listed : Array Bool} {i : Nat} (h : i ∈ Region.ready .any l.toArray listed) : i ∈ Region.ready .any (fJ l).toArray listed := by
 obtain ⟨h1, o, ho, h2⟩ := mem_ready.1 h
 have ho' : l[i]? = some o := by simpa using ho
 have e := lI l i o ho'
 obtain ⟨o2, q1, q2, q3, q4⟩ := qk e
 rw [ho'] at q1
 simp only [sJ] at q1
 subst q1
 refine mem_ready.2 ⟨h1, _, by simpa using e, fun x hx => ?_⟩
 rw [q3] at hx
 exact h2 x hx
section
variable {P : Program}
theorem Oper.wp_put {o : Oper} {a : Act} {w : World} {K : Act → World → Prop} {Q : Exit → Act → World → Prop} (h : o.wp P a w K Q) :
  o.wp P a w (fun a' w' => K a' w' ∧ ∀ t, o.dst ≠ some t → a'.tmps.getD t undef = a.tmps.getD t undef) Q := by
 have key : ∀ (a1 : Act) (v : Value) (t : Nat), a1.tmps = a.tmps → o.dst ≠ some t → (a1.put o.dst v).tmps.getD t undef = a.tmps.getD t undef := by
  intro a1 v t h1 ht
  cases hd : o.dst with
  | none => simp [Act.put, h1]
  | some d =>
   have hne : d ≠ t := fun e => ht (by rw [hd, e])
   simp only [Act.put, Array.getD_eq_getD_getElem?, h1]
   rw [Array.getElem?_setIfInBounds_ne hne]
 unfold Oper.wp at *
 generalize (execOp a.eval o).run P w = r at *
 cases r with
 | ok n w' =>
  cases n <;> simp only [Oper.upon] at h ⊢ <;>
   first
    | exact ⟨h, fun t ht => key _ _ t rfl ht⟩
    | exact Calls.mono h (fun e w'' he => by cases e <;> first | exact ⟨he, fun t ht => key _ _ t rfl ht⟩ | exact he)
    | exact Rows.mono h (fun _ _ he => ⟨he, fun t ht => key _ _ t rfl ht⟩)
 | halt x w' => cases x <;> simp only [Oper.upon] at h ⊢ <;> exact h
theorem yJ {ops : Array Oper} {Q : Exit → Act → World → Prop} {i : Nat} {o : Oper} {K : Act → World → Prop} {a : Act} {w : World} (ho : ops[i]? = some o) (h : wpOp P ops Q i K a w) :
  wpOp P ops Q i (fun a' w' => K a' w' ∧ ∀ t, o.dst ≠ some t → a'.tmps.getD t undef = a.tmps.getD t undef) a w := by
 unfold wpOp at *
 simp only [ho] at h ⊢
 split
 ·rename_i hw; simp only [hw, if_true] at h; exact h.imp Oper.wp_put id
 ·rename_i hw
  simp only [hw] at h
  refine ⟨h, fun t ht => ?_⟩
  cases hd : o.dst with
  | none => simp [Act.put]
  | some d =>
   have hne : d ≠ t := fun e => ht (by rw [hd, e])
   simp only [Act.put, Array.getD_eq_getD_getElem?]
   rw [Array.getElem?_setIfInBounds_ne hne]
theorem uZ {l : List Oper} {ts : List Nat} {bs : List Bool} (v : zT l ts bs) {i : Nat} {o : Oper} (ho : l[i]? = some o) (tmps : Array Value) :
  Region.wanted o (yielded (fJ l).toArray tmps) = Region.wanted o (yielded l.toArray tmps) := by
 unfold Region.wanted
 cases hg : o.guard with
 | none => rfl
 | some gb =>
  obtain ⟨g, b⟩ := gb
  simp only
  have : yielded (fJ l).toArray tmps g = yielded l.toArray tmps g := by
   unfold yielded
   simp only [List.getElem?_toArray]
   cases hy : l[g]? with
   | none =>
    have : (fJ l)[g]? = none := by
     rw [List.getElem?_eq_none_iff] at hy ⊢
     rw [ks]; exact hy
    rw [this]
   | some y =>
    rw [lI l g y hy]
    by_cases e : g + 1 < l.length
    ·rw [iP e, oN (v.ref i o g b y ho hg hy)]
    ·rw [iN e]
     have := (v.last g y hy (by have := (List.getElem?_eq_some_iff.1 hy).1; omega)).1
     simp [oM, this]
  rw [this]
theorem xF {l : List Oper} {ts : List Nat} {bs : List Bool} (v : zT l ts bs) {Q : Exit → Act → World → Prop} {i : Nat} {o : Oper} {K : Act → World → Prop} {a : Act} {w : World} (ho : l[i]? = some o) (hi : i + 1 < l.length) (hn : ∀ T, o.op ≠ .alloc T)
  (h : wpOp P (fJ l).toArray Q i K a w) : wpOp P l.toArray Q i (fun a' w' => K a' w' ∧ ∀ t, o.dst ≠ some t → a'.tmps.getD t undef = a.tmps.getD t undef) a w := by
 have e := lI l i o ho
 rw [iP hi, oN hn] at e
 have h' := yJ (o := o) (by simpa using e) h
 unfold wpOp at h' ⊢
 simp only [List.getElem?_toArray, e, ho, uZ v ho] at h' ⊢
 exact h'
theorem Inv.aside {G : Gh} {σ : List OB} {w : World} (hi : Inv G σ w) (x : Obj) : Inv { G with F := fun b => if b = w.heap.size then some x else G.F b } σ (w.alloc x) := by
 have old : ∀ b, b < w.heap.size → (w.alloc x).heap[b]? = w.heap[b]? := fun b hb => heap_alloc_old w _ hb
 constructor
 ·intro b y h; rw [old b (dc (hi.hH b y h))]; exact hi.hH b y h
 ·intro b y h
  simp only at h
  by_cases e : b = w.heap.size
  ·rw [iP e] at h; rw [e, ← h]; exact heap_alloc_new w _
  ·rw [iN e] at h; rw [old b (dc (hi.hF b y h))]; exact hi.hF b y h
 ·intro b y h
  simp only at h ⊢
  by_cases e : b = w.heap.size
  ·cases hx : G.H b with
   | none => rfl
   | some z => have := dc (hi.hH _ _ hx); omega
  ·rw [iN e] at h; exact hi.HF b y h
 ·exact hi.len
 ·intro b ob h
  exact (hi.own b ob h).keep (fun _ _ h => h) (bx.refl _) rfl fun o ho hh => old _ (mw hi ho hh)
 ·exact hi.inj
 ·intro b o h hh
  have := mw hi h hh
  refine ⟨(hi.sep b o h hh).1, ?_⟩
  simp only
  rw [iN (by omega)]
  exact (hi.sep b o h hh).2
 ·exact hi.os
 ·exact hi.tape
 ·exact hi.output
 ·exact Nat.le_trans hi.grow (by simp)
theorem Inv.gain {G : Gh} {σ : List OB} {w : World} (hi : Inv G σ w) {blk : Nat} {cs : List CV} {c : Array Value} {T : TypeId} (hA : w.heap[blk]? = some (.cells c T)) (hB : G.H blk = none) (hC : G.F blk = none)
  (hD : ∀ (b : Nat) (o : OG), G.own[b]? = some (some o) → o.has = true → o.blk ≠ blk) (h : aO (Rep G) cs c.toList) : Inv { G with own := G.own ++ [some ⟨blk, 0, 0, 0, true, 0⟩] } (σ ++ [.box cs]) w := by
 have hle : bx G.own (G.own ++ [some ⟨blk, 0, 0, 0, true, 0⟩]) := bx.append _ _
 have split : ∀ (b : Nat) (o' : OG), (G.own ++ [some (⟨blk, 0, 0, 0, true, 0⟩ : OG)])[b]? = some (some o') → (b < G.own.length ∧ G.own[b]? = some (some o')) ∨ (b = G.own.length ∧ o' = ⟨blk, 0, 0, 0, true, 0⟩) := by
  intro b o' h
  rcases Nat.lt_or_ge b G.own.length with hb | hb
  ·rw [List.getElem?_append_left hb] at h; exact .inl ⟨hb, h⟩
  ·rw [List.getElem?_append_right hb] at h
   rcases Nat.eq_zero_or_pos (b - G.own.length) with e | e
   ·rw [e] at h; simp at h; exact .inr ⟨by omega, h.symm⟩
   ·rw [List.getElem?_eq_none (by simp; omega)] at h; cases h
 constructor
 ·exact hi.hH
 ·exact hi.hF
 ·exact hi.HF
 ·simp [hi.len]
 ·intro b ob' h'
  rcases Nat.lt_or_ge b σ.length with hb | hb
  ·rw [List.getElem?_append_left hb] at h'
   refine (hi.own b ob' h').keep (fun _ _ h => h) hle ?_ fun o' ho' hh => rfl
   exact List.getElem?_append_left (by rw [hi.len]; exact hb)
  ·rw [List.getElem?_append_right hb] at h'
   rcases Nat.eq_zero_or_pos (b - σ.length) with e | e
   ·rw [e] at h'; simp at h'
    have : b = σ.length := by omega
    subst this; subst h'
    refine ⟨⟨blk, 0, 0, 0, true, 0⟩, c, T, ?_, rfl, ⟨rfl, rfl⟩, hA, aO.mono (R := Rep G) (fun _ _ hr => Rep.mono (G := G) (G' := { G with own := G.own ++ [some ⟨blk, 0, 0, 0, true, 0⟩] }) (fun _ _ h => h) hle hr) h⟩
    show (G.own ++ _)[σ.length]? = _
    rw [← hi.len]; simp
   ·rw [List.getElem?_eq_none (by simp; omega)] at h'; cases h'
 ·intro b b' o1 o2 h1 h2 hh1 hh2 he
  rcases split b o1 h1 with ⟨hb, g1⟩ | ⟨hb, g1⟩ <;> rcases split b' o2 h2 with ⟨hb', g2⟩ | ⟨hb', g2⟩
  ·exact hi.inj b b' o1 o2 g1 g2 hh1 hh2 he
  ·exact (hD b o1 g1 hh1 (by rw [he, g2])).elim
  ·exact (hD b' o2 g2 hh2 (by rw [← he, g1])).elim
  ·omega
 ·intro b o1 h1 hh1
  rcases split b o1 h1 with ⟨hb, h1⟩ | ⟨hb, rfl⟩
  ·exact hi.sep b o1 h1 hh1
  ·exact ⟨hB, hC⟩
 ·exact hi.os
 ·exact hi.tape
 ·exact hi.output
 ·exact hi.grow
theorem Inv.less {G : Gh} {σ : List OB} {w : World} (hi : Inv G σ w) (F : Nat → Option Obj) (h : ∀ b x, F b = some x → G.F b = some x) : Inv { G with F := F } σ w := by
 constructor
 ·exact hi.hH
 ·exact fun b x e => hi.hF b x (h b x e)
 ·exact fun b x e => hi.HF b x (h b x e)
 ·exact hi.len
 ·exact fun b ob e => (hi.own b ob e).keep (fun _ _ h => h) (bx.refl _) rfl fun _ _ _ => rfl
 ·exact hi.inj
 ·intro b o e hh
  refine ⟨(hi.sep b o e hh).1, ?_⟩
  show F o.blk = none
  cases hx : F o.blk with
  | none => rfl
  | some x => have := h _ _ hx; rw [(hi.sep b o e hh).2] at this; cases this
 ·exact hi.os
 ·exact hi.tape
 ·exact hi.output
 ·exact hi.grow
def Cv (P : Program) (l : List Oper) (G0 G1 : Gh) (listed : Array Bool) (a : Act) : Prop :=
 G1.H = G0.H ∧ G1.own = G0.own ∧ G1.w0 = G0.w0 ∧ G1.na = G0.na ∧ (∀ b x, G0.F b = some x → G1.F b = some x) ∧
 ∃ pb : Nat → Nat,
  (∀ (i j : Nat) (o o' : Oper) (T T' : TypeId), l[i]? = some o → l[j]? = some o' → i + 1 < l.length → j + 1 < l.length → o.op = .alloc T → o'.op = .alloc T' → listed.getD i false = true → listed.getD j false = true → pb i = pb j → i = j) ∧
  ∀ (i : Nat) (o : Oper) (T : TypeId) (t : Nat), l[i]? = some o → i + 1 < l.length → o.op = .alloc T → o.dst = some t → listed.getD i false = true →
   a.tmps.getD t undef = .pointer (some ⟨pb i, 0, none⟩) ∧ G0.F (pb i) = none ∧ ∃ inf u, P.info? T = some inf ∧ inf.zero = some u ∧ G1.F (pb i) = some (.cells u.cells T)
def StA (P : Program) (l : List Oper) (tr : List TS) (E : Env) (σ : List OB) (G0 : Gh) (listed : Array Bool) (a : Act) (w : World) : Prop :=
 ∃ G1, Cv P l G0 G1 listed a ∧ StJ (fJ l) tr E σ G1 listed a w
theorem mM {l : List Oper} {listed : Array Bool} (hsz : listed.size = l.length) {i : Nat} (hi : i ∈ Region.ready .any l.toArray listed) : listed.getD i false = false ∧ i < l.length ∧ ∃ o, l[i]? = some o ∧ ∀ j ∈ fb o, listed.getD j false = true := by
 obtain ⟨hun, o, ho', hdeps⟩ := mem_ready.1 hi
 have ho : l[i]? = some o := by simpa using ho'
 have hil : i < l.length := (List.getElem?_eq_some_iff.1 ho).1
 refine ⟨?_, hil, o, ho, fun j hj => ?_⟩
 ·rw [Array.getD_eq_getD_getElem?] at hun ⊢
  rw [Array.getElem?_eq_getElem (by omega)] at hun ⊢
  simpa using hun
 ·simp only [fb, List.mem_map, List.mem_filter] at hj
  obtain ⟨e, ⟨h1, h2⟩, rfl⟩ := hj
  exact hdeps e (by simpa using h1) h2
theorem StA.step {l : List Oper} {ts : List Nat} {bs : List Bool} {masks : List Nat} {E : Env} {σ : List OB} {tr : List TS} (c : Chk (fJ l).toArray (fJ l) masks bs) (v : zT l ts bs) (ht : ny P (fJ l).toArray (fJ l) bs E σ tr)
  (hE : ∀ t ∈ ts, (E.get t).cond = false) (hz : ∀ (i : Nat) (o : Oper) (T : TypeId), l[i]? = some o → i + 1 < l.length → o.op = .alloc T → (∃ z, jW P T = some z) ∧ dv E o.dst) (G0 : Gh) {Q : Exit → Act → World → Prop} (listed : Array Bool) (a : Act) (w : World) (i : Nat)
  (hJ : StA P l tr E σ G0 listed a w) (hi : i ∈ Region.ready .any l.toArray listed) (hlt : i + 1 < l.length) : wpOp P l.toArray Q i (StA P l tr E σ G0 (listed.setIfInBounds i true)) a w := by
 obtain ⟨G1, ⟨p1, p2, p3, p4, p5, pb, p6, p7⟩, hS⟩ := hJ
 have hsz : listed.size = l.length := by rw [hS.1, ks]
 obtain ⟨hi0, hil, o, ho, hr⟩ := mM hsz hi
 have hset : ∀ j, (listed.setIfInBounds i true).getD j false = if j = i then true else listed.getD j false := fun j => xq _ _ _ (by omega)
 by_cases hn : ∀ T, o.op ≠ .alloc T
 ·have h1 := StJ.step (Q := Q) c ht G1 listed a w i hS (rQ hi)
  refine wpOp_mono (fun a' w' h => ?_) (xF v ho hlt hn h1)
  obtain ⟨h2, h3⟩ := h
  refine ⟨G1, ⟨p1, p2, p3, p4, p5, pb, ?_, ?_⟩, h2⟩
  ·intro j k y y' T T' hy hy' hj hk hop hop' hl hl'
   rw [hset] at hl hl'
   have nj : j ≠ i := fun e => by subst e; rw [ho] at hy; simp only [sJ] at hy; subst hy; exact hn T hop
   have nk : k ≠ i := fun e => by subst e; rw [ho] at hy'; simp only [sJ] at hy'; subst hy'; exact hn T' hop'
   rw [iN nj] at hl
   rw [iN nk] at hl'
   exact p6 j k y y' T T' hy hy' hj hk hop hop' hl hl'
  ·intro j y T t hy hj hop hd hl
   rw [hset] at hl
   have nj : j ≠ i := fun e => by subst e; rw [ho] at hy; simp only [sJ] at hy; subst hy; exact hn T hop
   rw [iN nj] at hl
   obtain ⟨q1, q2⟩ := p7 j y T t hy hj hop hd hl
   obtain ⟨_, t', g1, _, _, g4⟩ := v.al j y T hy hj hop
   rw [hd] at g1
   simp only [sJ] at g1
   subst g1
   exact ⟨(h3 t (g4 i o ho (fun e => nj e.symm))).trans q1, q2⟩
 ·obtain ⟨T, hop⟩ : ∃ T, o.op = .alloc T := Classical.byContradiction fun h => hn fun T e => h ⟨T, e⟩
  obtain ⟨hg, t, hd, ht512, hts, huniq⟩ := v.al i o T ho hlt hop
  obtain ⟨⟨z, hzT⟩, hdok⟩ := hz i o T ho hlt hop
  obtain ⟨hsz', hcl, G, p, hG, hp, hloud, hinv, hdef, htm, hna, hslot⟩ := hS
  obtain ⟨inf, u, e1, e2, e3, e4, _, e5⟩ := jt G hzT
  have hFG : G.F = G1.F := hG.le.F
  have hvi := lI l i o ho
  rw [iP hlt, wR hop] at hvi
  have hrun : (execOp a.eval o).run P w = .ok (.value (.pointer (some ⟨w.heap.size, 0, none⟩))) (w.alloc (.cells u.cells T)) := by
   simp [execOp, hop, Instr.alloc, io e1 e2, newVar, newRow]
  unfold wpOp
  simp only [List.getElem?_toArray, ho]
  rw [iP (by unfold Region.wanted; rw [hg])]
  left
  unfold Oper.wp
  rw [hrun]
  show StA P l tr E σ G0 (listed.setIfInBounds i true) (a.put o.dst _) _
  rw [hd]
  have hfree : ∀ j y, l[j]? = some y → j + 1 < l.length → (∃ T, y.op = .alloc T) → listed.getD j false = true → pb j ≠ w.heap.size := by
   intro j y hy hj ⟨T', hop'⟩ hl e
   obtain ⟨_, t', g1, _⟩ := v.al j y T' hy hj hop'
   obtain ⟨_, _, _, _, _, _, q⟩ := p7 j y T' t' hy hj hop' g1 hl
   rw [← hFG] at q
   have := dc (hinv.hF _ _ q)
   omega
  have hput : ∀ t', t' ≠ t → (a.put (some t) (.pointer (some ⟨w.heap.size, 0, none⟩))).tmps.getD t' undef = a.tmps.getD t' undef := by
   intro t' hne
   simp only [Act.put, Array.getD_eq_getD_getElem?]
   rw [Array.getElem?_setIfInBounds_ne (Ne.symm hne)]
  refine ⟨{ G1 with F := fun b => if b = w.heap.size then some (.cells u.cells T) else G1.F b }, ⟨p1, p2, p3, p4, ?_, fun j => if j = i then w.heap.size else pb j, ?_, ?_⟩, ?_⟩
  ·intro b x hb
   have h1 := p5 b x hb
   simp only
   rw [iN]
   ·exact h1
   ·intro e
    rw [← hFG] at h1
    have := dc (hinv.hF _ _ h1)
    omega
  ·intro j k y y' T1 T2 hy hy' hj hk hop1 hop2 hl hl' he
   rw [hset] at hl hl'
   simp only at he
   by_cases nj : j = i <;> by_cases nk : k = i
   ·omega
   ·rw [iP nj, iN nk] at he; rw [iN nk] at hl'
    exact (hfree k y' hy' hk ⟨T2, hop2⟩ hl' he.symm).elim
   ·rw [iN nj, iP nk] at he; rw [iN nj] at hl
    exact (hfree j y hy hj ⟨T1, hop1⟩ hl he).elim
   ·rw [iN nj, iN nk] at he; rw [iN nj] at hl; rw [iN nk] at hl'
    exact p6 j k y y' T1 T2 hy hy' hj hk hop1 hop2 hl hl' he
  ·intro j y T' t' hy hj hop' hd' hl
   rw [hset] at hl
   by_cases nj : j = i
   ·subst nj
    rw [ho] at hy
    simp only [sJ] at hy
    subst hy
    rw [hd] at hd'
    simp only [sJ] at hd'
    subst hd'
    rw [hop] at hop'
    simp only [Op.alloc.injEq] at hop'
    subst hop'
    simp only [if_true]
    refine ⟨?_, ?_, inf, u, e1, e2, ?_⟩
    ·have : t < a.tmps.size := by
      rw [htm]
      rw [hd] at hdok
      exact hdok
     simp [Act.put, Array.getD, this]
    ·cases hx : G0.F w.heap.size with
     | none => rfl
     | some x =>
      have h1 := p5 _ _ hx
      rw [← hFG] at h1
      have := dc (hinv.hF _ _ h1)
      omega
    ·simp
   ·rw [iN nj] at hl
    obtain ⟨q1, q2, inf', u', q3, q4, q5⟩ := p7 j y T' t' hy hj hop' hd' hl
    simp only [iN nj]
    have hne : t' ≠ t := fun e => huniq j y hy nj (by rw [hd', e])
    refine ⟨(hput t' hne).trans q1, q2, inf', u', q3, q4, ?_⟩
    rw [iN (hfree j y hy hj ⟨T', hop'⟩ hl)]
    exact q5
  ·refine ⟨by simpa using hsz', ?_, { G with F := fun b => if b = w.heap.size then some (.cells u.cells T) else G1.F b }, p, ⟨⟨hG.le.H, rfl, hG.le.w0, hG.le.na⟩, hG.own⟩, hp, ?_, ?_, hdef, by simpa [Act.put] using htm, hna, ?_⟩
   ·intro k ok hk hdn j hj
    simp only at hdn ⊢
    rw [hset] at hdn ⊢
    by_cases e : k = i
    ·subst e; rw [hvi] at hk; simp only [sJ] at hk; subst hk
     by_cases e' : j = k
     ·rw [iP e']
     ·rw [iN e']; exact hr j hj
    ·rw [iN e] at hdn
     by_cases e' : j = i
     ·rw [iP e']
     ·rw [iN e']; exact hcl k ok hk hdn j hj
   ·intro j y hy hly
    rw [hset]
    by_cases e : j = i
    ·subst e; rw [hvi] at hy; simp only [sJ] at hy; subst hy; simp [gD, oM] at hly
    ·rw [iN e]; exact hloud j y hy hly
   ·have := hinv.aside (.cells u.cells T)
    rw [hFG] at this
    exact this
   ·intro t' ht' hc
    have hfun : (fun k => (listed.setIfInBounds i true).getD k false) = (fun k => if k = i then true else listed.getD k false) := by
     funext k; exact hset k
    rw [hfun] at hc ⊢
    rw [qN t' (fJ l) tr _ _ i _ hvi (by simp [oM])] at hc ⊢
    by_cases e : t' = t
    ·subst e
     have hno : ∀ (j : Nat) (y : Oper), (fJ l)[j]? = some y → y.dst = some t' → False := by
      intro j y hy hyd
      obtain ⟨y0, g1, g2, _⟩ := qk hy
      by_cases ej : j + 1 < l.length
      ·rw [iP ej] at g2
       by_cases ha : ∀ T, y0.op ≠ .alloc T
       ·rw [oN ha] at g2
        subst g2
        by_cases eji : j = i
        ·subst eji; rw [ho] at g1; simp only [sJ] at g1; subst g1; exact ha T hop
        ·exact huniq j y g1 eji hyd
       ·obtain ⟨T', ha⟩ : ∃ T, y0.op = .alloc T := Classical.byContradiction fun h => ha fun T e => h ⟨T, e⟩
        rw [wR ha] at g2
        subst g2
        cases hyd
      ·rw [iN ej] at g2
       subst g2
       cases hyd
     have hk : gm t' (fJ l) tr (fun k => listed.getD k false) (E.get t') = E.get t' := by
      rw [iy t' (fJ l) tr _ (fun _ => false) _ (fun j y hy hyd => (hno j y hy hyd).elim)]
      exact lc t' (fJ l) tr _ _ fun _ _ _ _ => rfl
     rw [hk, hE t' hts] at hc
     cases hc
    ·rw [hput t' e]
     exact aU.mono (fun _ _ h => h) (bx.refl _) (hslot t' ht' hc)
theorem vY : ∀ (ts : List Nat) (E : Env) (t : Nat), (∀ x ∈ ts, x < 512) → t ∈ ts → ((E.forget ts).get t).cond = false := by
 have keep : ∀ (ts : List Nat) (E : Env) (t : Nat), (E.get t).cond = false → ((E.forget ts).get t).cond = false := by
  intro ts
  induction ts with
  | nil => intro E t h; exact h
  | cons i r ih =>
   intro E t h
   refine ih (E.erase i) t ?_
   cases hc : ((E.erase i).get t).cond with
   | false => rfl
   | true => have := Env.erase_get E i t hc; rw [this, h] at hc; cases hc
 have zap : ∀ (E : Env) (i : Nat), i < 512 → ((E.erase i).get i).cond = false := by
  intro E i h
  unfold Env.erase Env.get
  simp only
  have hb : i / 64 < 8 := by omega
  rw [Tr.get_put _ _ _ _ hb, iP rfl, Tr.get_put _ _ _ _ (Nat.mod_lt _ (by decide)), iP rfl, Tr.get_put _ _ _ _ (Nat.mod_lt _ (by decide)), iP rfl]
  simp [Tr.ent]
 intro ts
 induction ts with
 | nil => intro E t _ h; simp at h
 | cons i r ih =>
  intro E t hx h
  by_cases e : t ∈ r
  ·exact ih (E.erase i) t (fun x hx' => hx x (by simp [hx'])) e
  ·have : t = i := by simpa [e] using h
   subst this
   exact keep r _ t (zap E t (hx t (by simp)))
theorem Bf (E : Env) (d : Option Tmp) (e : Ent) : (E.putD d e).n = E.n := by cases d <;> rfl
theorem wS {E E' : Env} (h : E.n = E'.n) {d : Option Tmp} (hd : dv E d) : dv E' d := by
 cases d with
 | none => trivial
 | some d => show d < E'.n; rw [← h]; exact hd
theorem ql {ops : Array Oper} {kp : PV → Env → List OB → Prop} {k : Env → List OB → Prop} : ∀ (r : List Oper) (E : Env) (σ : List OB), fI P ops (mg r) E σ k kp →
  ∀ (i : Nat) (o : Oper) (T : TypeId), (∀ (i : Nat) (o : Oper) (T : TypeId), r[i]? = some o → i + 1 < r.length → o.op = .alloc T → o.guard = none) → r[i]? = some o → i + 1 < r.length → o.op = .alloc T → (∃ z, jW P T = some z) ∧ dv E o.dst
 | [], E, σ, h, i, o, T, hg, ho, hi, hop => by simp at ho
 | [q], E, σ, h, i, o, T, hg, ho, hi, hop => by simp at hi
 | x :: o2 :: r, E, σ, h, i, o, T, hg, ho, hi, hop => by
  have hg' : ∀ (i : Nat) (o : Oper) (T : TypeId), (o2 :: r)[i]? = some o → i + 1 < (o2 :: r).length → o.op = .alloc T → o.guard = none := fun i o T h1 h2 h3 => hg (i + 1) o T (by simpa using h1) (by simp at h2 ⊢; omega) h3
  by_cases hx : ∀ T, x.op ≠ .alloc T
  ·have e : mg (x :: o2 :: r) = mg (o2 :: r) := by
    unfold mg
    split
    ·rename_i T' e; exact (hx T' e).elim
    ·cases r <;> rfl
   rw [e] at h
   cases i with
   | zero => simp at ho; subst ho; exact (hx T hop).elim
   | succ i => exact ql (o2 :: r) E σ h i o T hg' (by simpa using ho) (by simp at hi ⊢; omega) hop
  ·obtain ⟨Tx, hx⟩ : ∃ T, x.op = .alloc T := Classical.byContradiction fun h => hx fun T e => h ⟨T, e⟩
   have e : mg (x :: o2 :: r) = x :: mg (o2 :: r) := by
    simp only [mg, hx]
   rw [e] at h
   have hgx := hg 0 x Tx rfl (by simp) hx
   unfold fI at h
   simp only [d6, hgx, bz, hx, kX] at h
   split at h
   ·rename_i z hz
    simp only [om] at h
    obtain ⟨hd, _, hr⟩ := h
    cases i with
    | zero => simp at ho; subst ho; rw [hx] at hop; simp only [Op.alloc.injEq] at hop; subst hop; exact ⟨⟨z, hz⟩, hd⟩
    | succ i =>
     obtain ⟨q1, q2⟩ := ql (o2 :: r) _ _ hr i o T hg' (by simpa using ho) (by simp at hi ⊢; omega) hop
     exact ⟨q1, wS (Bf _ _ _) q2⟩
   ·simp only [om] at h
theorem mat {ops : Array Oper} {pb : Nat → Nat} {kp : PV → Env → List OB → Prop} {k : Env → List OB → Prop} {a : Act} {w : World} : ∀ (r : List Oper) (m : Nat) (G : Gh) (E : Env) (σ : List OB), Sim G E σ a w →
  (∀ (i : Nat) (o : Oper) (T : TypeId), r[i]? = some o → i + 1 < r.length → o.op = .alloc T → o.guard = none ∧ ∃ t, o.dst = some t ∧ a.tmps.getD t undef = .pointer (some ⟨pb (m + i), 0, none⟩) ∧ G.F (pb (m + i)) = none ∧ G.H (pb (m + i)) = none ∧
   (∀ (b : Nat) (og : OG), G.own[b]? = some (some og) → og.has = true → og.blk ≠ pb (m + i)) ∧ ∃ inf u, P.info? T = some inf ∧ inf.zero = some u ∧ w.heap[pb (m + i)]? = some (.cells u.cells T)) →
  (∀ (i j : Nat) (o o' : Oper) (T T' : TypeId), r[i]? = some o → r[j]? = some o' → i + 1 < r.length → j + 1 < r.length → o.op = .alloc T → o'.op = .alloc T' → pb (m + i) = pb (m + j) → i = j) →
  fI P ops (mg r) E σ k kp → ∀ q, r.getLast? = some q → ∃ G' E' σ', Gle G G' ∧ Sim G' E' σ' a w ∧ fI P ops [q] E' σ' k kp
 | [], m, G, E, σ, hs, hf, hdist, h, q, hq => by simp at hq
 | [x], m, G, E, σ, hs, hf, hdist, h, q, hq => by simp at hq; subst hq; exact ⟨G, E, σ, Gle.refl G, hs, h⟩
 | x :: o2 :: r, m, G, E, σ, hs, hf, hdist, h, q, hq => by
  have hq' : (o2 :: r).getLast? = some q := by simpa [List.getLast?_cons_cons] using hq
  have hdist' : ∀ (i j : Nat) (o o' : Oper) (T T' : TypeId), (o2 :: r)[i]? = some o → (o2 :: r)[j]? = some o' → i + 1 < (o2 :: r).length → j + 1 < (o2 :: r).length → o.op = .alloc T → o'.op = .alloc T' → pb (m + 1 + i) = pb (m + 1 + j) → i = j := by
   intro i j o o' T T' h1 h2 h3 h4 h5 h6 h7
   have := hdist (i + 1) (j + 1) o o' T T' (by simpa using h1) (by simpa using h2) (by simp at h3 ⊢; omega) (by simp at h4 ⊢; omega) h5 h6 (by rw [show m + (i + 1) = m + 1 + i by omega, show m + (j + 1) = m + 1 + j by omega]; exact h7)
   omega
  by_cases hx : ∀ T, x.op ≠ .alloc T
  ·have e : mg (x :: o2 :: r) = mg (o2 :: r) := by
    unfold mg
    split
    ·rename_i T' e; exact (hx T' e).elim
    ·cases r <;> rfl
   rw [e] at h
   refine mat (o2 :: r) (m + 1) G E σ hs (fun i o T h1 h2 h3 => ?_) hdist' h q hq'
   have := hf (i + 1) o T (by simpa using h1) (by simp at h2 ⊢; omega) h3
   rw [show m + (i + 1) = m + 1 + i by omega] at this
   exact this
  ·obtain ⟨Tx, hx⟩ : ∃ T, x.op = .alloc T := Classical.byContradiction fun h => hx fun T e => h ⟨T, e⟩
   have e : mg (x :: o2 :: r) = x :: mg (o2 :: r) := by
    simp only [mg, hx]
   rw [e] at h
   obtain ⟨hgx, t, hd, g1, g2, g3, g4, inf, u, g5, g6, g7⟩ := hf 0 x Tx rfl (by simp) hx
   simp only [Nat.add_zero] at g1 g2 g3 g4 g7
   unfold fI at h
   simp only [d6, hgx, bz, hx, kX] at h
   split at h
   ·rename_i z hz
    simp only [om] at h
    obtain ⟨hdk, _, hr⟩ := h
    obtain ⟨inf', u', k1, k2, _, _, _, k5⟩ := jt G hz
    rw [g5] at k1; simp only [sJ] at k1; subst k1
    rw [g6] at k2; simp only [sJ] at k2; subst k2
    have hinv := hs.inv.gain (cs := z) g7 g3 g2 g4 (aO.mono (fun _ _ hr => a8.rep hr) k5)
    have hle : bx G.own (G.own ++ [some (⟨pb m, 0, 0, 0, true, 0⟩ : OG)]) := bx.append _ _
    rw [hd] at hr
    have hsim : Sim { G with own := G.own ++ [some ⟨pb m, 0, 0, 0, true, 0⟩] } (E.putD (some t) ⟨true, .c (.optr σ.length 0)⟩) (σ ++ [.box z]) a w := by
     refine ⟨hinv, hs.defers, hs.size, hs.na, fun i hc => ?_⟩
     have hg := Env.get_put E t i _ hc
     show aU _ ((E.put t _).get i).v _
     rw [hg]
     by_cases ei : i = t
     ·rw [iP ei, ei, g1]
      refine ⟨rfl, some ⟨pb m, 0, 0, 0, true, 0⟩, ?_, fun og e _ => by simp only [sJ] at e; subst e; rfl⟩
      show (G.own ++ _)[σ.length]? = _
      rw [← hs.inv.len]; simp
     ·rw [iN ei]
      have hc' : (E.get i).cond = true := by
       have : ((E.put t ⟨true, .c (.optr σ.length 0)⟩).get i).cond = true := hc
       rw [hg, iN ei] at this; exact this
      exact aU.mono (G := G) (G' := { G with own := G.own ++ [some ⟨pb m, 0, 0, 0, true, 0⟩] }) (fun _ _ h => h) hle (hs.slot i hc')
    obtain ⟨G', E', σ', q1, q2, q3⟩ := mat (o2 :: r) (m + 1) _ _ _ hsim (fun i o T h1 h2 h3 => by
     obtain ⟨f1, t', f2, f3, f4, f5, f6, f7⟩ := hf (i + 1) o T (by simpa using h1) (by simp at h2 ⊢; omega) h3
     rw [show m + (i + 1) = m + 1 + i by omega] at f3 f4 f5 f6 f7
     refine ⟨f1, t', f2, f3, f4, f5, fun b og hb hh => ?_, f7⟩
     rcases Nat.lt_or_ge b G.own.length with hb' | hb'
     ·rw [List.getElem?_append_left hb'] at hb; exact f6 b og hb hh
     ·rw [List.getElem?_append_right hb'] at hb
      rcases Nat.eq_zero_or_pos (b - G.own.length) with e0 | e0
      ·rw [e0] at hb
       simp only [List.getElem?_cons_zero, sJ] at hb
       subst hb
       intro e1
       have := hdist 0 (i + 1) x o Tx T rfl (by simpa using h1) (by simp) (by simp at h2 ⊢; omega) hx h3 (by rw [Nat.add_zero, show m + (i + 1) = m + 1 + i by omega]; exact e1)
       omega
      ·rw [List.getElem?_eq_none (by simp; omega)] at hb; cases hb) hdist' hr q hq'
    have hGle : Gle G { G with own := G.own ++ [some ⟨pb m, 0, 0, 0, true, 0⟩] } := ⟨⟨fun _ _ h => h, rfl, rfl, rfl⟩, kY.of_le hle⟩
    exact ⟨G', E', σ', hGle.trans q1, q2, q3⟩
   ·simp only [om] at h
theorem u3 {l : List Oper} {listed : Array Bool} {i : Nat} (h : i ∈ Region.ready .any (fJ l).toArray listed) : i ∈ Region.ready .any l.toArray listed := by
 obtain ⟨h1, o, ho, h2⟩ := mem_ready.1 h
 obtain ⟨o2, q1, q2, q3, q4⟩ := qk (show (fJ l)[i]? = some o by simpa using ho)
 exact mem_ready.2 ⟨h1, o2, by simpa using q1, fun x hx => h2 x (by rw [q3]; exact hx)⟩
theorem xG {l : List Oper} {i : Nat} {q : Oper} {K : Act → World → Prop} {a : Act} {w : World} (ho : (fJ l)[i]? = some (oM q)) (hg : q.guard = none) (h : wpOp P (fJ l).toArray (fun _ _ _ => False) i K a w) : K a w := by
 unfold wpOp at h
 simp only [List.getElem?_toArray, ho] at h
 rw [iP (by unfold Region.wanted; simp [oM, hg])] at h
 rcases h with h | ⟨_, _, _, h⟩
 ·unfold Oper.wp at h
  have : (execOp a.eval (oM q)).run P w = .ok (.value (.bool true)) w := by simp [execOp, oM, Act.eval]
  rw [this] at h
  exact h
 ·exact h.elim
theorem xH {ops : Array Oper} {Q : Exit → Act → World → Prop} {listed : Array Bool} (hr : Region.ready .any ops listed = []) : ∀ (fuel : Nat) (a : Act) (w : World), Q .normal a w → wpAny P .any ops Q fuel listed a w
 | 0, a, w, h => ⟨hr, h⟩
 | fuel + 1, a, w, h => ⟨fun _ => h, fun i hi => by rw [hr] at hi; simp at hi⟩
theorem Bg {id : Nat} {l : List Oper} {K : Kt} {E : Env} {σ : List OB} (hm : P.follows .mixedOrders = true) (ts : List Nat) (masks : List Nat) (bs : List Bool) (hc : Be l ts masks bs = true) (hts : ∀ t ∈ ts, t < 512) {k : Env → List OB → Prop} {kp : PV → Env → List OB → Prop} (hkn : ∀ E σ, k E σ → K .normal E σ) (hkp : ∀ p E σ, kp p E σ → K (.panic p) E σ)
  (h : TR P (fJ l).toArray (fJ l) bs (E.forget ts) σ (fun E σ => fI P l.toArray (mg l) E σ k kp)) : W P (.region id l.toArray true) K E σ := fun G a w hs0 => by
 have hs := Env.forget_sim ts hs0
 have hE := fun t ht => vY ts E t hts ht
 generalize E.forget ts = E1 at hs hE h
 obtain ⟨tr, ht, hk⟩ := h
 unfold Be at hc
 simp only [Bool.and_eq_true] at hc
 have c := A9 hc.1
 have v := zU hc.2
 have hz : ∀ (i : Nat) (o : Oper) (T : TypeId), l[i]? = some o → i + 1 < l.length → o.op = .alloc T → (∃ z, jW P T = some z) ∧ dv E1 o.dst := fun i o T h1 h2 h3 => by
  obtain ⟨q1, q2⟩ := ql l _ _ hk i o T (fun i o T h1 h2 h3 => (v.al i o T h1 h2 h3).1) h1 h2 h3
  exact ⟨q1, wS (re (fJ l) tr E1 (fJ l).length).1 q2⟩
 have hpos := v.pos
 obtain ⟨q, hq⟩ : ∃ q, l[l.length - 1]? = some q := ⟨_, List.getElem?_eq_getElem (by omega)⟩
 obtain ⟨hqd, hqg⟩ := v.last _ q hq (by omega)
 have hvq := lI l _ q hq
 rw [iN (by omega)] at hvq
 refine wp_region_any hm ?_
 have key : ∀ (fuel : Nat) (listed : Array Bool) (a : Act) (w : World), listed.toList.count false ≤ fuel → listed.getD (l.length - 1) false = false → StA P l tr E1 σ G listed a w → wpAny P .any l.toArray (eq G K) fuel listed a w := by
  have some_ready : ∀ (listed : Array Bool) (a : Act) (w : World), listed.getD (l.length - 1) false = false → StA P l tr E1 σ G listed a w → Region.ready .any l.toArray listed ≠ [] := by
   intro listed a w h1 ⟨G1, _, hS⟩ hr
   have hr' : Region.ready .any (fJ l).toArray listed = [] := by
    rw [List.eq_nil_iff_forall_not_mem] at hr ⊢
    exact fun i hi => hr i (u3 hi)
   have := xr c hS.1 hr' (l.length - 1) (by rw [ks]; omega)
   rw [h1] at this; cases this
  intro fuel
  induction fuel with
  | zero =>
   intro listed a w hf hl hJ
   exfalso
   have hsz : listed.size = l.length := by obtain ⟨_, _, hS⟩ := hJ; rw [hS.1, ks]
   have : listed.toList[l.length - 1]? = some false := by
    rw [Array.getD_eq_getD_getElem?, Array.getElem?_eq_getElem (by omega)] at hl
    rw [Array.getElem?_toList, Array.getElem?_eq_getElem (by omega)]
    simpa using hl
   have hpos := List.count_pos_iff.2 (List.mem_of_getElem? this)
   omega
  | succ fuel ih =>
   intro listed a w hf hl hJ
   refine ⟨fun hr => (some_ready listed a w hl hJ hr).elim, fun i hi => ?_⟩
   have hsz : listed.size = l.length := by obtain ⟨_, _, hS⟩ := hJ; rw [hS.1, ks]
   obtain ⟨hi0, hil, o, ho, hr⟩ := mM hsz hi
   have hset : ∀ j, (listed.setIfInBounds i true).getD j false = if j = i then true else listed.getD j false := fun j => xq _ _ _ (by omega)
   by_cases hlt : i + 1 < l.length
   ·refine wpOp_mono (fun a' w' hJ' => ih _ a' w' ?_ ?_ hJ') (StA.step c v ht hE hz G listed a w i hJ hi hlt)
    ·have : listed.toList[i]? = some false := by
      rw [Array.getD_eq_getD_getElem?, Array.getElem?_eq_getElem (by omega)] at hi0
      rw [Array.getElem?_toList, Array.getElem?_eq_getElem (by omega)]
      simpa using hi0
     have hc := qf _ _ this
     simp only [Array.toList_setIfInBounds]
     omega
    ·rw [hset, iN (by omega)]; exact hl
   ·have hie : i = l.length - 1 := by omega
    subst hie
    rw [hq] at ho
    simp only [sJ] at ho
    subst ho
    obtain ⟨G1, ⟨p1, p2, p3, p4, p5, pb, p6, p7⟩, hS⟩ := hJ
    have hdone : ∀ (j : Nat), j < l.length - 1 → listed.getD j false = true := by
     intro j hj
     have hy := lI l j l[j] (List.getElem?_eq_getElem (by omega))
     have := c.done hS.2.1 hvq hl (fun k hk => by
      have : fb (oM q) = fb q := rfl
      rw [this] at hk; exact hr k hk) hy (.inl (c.bar (l.length - 1) j _ _ hvq hy v.bar))
     rw [this]; simp; omega
    have hst := xG hvq hqg (StJ.step (Q := fun _ _ _ => False) c ht G1 listed a w (l.length - 1) hS (rQ hi))
    have hall : ∀ j, j < l.length → (listed.setIfInBounds (l.length - 1) true).getD j false = true := by
     intro j hj
     rw [hset]
     by_cases e : j = l.length - 1
     ·rw [iP e]
     ·rw [iN e]; exact hdone j (by omega)
    obtain ⟨G2, hG2, hsim⟩ := (yn (Q := fun _ a' w' => ∃ G2, Gle G1 G2 ∧ Sim G2 (df E1 (fJ l) tr (fJ l).length) (aW σ tr (fJ l).length) a' w') c ht G1 (fun G2 a' w' h1 h2 => ⟨G2, h1, h2⟩) 0 (listed.setIfInBounds (l.length - 1) true) a w (by
     refine Nat.le_of_eq (List.count_eq_zero.2 fun hm => ?_)
     obtain ⟨j, hj, he⟩ := List.getElem_of_mem hm
     have hj' : j < l.length := by simpa [hsz] using hj
     have := hall j hj'
     rw [Array.getD_eq_getD_getElem?, Array.getElem?_eq_getElem (by simpa [hsz] using hj')] at this
     rw [Array.getElem_toList] at he
     simp only [Option.getD_some] at this
     rw [he] at this; cases this) hst).2
    have hF2 : G2.F = G1.F := hG2.le.F
    have hsim' : Sim { G2 with F := G.F } (df E1 (fJ l) tr (fJ l).length) (aW σ tr (fJ l).length) a w :=
     ⟨hsim.inv.less G.F (fun b x hb => by rw [hF2]; exact p5 b x hb), hsim.defers, hsim.size, hsim.na, fun i hc => aU.mono (G := G2) (G' := { G2 with F := G.F }) (fun _ _ h => h) (bx.refl _) (hsim.slot i hc)⟩
    obtain ⟨G3, E3, σ3, r1, r2, r3⟩ := mat (pb := pb) l 0 _ _ _ hsim' (fun j y T h1 h2 h3 => by
     obtain ⟨e1, t, e2, _, _, _⟩ := v.al j y T h1 h2 h3
     obtain ⟨f1, f2, inf, u, f3, f4, f5⟩ := p7 j y T t h1 h2 h3 e2 (hdone j (by omega))
     rw [← hF2] at f5
     simp only [Nat.zero_add]
     refine ⟨e1, t, e2, f1, f2, hsim.inv.HF _ _ f5, fun b og hb hh he => ?_, inf, u, f3, f4, hsim.inv.hF _ _ f5⟩
     have := (hsim.inv.sep b og hb hh).2
     rw [he, f5] at this; cases this)
     (fun j k y y' T T' h1 h2 h3 h4 h5 h6 h7 => p6 j k y y' T T' h1 h2 h3 h4 h5 h6 (hdone j (by omega)) (hdone k (by omega)) (by simpa using h7)) hk q (by rw [List.getLast?_eq_getElem?]; exact hq)
    have hGle : Gle G { G2 with F := G.F } := by
     refine ⟨⟨fun b x hb => hG2.le.H b x (by rw [p1]; exact hb), rfl, hG2.le.w0.trans p3, hG2.le.na.trans p4⟩, ?_⟩
     have := hG2.own
     rw [p2, p4] at this
     exact this
    have hw := i0 [q] E3 σ3 _ _ r3 G3 a w r2
    have hw' : wpList P l.toArray (eq G K) [q] a w := dz (fun e a' w' hp => eq.back (hGle.trans r1) (eq.mono (fun x E σ hx => by
     cases x with
     | normal => exact hkn E σ hx
     | exit id => exact hx.elim
     | ret => exact hx.elim
     | panic p => exact hkp p E σ hx) hp)) _ _ _ hw
    have hnil : Region.ready .any l.toArray (listed.setIfInBounds (l.length - 1) true) = [] := by
     rw [List.eq_nil_iff_forall_not_mem]
     intro j hj
     obtain ⟨g1, g2, _⟩ := mM (by simpa using hsz) hj
     rw [hall j g2] at g1; cases g1
    have hop : wpOp P l.toArray (eq G K) (l.length - 1) (fun a' w' => eq G K .normal a' w') a w := by
     unfold wpOp
     simp only [List.getElem?_toArray, hq]
     unfold wpList at hw'
     exact hw'
    exact wpOp_mono (fun a' w' hn => xH hnil fuel a' w' hn) hop
 refine key _ _ a _ (Nat.le_refl _) ?_ ?_ |> fun h => by
  have e : (Array.replicate l.toArray.size false).toList.count false = l.toArray.size := by simp
  rw [e] at h; exact h
 ·rw [Array.getD_eq_getD_getElem?, Array.getElem?_replicate]; split <;> rfl
 ·have hfalse : ∀ i, (Array.replicate l.toArray.size false).getD i false = false := by
   intro i
   rw [Array.getD_eq_getD_getElem?, Array.getElem?_replicate]
   split <;> rfl
  refine ⟨G, ⟨rfl, rfl, rfl, rfl, fun _ _ h => h, fun _ => 0, (fun i j o o' T T' _ _ _ _ _ _ h _ _ => by rw [hfalse] at h; cases h), (fun i o T t _ _ _ _ h => by rw [hfalse] at h; cases h)⟩, ?_⟩
  refine ⟨by simp [ks], (fun i o ho hd => by simp only [hfalse] at hd; cases hd), G, 0, Gle.refl G, by omega, (fun j o ho hl => by rw [hfalse]; simp), ?_, hs.defers, hs.size, hs.na, fun t ht hc => ?_⟩
  ·have : aW σ tr 0 = σ := by cases tr <;> rfl
   rw [this]; exact hs.inv.drawn
  ·have : gm t (fJ l) tr (fun i => (Array.replicate l.toArray.size false).getD i false) (E1.get t) = E1.get t := lc t (fJ l) tr _ _ fun j o _ _ => hfalse j
   rw [this] at hc ⊢
   exact hs.slot t hc
theorem wT {id : Nat} {l : List Oper} {y : Code} {K : Kt} {E : Env} {σ : List OB} (ms : List Nat) (ts : List Nat) (masks : List Nat) (bs : List Bool) (hm : P.follows .mixedOrders = true) (hc : Be l ts masks bs = true) (hts : ∀ t ∈ ts, t < 512)
  (h : ∀ (k : Env → List OB → Prop) (kp : PV → Env → List OB → Prop), (∀ E σ, W P y K E σ → k E σ) → gY P (fJ l).toArray (fJ l) bs (E.forget ts) σ (fun E σ => fI P l.toArray (mg l) E σ (fun E σ => k (E.forget ms) σ) kp)) : W P (.seq (.region id l.toArray true) y) K E σ :=
 qL (Bg (k := fun E σ => W P y K (E.forget ms) σ) (kp := fun _ _ _ => False) hm ts masks bs hc hts (fun _ _ h => lX ms h) (fun _ _ _ h => h.elim) (ip _ bs _ σ _ (h (fun E σ => W P y K E σ) (fun _ _ _ => False) fun _ _ h => h)))
end
end Pam
namespace Pam
open Go Go.Shelf Go.Proofs
def nc (l : List Int) : List Int := l.mergeSort fun x y => decide (x ≤ y)
theorem kF (l : List Int) : (nc l).length = l.length := by simp [nc, List.length_mergeSort]
theorem qi (f : Nat) (cur : Array Value) (d : List Int) (k : Nat) : (Go.Sort.putCells (Value.int .i64) f d.toArray cur)[f + k]? = if h : k < d.length ∧ f + k < cur.size then some (.int .i64 (d[k]'h.1)) else cur[f + k]? := by
 unfold Go.Sort.putCells
 by_cases hk : f + k < cur.size
 ·by_cases hd : k < d.length
  ·rw [dif_pos ⟨hd, hk⟩]
   simp [hk, hd]
  ·rw [dif_neg (fun h => hd h.1)]
   simp [hk, hd]
 ·rw [dif_neg (fun h => hk h.2)]
  simp [hk]
theorem uW (f : Nat) (w : World) (n g : Nat) (os : Array Obj) (d : List Int) (cur : Array Value) (e : TypeId) (fr : Nat × Nat) (hb : w.heap[g]? = some (.cells cur e fr)) :
  (Go.Sort.grow (Go.Sort.putRow (Value.int .i64) (Go.Sort.ahead w n) g f d.toArray) os).heap[g]? = some (.cells (Go.Sort.putCells (Value.int .i64) f d.toArray cur) e fr) := by
 obtain ⟨hg, hb⟩ := Array.getElem?_eq_some_iff.1 hb
 simp [Go.Sort.grow, Go.Sort.putRow, Go.Sort.mapBlock, Go.Sort.ahead, Array.getElem?_append, hg, Array.getElem_modify, hb, Go.Sort.onCells]
theorem rM (f : Nat) (w : World) (n g : Nat) (os : Array Obj) (d : Array Int) (k : Nat) (o : Obj) (hk : w.heap[k]? = some o) (hne : g ≠ k) :
  (Go.Sort.grow (Go.Sort.putRow (Value.int .i64) (Go.Sort.ahead w n) g f d) os).heap[k]? = some o := by
 obtain ⟨hg, hk⟩ := Array.getElem?_eq_some_iff.1 hk
 simp [Go.Sort.grow, Go.Sort.putRow, Go.Sort.mapBlock, Go.Sort.ahead, Array.getElem?_append, hg, Array.getElem_modify, hk, hne]
theorem oL {G : Gh} {w : World} {v : Nat} {T : TypeId} {l l' d : List Int} {o : OG} {c : Array Value} {fz : Nat × Nat} {os : Array Obj} {n : Nat}
  (hi : Inv G [.arr 1 v T (l.map fun x => [.int .i64 x])] w) (ho : G.own[0]? = some (some o)) (hhas : o.has = true) (hc : w.heap[o.blk]? = some (.cells c T fz))
  (hl : l'.length ≤ l.length) (hd : d.length = l.length) (hp : l' <+: d) :
  Inv G [.arr 1 v T (l'.map fun x => [.int .i64 x])] (Go.Sort.grow (Go.Sort.putRow (Value.int .i64) (Go.Sort.ahead w n) o.blk o.off d.toArray) os) := by
 obtain ⟨o', ho', hver, hsz, _, hlc, hcm, _, hnh, hh⟩ := hi.own 0 _ rfl
 rw [ho] at ho'
 obtain rfl : o = o' := by simpa using ho'
 obtain ⟨c', fz', hc', hfz, hcs, _⟩ := hh hhas
 rw [hc] at hc'
 obtain ⟨rfl, rfl⟩ : c = c' ∧ fz = fz' := by simpa using hc'
 rw [Nat.mul_one] at hcs
 simp only [List.length_map] at hlc
 have hsep := hi.sep 0 o ho hhas
 refine ⟨?_, ?_, hi.HF, by simpa using hi.len, ?_, hi.inj, hi.sep, hi.os, hi.tape, hi.output, ?_⟩
 ·intro b ob h
  exact rM _ _ _ _ _ _ _ _ (hi.hH b ob h) (fun e => by subst e; rw [hsep.1] at h; cases h)
 ·intro b ob h
  exact rM _ _ _ _ _ _ _ _ (hi.hF b ob h) (fun e => by subst e; rw [hsep.2] at h; cases h)
 ·intro b ob h
  match b with
  | 0 =>
   obtain rfl : OB.arr 1 v T (l'.map fun x => [.int .i64 x]) = ob := by simpa using h
   refine ⟨o, ho, hver, hsz, by omega, by simp only [List.length_map]; omega, hcm, ?_, hnh, fun _ => ?_⟩
   ·intro e he; simp only [List.mem_map] at he; obtain ⟨x, _, rfl⟩ := he; rfl
   ·refine ⟨_, fz, uW _ _ _ _ _ _ _ _ _ hc, ?_, ?_, ?_⟩
    ·rcases hfz with h | h
     ·exact .inl h
     ·exact .inr (by simpa [Go.Sort.putCells] using h)
    ·simpa [Go.Sort.putCells, hsz] using hcs
    ·intro i j e x hi1 hj1
     have hil : i < l'.length := by
      rcases Nat.lt_or_ge i l'.length with h | h
      ·exact h
      ·rw [List.getElem?_eq_none (by simpa using h)] at hi1; cases hi1
     have hid : i < d.length := Nat.lt_of_lt_of_le hil hp.length_le
     rw [List.getElem?_map, List.getElem?_eq_getElem hil] at hi1
     obtain rfl : [CV.int .i64 l'[i]] = e := by simpa using hi1
     match j with
     | 0 =>
      obtain rfl : CV.int .i64 l'[i] = x := by simpa using hj1
      refine ⟨.int .i64 d[i], ?_, ?_⟩
      ·rw [show o.off + i * 1 + 0 = o.off + i by omega]
       have := qi o.off c d i
       rw [dif_pos ⟨hid, by omega⟩] at this
       exact this
      ·have : l'[i] = d[i] := hp.getElem hil
       rw [this]; exact .int .i64 _
     | k + 1 => simp at hj1
  | k + 1 => simp at h
 ·have := hi.grow
  simp only [Go.Sort.grow, Array.size_append, Go.Sort.size_putRow, Go.Sort.heap_ahead]
  omega
theorem qj {G : Gh} {w : World} {v : Nat} {T : TypeId} {l : List Int} {o : OG}
  (hi : Inv G [.arr 1 v T (l.map fun x => [.int .i64 x])] w) (ho : G.own[0]? = some (some o)) (hhas : o.has = true) :
  ∃ c fz, w.heap[o.blk]? = some (.cells c T fz) ∧ Go.Sort.Holds (Value.int .i64) w o.blk o.off l.toArray := by
 obtain ⟨o', ho', hver, hsz, _, hlc, hcm, _, hnh, hh⟩ := hi.own 0 _ rfl
 rw [ho] at ho'
 obtain rfl : o = o' := by simpa using ho'
 obtain ⟨c, fz, hc, hfz, hcs, hcell⟩ := hh hhas
 rw [Nat.mul_one] at hcs
 simp only [List.length_map] at hlc
 refine ⟨c, fz, hc, ?_⟩
 have hcell' : ∀ j (h : j < l.length), c[o.off + j]? = some (.int .i64 l[j]) := by
  intro j h
  obtain ⟨x, h1, h2⟩ := hcell j 0 [.int .i64 l[j]] (.int .i64 l[j]) (by simp [h]) (by simp)
  cases h2
  simpa using h1
 intro j hj
 have hj' : j < l.length := by simpa using hj
 have hjc : o.off + j < c.size := by omega
 constructor
 ·have := hcell' j hj'
  simp only [World.cell?, hc]
  simp [this, hj']
 ·simp only [World.frozen?, hc]
  rcases hfz with rfl | hfz
  ·simp
  ·obtain ⟨lo, hi'⟩ := fz
   simp at hfz ⊢
   omega
theorem ud {G : Gh} {w : World} {v : Nat} {T : TypeId} {l : List Int} {vs : List Value}
  (hi : Inv G [.arr 1 v T (l.map fun x => [.int .i64 x])] w) (ha : aO (aU G) [.c (.osl 0 v 0 l.length)] vs) :
  ∃ o a, G.own[0]? = some (some o) ∧ o.ver = v ∧ vs = [.slice a l.length o.cap] ∧ l.length ≤ o.cap ∧ (l ≠ [] → o.has = true ∧ a = some ⟨o.blk, o.off, none⟩) := by
 obtain ⟨o, ho, hver, hsz, _, hlc, hcm, _, hnh, hh⟩ := hi.own 0 _ rfl
 simp only [List.length_map] at hlc
 match vs, ha with
 | [v0], ha =>
  obtain ⟨hv0, _⟩ := ha
  obtain ⟨_, oo, hoo, hsl⟩ := hv0
  rw [ho] at hoo
  obtain rfl : some o = oo := by simpa using hoo
  obtain ⟨hcap, a, rfl, haddr⟩ := (hsl o rfl).2 hver.symm
  refine ⟨o, a, ho, hver, rfl, hlc, fun he => ?_⟩
  have hpos : 0 < l.length := List.length_pos_iff.2 he
  have hhas : o.has = true := by
   cases h : o.has with
   | true => rfl
   | false => have := hnh h; omega
  obtain ⟨a', rfl, ha'⟩ := haddr hhas
  obtain rfl := ha' (by omega)
  exact ⟨hhas, by simp⟩
theorem xD {P : Program} {ρ : Ren} (Ly : Lays.n189 P ρ) {f : FuncId} (hf : ρ.f 189 = f) (hb : ∃ fn, P.funcs[f]? = some fn ∧ fn.body.isSome = true ∧ (fn.name == "runtime.NumGoroutine") = false)
  (T : TypeId) (v : Nat) (l : List Int) (hl : l.length ≤ 140737488355328) :
  da P f [.c (.osl 0 v 0 l.length)] [.arr 1 v T (l.map fun x => [.int .i64 x])] (fun p σ => p = .t [] ∧ σ = [.arr 1 v T ((nc l).map fun x => [.int .i64 x])]) (fun _ _ => False) := by
 subst hf
 refine ⟨hb, fun G w vs hna _ hi ha => ?_⟩
 obtain ⟨o, a, ho, hver, rfl, hlc, hx⟩ := ud hi ha
 by_cases he : l = []
 ·subst he
  refine (Any.slices_Sort_int_none Ly a _ w).mono ?_
  rintro e w' ⟨rfl, rfl⟩
  exact ⟨G, _, .t [], .tuple #[], Gle.refl G, hi, ⟨[], rfl, trivial⟩, .inl ⟨rfl, rfl, by simp [nc]⟩⟩
 ·obtain ⟨hhas, rfl⟩ := hx he
  obtain ⟨c, fz, hc, hH⟩ := qj hi ho hhas
  refine (Any.slices_Sort_int Ly o.blk o.off o.cap l w hH (Array.getElem?_eq_some_iff.1 hc).1 (by omega)).mono ?_
  rintro e w' ⟨rfl, n, os, rfl⟩
  exact ⟨G, _, .t [], .tuple #[], Gle.refl G, oL hi ho hhas hc (Nat.le_of_eq (kF l)) (kF l) (List.prefix_rfl), ⟨[], rfl, trivial⟩, .inl ⟨rfl, rfl, rfl⟩⟩
theorem rN (l : List Int) : (Go.Lib.compact l).length ≤ l.length := by
 simp only [Go.Lib.compact, Go.Lib.compactUpTo, List.length_map]
 exact Nat.le_trans (List.length_filter_le _ _) (by simp)
theorem ue {P : Program} {ρ : Ren} (Ly : Lays2.n20 P ρ) {f : FuncId} (hf : ρ.f 20 = f) (hb : ∃ fn, P.funcs[f]? = some fn ∧ fn.body.isSome = true ∧ (fn.name == "runtime.NumGoroutine") = false)
  (T : TypeId) (v : Nat) (l : List Int) (hl : l.length ≤ 140737488355328) :
  da P f [.c (.osl 0 v 0 l.length)] [.arr 1 v T (l.map fun x => [.int .i64 x])] (fun p σ => p = .c (.osl 0 v 0 (Go.Lib.compact l).length) ∧ σ = [.arr 1 v T ((Go.Lib.compact l).map fun x => [.int .i64 x])]) (fun _ _ => False) := by
 subst hf
 refine ⟨hb, fun G w vs hna _ hi ha => ?_⟩
 obtain ⟨o, a, ho, hver, rfl, hlc, hx⟩ := ud hi ha
 by_cases he : l = []
 ·subst he
  refine (calls_of_every_depth fun D => AnyS.slices_Compact_int_empty_in Ly D a _ w).mono ?_
  rintro e w' ⟨rfl, rfl⟩
  have : Go.Lib.compact ([] : List Int) = [] := List.eq_nil_of_length_eq_zero (Nat.le_zero.1 (rN []))
  rw [this]
  exact ⟨G, _, .c (.osl 0 v 0 0), _, Gle.refl G, hi, ha.1, .inl ⟨rfl, rfl, rfl⟩⟩
 ·obtain ⟨hhas, rfl⟩ := hx he
  obtain ⟨c, fz, hc, hH⟩ := qj hi ho hhas
  refine (calls_of_every_depth fun D => AnyS.slices_Compact_int_in Ly D o.blk o.off o.cap l w hH (by omega) hlc).mono ?_
  rintro e w' ⟨rfl, n, rfl⟩
  have hcl := rN l
  have hg : ∀ (W : World), Go.Sort.grow W #[] = W := fun W => by simp [Go.Sort.grow]
  have := oL (n := n) (os := #[]) hi ho hhas hc hcl (d := Go.Lib.compact l ++ List.replicate (l.length - (Go.Lib.compact l).length) 0) (by simp; omega) (List.prefix_append _ _)
  rw [hg] at this
  refine ⟨G, _, .c (.osl 0 v 0 (Go.Lib.compact l).length), _, Gle.refl G, this, ?_, .inl ⟨rfl, rfl, rfl⟩⟩
  obtain ⟨hv0, _⟩ := ha
  obtain ⟨_, oo, hoo, hsl⟩ := hv0
  rw [ho] at hoo
  obtain rfl : some o = oo := by simpa using hoo
  obtain ⟨hcap, a, hae, haddr⟩ := (hsl o rfl).2 hver.symm
  refine ⟨rfl, some o, ho, fun o' ho' => ?_⟩
  obtain rfl : o = o' := by simpa using ho'
  refine ⟨by omega, fun _ => ⟨by omega, some ⟨o.blk, o.off, none⟩, by simp, fun h => ⟨_, rfl, fun _ => by simp⟩⟩⟩
end Pam
namespace Pam
open Go Go.Shelf Go.Proofs
def uf (l : List Int) (i j : Nat) : List Int := l.take i ++ l.drop j
theorem yH (l : List Int) (i j : Nat) (hij : i ≤ j) (hj : j ≤ l.length) : (uf l i j).length = l.length - (j - i) := by
 unfold uf
 simp only [List.length_append, List.length_take, List.length_drop]
 omega
theorem uX {P : Program} {ρ : Ren} (Ly : Lays2.n23 P ρ) {f : FuncId} (hf : ρ.f 23 = f) (hb : ∃ fn, P.funcs[f]? = some fn ∧ fn.body.isSome = true ∧ (fn.name == "runtime.NumGoroutine") = false)
  (T : TypeId) (v : Nat) (l : List Int) (i j : Nat) (hij : i ≤ j) (hj : j ≤ l.length) (hl : l ≠ []) :
  da P f [.c (.osl 0 v 0 l.length), .c (.int .i64 (i : Int)), .c (.int .i64 (j : Int))] [.arr 1 v T (l.map fun x => [.int .i64 x])]
   (fun p σ => p = .c (.osl 0 v 0 (uf l i j).length) ∧ σ = [.arr 1 v T ((uf l i j).map fun x => [.int .i64 x])]) (fun _ _ => False) := by
 subst hf
 refine ⟨hb, fun G w vs hna _ hi ha => ?_⟩
 match vs, ha with
 | [v0, v1, v2], ha =>
  obtain ⟨ha0, hi1, hj1, _⟩ := ha
  obtain ⟨o, a, ho, hver, hvs, hlc, hx⟩ := ud (vs := [v0]) hi ⟨ha0, trivial⟩
  obtain rfl : v0 = .slice a l.length o.cap := by simpa using hvs
  have e1 : v1 = .int .i64 (i : Int) := cT hi1
  have e2 : v2 = .int .i64 (j : Int) := cT hj1
  subst e1; subst e2
  obtain ⟨hhas, rfl⟩ := hx hl
  obtain ⟨c, fz, hc, hH⟩ := qj hi ho hhas
  obtain ⟨o', ho', _, _, _, _, hcm, _⟩ := hi.own 0 _ rfl
  rw [ho] at ho'
  obtain rfl : o = o' := by simpa using ho'
  refine (Any.slices_Delete_int Ly o.blk o.off o.cap i j l w hH hlc (by have : maxLen = 9223372036854775807 := rfl; omega) hij hj).mono ?_
  rintro e w' ⟨rfl, n, rfl⟩
  have hcl := yH l i j hij hj
  have hg : ∀ (W : World), Go.Sort.grow W #[] = W := fun W => by simp [Go.Sort.grow]
  have := oL (n := n) (os := #[]) hi ho hhas hc (l' := uf l i j) (d := l.take i ++ l.drop j ++ List.replicate (j - i) 0) (by omega) (by simp; omega) (List.prefix_append _ _)
  rw [hg] at this
  refine ⟨G, _, .c (.osl 0 v 0 (uf l i j).length), _, Gle.refl G, this, ?_, .inl ⟨rfl, rfl, rfl⟩⟩
  obtain ⟨_, oo, hoo, hsl⟩ := ha0
  rw [ho] at hoo
  obtain rfl : some o = oo := by simpa using hoo
  obtain ⟨hcap, a, hae, haddr⟩ := (hsl o rfl).2 hver.symm
  refine ⟨rfl, some o, ho, fun o' ho' => ?_⟩
  obtain rfl : o = o' := by simpa using ho'
  refine ⟨by omega, fun _ => ⟨by omega, some ⟨o.blk, o.off, none⟩, by simp [hcl], fun h => ⟨_, rfl, fun _ => by simp⟩⟩⟩
end Pam
namespace Pam
open Go
section
variable {P : Program} {E : Env} {σ : List OB}
theorem uh (k : IntKind) (L : List Int) (n : Nat) (h : n < L.length) : (L.map (CV.int k)).getD n .junk = .int k (L.getD n 0) := by
 simp [List.getD, h]
theorem zS {o : Oper} {T : TypeId} {x i : Operand} {ys : List CV} {k k' : IntKind} {n : Int} (L : List Int) (m : Nat) (ho : o.op = .index T x i) (hx : ev E x = ⟨true, .a ys⟩) (hi : ev E i = ⟨true, .c (.int k' n)⟩)
  (hy : ys = L.map (CV.int k)) (hC : kV P T = true ∧ bw P (P.elem T) = true ∧ P.arrayLen T * P.cellsOf (P.elem T) ≤ L.length ∧ jz P (P.elem T) = false ∧ P.cellsOf (P.elem T) = 1) (hl : P.arrayLen T = m) (hm : L.length = m)
  (h0 : 0 ≤ n) (h1 : n < (m : Int)) : lG P E σ o (.c (.int k (L.getD n.toNat 0))) σ := .quiet fun G a w hs => by
 subst hy
 have h : ∃ C, kv P true T (ev E x) (ev E i) = .ok C (.c ((L.map (CV.int k)).getD n.toNat .junk)) ∧ C := by
  rw [hx, hi]
  refine ⟨_, by unfold kv; rfl, ?_⟩
  exact ⟨fun _ => rfl, fun _ => rfl, hC.1, hC.2.1, by simpa using hC.2.2.1, hC.2.2.2.1, hC.2.2.2.2, fun _ => ⟨h0, by rw [hl]; exact h1⟩⟩
 obtain ⟨C, h, hc⟩ := h
 obtain ⟨r, e1, e2⟩ := te (P := P) (G := G) (w := w) h hc rfl (cP hs x) (cP hs i)
 have : n.toNat < L.length := by omega
 rw [uh k L n.toNat this] at e2
 exact ⟨r, by simp only [execOp, ho]; exact jX e1, e2⟩
end
end Pam
namespace Pam
open Go
def ins : List Int → Int → List Int
 | [], n => [n]
 | x :: xs, n => if x ≥ n then (if x > n then n :: x :: xs else x :: xs) else x :: ins xs n
theorem up (l : List Int) (n y : Int) : y ∈ ins l n ↔ y = n ∨ y ∈ l := by
 induction l with
 | nil => simp [ins]
 | cons x xs ih =>
  unfold ins
  split
  ·split
   ·simp
   ·have : x = n := by omega
    subst this; simp
  ·simp only [List.mem_cons, ih]
   constructor
   ·rintro (h | h | h) <;> simp [h]
   ·rintro (h | h | h) <;> simp [h]
theorem v8 {l : List Int} (h : l.Pairwise (· < ·)) (n : Int) : (ins l n).Pairwise (· < ·) := by
 induction l with
 | nil => simp [ins]
 | cons x xs ih =>
  obtain ⟨h1, h2⟩ := List.pairwise_cons.1 h
  unfold ins
  split
  ·split
   ·refine List.pairwise_cons.2 ⟨?_, h⟩
    intro a ha
    rcases List.mem_cons.1 ha with rfl | ha
    ·omega
    ·have := h1 a ha; omega
   ·exact h
  ·refine List.pairwise_cons.2 ⟨?_, ih h2⟩
   intro a ha
   rcases (up xs n a).1 ha with rfl | ha
   ·omega
   ·exact h1 a ha
theorem qR : ∀ {l l' : List Int}, l.Pairwise (· < ·) → l'.Pairwise (· < ·) → (∀ x, x ∈ l ↔ x ∈ l') → l = l'
 | [], [], _, _, _ => rfl
 | [], b :: l', _, _, h => by have := (h b).2 (by simp); simp at this
 | a :: l, [], _, _, h => by have := (h a).1 (by simp); simp at this
 | a :: l, b :: l', hl, hl', h => by
  obtain ⟨h1, h2⟩ := List.pairwise_cons.1 hl
  obtain ⟨k1, k2⟩ := List.pairwise_cons.1 hl'
  have e : a = b := by
   have ha := (h a).1 (by simp)
   have hb := (h b).2 (by simp)
   rcases List.mem_cons.1 ha with e | ha
   ·exact e
   ·rcases List.mem_cons.1 hb with e | hb
    ·exact e.symm
    ·have := h1 b hb; have := k1 a ha; omega
  subst e
  rw [qR h2 k2 fun x => ?_]
  constructor
  ·intro hx
   rcases List.mem_cons.1 ((h x).1 (by simp [hx])) with rfl | h'
   ·have := h1 x hx; omega
   ·exact h'
  ·intro hx
   rcases List.mem_cons.1 ((h x).2 (by simp [hx])) with rfl | h'
   ·have := k1 x hx; omega
   ·exact h'
theorem xJ (l : List Int) (x : Int) : x ∈ nc l ↔ x ∈ l := by simp [nc, List.mem_mergeSort]
theorem uq (l : List Int) : (nc l).Pairwise (· ≤ ·) := by
 have := List.pairwise_mergeSort (le := fun x y : Int => decide (x ≤ y)) (by intro a b c; simp; omega) (by intro a b; simp; omega) l
 exact this.imp (by simp)
theorem u6 (l : List Int) (x : Int) : x ∈ Go.Lib.compact l ↔ x ∈ l := by
 simp only [Go.Lib.compact, Go.Lib.compactUpTo, List.mem_map, List.mem_filter, List.mem_range]
 constructor
 ·rintro ⟨i, ⟨h1, _⟩, rfl⟩
  simp [h1]
 ·intro hx
  obtain ⟨i, hi, rfl⟩ := List.mem_iff_getElem.1 hx
  have key : ∀ n i (hi : i < l.length), i = n → ∃ j, (j < l.length ∧ Go.Lib.keeps l.toArray j = true) ∧ l.toArray[j]! = l[i] := by
   intro n
   induction n with
   | zero => intro i hi e; subst e; exact ⟨0, ⟨hi, by simp [Go.Lib.keeps]⟩, by simp [hi]⟩
   | succ n ih =>
    intro i hi e
    subst e
    by_cases hk : Go.Lib.keeps l.toArray (n + 1) = true
    ·exact ⟨n + 1, ⟨hi, hk⟩, by simp [hi]⟩
    ·obtain ⟨j, h1, h2⟩ := ih n (by omega) rfl
     refine ⟨j, h1, h2.trans ?_⟩
     have hn : n < l.length := by omega
     simp [Go.Lib.keeps, hi, hn] at hk
     exact hk.symm
  exact key i i hi rfl
theorem rY {l : List Int} (h : l.Pairwise (· ≤ ·)) : (Go.Lib.compact l).Pairwise (· < ·) := by
 simp only [Go.Lib.compact, Go.Lib.compactUpTo, List.pairwise_map]
 have hm : ∀ i j, i ≤ j → (hj : j < l.length) → l.toArray[i]! ≤ l.toArray[j]! := by
  intro i j hij hj
  have hi : i < l.length := by omega
  simp only [List.getElem!_toArray, getElem!_pos l i hi, getElem!_pos l j hj]
  rcases Nat.lt_or_ge i j with h' | h'
  ·exact List.pairwise_iff_getElem.1 h i j hi hj h'
  ·have : i = j := by omega
   subst this; exact Int.le_refl _
 refine List.Pairwise.imp_of_mem ?_ ((List.pairwise_lt_range (n := l.length)).filter _)
 intro i j hi hj hij
 simp only [List.mem_filter, List.mem_range, Go.Lib.keeps, decide_eq_true_eq] at hi hj
 have h1 := hm i (j - 1) (by omega) (by omega)
 have h2 := hm (j - 1) j (by omega) hj.1
 have h3 : l.toArray[j]! ≠ l.toArray[j - 1]! := by
  rcases hj.2 with h' | h'
  ·omega
  ·exact h'
 omega
theorem q8 (l : List Int) : Go.Lib.compact (nc l) = l.foldl ins [] := by
 have key : ∀ (l a : List Int), a.Pairwise (· < ·) → (l.foldl ins a).Pairwise (· < ·) ∧ ∀ x, x ∈ l.foldl ins a ↔ x ∈ a ∨ x ∈ l := by
  intro l
  induction l with
  | nil => intro a ha; simpa using ha
  | cons y l ih =>
   intro a ha
   obtain ⟨h1, h2⟩ := ih (ins a y) (v8 ha y)
   refine ⟨h1, fun x => ?_⟩
   rw [List.foldl_cons, h2 x, up]
   simp only [List.mem_cons]
   constructor
   ·rintro ((h | h) | h) <;> simp [h]
   ·rintro (h | h | h) <;> simp [h]
 obtain ⟨h1, h2⟩ := key l [] List.Pairwise.nil
 refine qR (rY (uq l)) h1 fun x => ?_
 rw [u6, xJ, h2]
 simp
end Pam
namespace Pam
open Go
def zQ (ops : Array Oper) (l : List Oper) (masks : List Nat) (bar prv : List Bool) (rd : List (List Nat)) : Bool :=
  chk ops l masks bar &&
  (l.zipIdx.all fun (x, i) => gD x || (x.looksAt ops).all (fun t => (rd.getD i []).contains t) || l.zipIdx.all fun (_, j) => !(prv.getD j false) || kC masks i j)
def yB (P : Program) (ops : Array Oper) (pv : List Nat) (E : Env) (σ : List OB) (o : Oper) (bar prv : Bool) (rd : List Nat) (ts : TS) : Prop :=
  d6 ops E o.guard = some ts.γ ∧ dv E o.dst ∧
  ((∃ C v, bz P ts.γ E σ o.op = .ok C v ∧ C ∧ (rd.all fun t => wF pv (E.get t).v) = true ∧ ts.e = ⟨ts.γ, v⟩ ∧ ts.σ = σ) ∨
   (ts.γ = true ∧ ∃ C v, bz P ts.γ E σ o.op = .upd C v ts.σ ∧ C ∧ ts.e = ⟨true, v⟩ ∧ (bar = true ∨ Ext σ ts.σ ∨ (prv = true ∧ ja pv σ ts.σ))) ∨
   (∃ C f args r, bz P ts.γ E σ o.op = .call C f args ∧ (ts.γ = true → C ∧ dw P f args r) ∧ args.all PV.noOwn = true ∧ (∀ n, r.ren (dA n []) = r) ∧ ts.e = ⟨ts.γ, r⟩ ∧ ts.σ = σ) ∨
   (ts.γ = false ∧ ts.e = ⟨true, .t []⟩ ∧ ts.σ = σ) ∨
   (ts.γ = true ∧ ∃ C f args p, bz P ts.γ E σ o.op = .call C f args ∧ C ∧ lb P σ f args p ts.σ ∧ ts.e = ⟨true, p⟩ ∧ (bar = true ∨ Ext σ ts.σ ∨ (prv = true ∧ ja pv σ ts.σ))) ∨
   (ts.γ = true ∧ gD o = true ∧ ∃ v, (∀ E', (∀ x ∈ o.op.operands, ev E' x = ev E x) → ∀ G a w, Sim G E' σ a w → tW P G (execOp a.eval o) w v ts.σ) ∧ ts.e = ⟨true, v⟩ ∧ (bar = true ∨ Ext σ ts.σ ∨ (prv = true ∧ ja pv σ ts.σ))))
def vT (P : Program) (ops : Array Oper) (pv : List Nat) : List Oper → List Bool → List Bool → List (List Nat) → Env → List OB → List TS → Prop
  | [], _, _, _, _, _, tr => tr = []
  | o :: l, bs, ps, rd, E, σ, tr => ∃ ts r, tr = ts :: r ∧ yB P ops pv E σ o (bs.headD false) (ps.headD false) (rd.headD []) ts ∧ vT P ops pv l bs.tail ps.tail rd.tail (E.putD o.dst ts.e) ts.σ r
section
variable {P : Program} {ops : Array Oper} {pv : List Nat}
theorem gf.ofP : ∀ {l : List Oper} {bs ps : List Bool} {rd : List (List Nat)} {E : Env} {σ : List OB} {tr : List TS}, vT P ops pv l bs ps rd E σ tr → gf P ops pv l bs ps rd [] E σ tr
  | [], _, _, _, _, _, _, h => h
  | o :: l, _, _, _, _, _, _, ⟨ts, r, h1, ⟨h2, h3, h4⟩, h5⟩ => ⟨ts, r, h1, ⟨h2, h3, .inl ⟨rfl, h4⟩⟩, gf.ofP h5⟩
theorem yC {ops : Array Oper} {l : List Oper} {masks : List Nat} {bs ps : List Bool} {rd : List (List Nat)} (h : zQ ops l masks bs ps rd = true) : vL ops l masks bs ps rd [] = true := by
  unfold zQ chk at h
  unfold vL
  rw [show ld ([] : List Bool) = fun _ o => gD o from by funext i o; exact rF i o]
  exact h
def TRP (P : Program) (ops : Array Oper) (pv : List Nat) (l : List Oper) (bs ps : List Bool) (rd : List (List Nat)) (E : Env) (σ : List OB) (k : Env → List OB → Prop) : Prop :=
  ∃ tr, vT P ops pv l bs ps rd E σ tr ∧ k (df E l tr l.length) (aW σ tr l.length)
def uS (pv : List Nat) : Nat → List OB → List OB → Prop
  | _, [], _ => True
  | i, a :: as_, b :: bs => (pv.contains i = true ∨ a = b) ∧ uS pv (i + 1) as_ bs
  | _, _ :: _, [] => False
theorem uT : ∀ {i : Nat} {σ σ' : List OB}, uS pv i σ σ' → σ.length ≤ σ'.length ∧ ∀ b, b + i ∉ pv → b < σ.length → σ'[b]? = σ[b]?
  | _, [], _, _ => ⟨by simp, fun b _ h => by simp at h⟩
  | i, a :: as_, b :: bs, ⟨h1, h2⟩ => by
    obtain ⟨k1, k2⟩ := uT h2
    refine ⟨by simpa using k1, fun c hc hl => ?_⟩
    cases c with
    | zero =>
      rcases h1 with h | h
      · simp at hc; simp at h; exact (hc h).elim
      · simp [h]
    | succ c => simpa using k2 c (by simpa [Nat.add_assoc, Nat.add_comm 1] using hc) (by simpa using hl)
def nD (P : Program) (ops : Array Oper) (pv : List Nat) (γ : Bool) (C : Prop) (f : FuncId) (args : List PV) (o : Oper) (r : List Oper) (bs ps : List Bool) (rd : List (List Nat)) (E : Env) (σ : List OB) (k : Env → List OB → Prop) : Prop :=
  bz P γ E σ o.op = .call C f args → d6 ops E o.guard = some γ → TRP P ops pv (o :: r) bs ps rd E σ k
def qh (P : Program) (ops : Array Oper) (pv : List Nat) (γ : Bool) (o : Oper) (r : List Oper) (bs ps : List Bool) (rd : List (List Nat)) (E : Env) (σ : List OB) (k : Env → List OB → Prop) (run : Env → List OB → Prop) : R → Prop
  | .ok C v => dv E o.dst ∧ C ∧ ((rd.headD []).all fun t => wF pv (E.get t).v) = true ∧ run (E.putD o.dst ⟨γ, v⟩) σ
  | .upd C v σ' => dv E o.dst ∧ γ = true ∧ C ∧ (bs.headD false = true ∨ lW σ σ' ∨ (ps.headD false = true ∧ uS pv 0 σ σ')) ∧ run (E.putD o.dst ⟨true, v⟩) σ'
  | .call C f args => nD P ops pv γ C f args o r bs ps rd E σ k
  | .bad => False
def jq (P : Program) (ops : Array Oper) (pv : List Nat) : List Oper → List Bool → List Bool → List (List Nat) → Env → List OB → (Env → List OB → Prop) → Prop
  | [], _, _, _, E, σ, k => k E σ
  | o :: r, bs, ps, rd, E, σ, k =>
    match d6 ops E o.guard with
    | none => False
    | some false => dv E o.dst ∧ jq P ops pv r bs.tail ps.tail rd.tail (E.putD o.dst ⟨true, .t []⟩) σ k
    | some true => qh P ops pv true o r bs ps rd E σ k (fun E' σ' => jq P ops pv r bs.tail ps.tail rd.tail E' σ' k) (bz P true E σ o.op)
theorem TRP.cons {o : Oper} {r : List Oper} {bs ps : List Bool} {rd : List (List Nat)} {E : Env} {σ : List OB} {k : Env → List OB → Prop} {ts : TS} (h : yB P ops pv E σ o (bs.headD false) (ps.headD false) (rd.headD []) ts) (ht : TRP P ops pv r bs.tail ps.tail rd.tail (E.putD o.dst ts.e) ts.σ k) : TRP P ops pv (o :: r) bs ps rd E σ k := by
  obtain ⟨tr, h1, h2⟩ := ht
  refine ⟨ts :: tr, ⟨ts, tr, rfl, h, h1⟩, ?_⟩
  simpa [df, aW] using h2
theorem jY : ∀ (l : List Oper) (bs ps : List Bool) (rd : List (List Nat)) (E : Env) (σ : List OB) (k : Env → List OB → Prop), jq P ops pv l bs ps rd E σ k → TRP P ops pv l bs ps rd E σ k
  | [], bs, ps, rd, E, σ, k, h => ⟨[], rfl, by unfold jq at h; simpa [df, aW] using h⟩
  | o :: r, bs, ps, rd, E, σ, k, h => by
    unfold jq at h
    split at h
    · exact h.elim
    · rename_i hγ
      exact TRP.cons (ts := ⟨false, ⟨true, .t []⟩, σ⟩) ⟨hγ, h.1, .inr (.inr (.inr (.inl ⟨rfl, rfl, rfl⟩)))⟩ (jY r _ _ _ _ _ _ h.2)
    · rename_i hγ
      unfold qh at h
      split at h
      · rename_i C v hrun
        obtain ⟨hd, hC, hrd, hr⟩ := h
        exact TRP.cons (ts := ⟨true, ⟨true, v⟩, σ⟩) ⟨hγ, hd, .inl ⟨C, v, hrun, hC, hrd, rfl, rfl⟩⟩ (jY r _ _ _ _ _ _ hr)
      · rename_i C v σ' hrun
        obtain ⟨hd, hg, hC, hb, hr⟩ := h
        refine TRP.cons (ts := ⟨true, ⟨true, v⟩, σ'⟩) ⟨hγ, hd, .inr (.inl ⟨rfl, C, v, hrun, hC, rfl, ?_⟩)⟩ (jY r _ _ _ _ _ _ hr)
        rcases hb with h | h | ⟨h, h'⟩
        · exact .inl h
        · exact .inr (.inl (mF h))
        · exact .inr (.inr ⟨h, by have := uT h'; exact ⟨this.1, fun b hb hl => this.2 b hb hl⟩⟩)
      · rename_i C f args hrun
        exact h hrun hγ
      · exact h.elim
theorem sV {γ : Bool} {C : Prop} {f : FuncId} {args : List PV} {o : Oper} {r : List Oper} {bs ps : List Bool} {rd : List (List Nat)} {E : Env} {σ : List OB} {k : Env → List OB → Prop} {res : PV}
    (hs : γ = true → dw P f args res) (hd : dv E o.dst) (hC : γ = true → C) (hargs : args.all PV.noOwn = true) (hres : ∀ n, res.ren (dA n []) = res)
    (next : jq P ops pv r bs.tail ps.tail rd.tail (E.putD o.dst ⟨γ, res⟩) σ k) : nD P ops pv γ C f args o r bs ps rd E σ k := fun hrun hγ =>
  TRP.cons (ts := ⟨γ, ⟨γ, res⟩, σ⟩) ⟨hγ, hd, .inr (.inr (.inl ⟨C, f, args, res, hrun, fun h => ⟨hC h, hs h⟩, hargs, hres, rfl, rfl⟩))⟩ (jY r _ _ _ _ _ _ next)
theorem uU {C : Prop} {f : FuncId} {args : List PV} {o : Oper} {r : List Oper} {bs ps : List Bool} {rd : List (List Nat)} {E : Env} {σ σ2 : List OB} {k : Env → List OB → Prop} {res : PV}
    (hs : lb P σ f args res σ2) (hd : dv E o.dst) (hC : C) (hb : bs.headD false = true ∨ lW σ σ2)
    (next : jq P ops pv r bs.tail ps.tail rd.tail (E.putD o.dst ⟨true, res⟩) σ2 k) : nD P ops pv true C f args o r bs ps rd E σ k := fun hrun hγ =>
  TRP.cons (ts := ⟨true, ⟨true, res⟩, σ2⟩) ⟨hγ, hd, .inr (.inr (.inr (.inr (.inl ⟨rfl, C, f, args, res, hrun, hC, hs, rfl, hb.imp id fun h => .inl (mF h)⟩))))⟩ (jY r _ _ _ _ _ _ next)
theorem zR {id : Nat} {l : List Oper} {K : Kt} {E : Env} {σ : List OB} (hm : P.follows .mixedOrders = true) (pv masks : List Nat) (bs ps : List Bool) (rd : List (List Nat)) (hc : zQ l.toArray l masks bs ps rd = true)
    (h : TRP P l.toArray pv l bs ps rd E σ (K .normal)) : W P (.region id l.toArray true) K E σ := by
  obtain ⟨tr, ht, hk⟩ := h
  exact wG hm pv masks bs ps rd [] (yC hc) ⟨tr, gf.ofP ht, hk⟩
theorem rf {id : Nat} {l : List Oper} {y : Code} {K : Kt} {E : Env} {σ : List OB} (ms : List Nat) (hm : P.follows .mixedOrders = true) (pv masks : List Nat) (bs ps : List Bool) (rd : List (List Nat)) (hc : zQ l.toArray l masks bs ps rd = true)
    (h : ∀ (k : Env → List OB → Prop), (∀ E σ, W P y K E σ → k E σ) → jq P l.toArray pv l bs ps rd E σ (fun E σ => k (E.forget ms) σ)) : W P (.seq (.region id l.toArray true) y) K E σ :=
  qL (zR hm pv masks bs ps rd hc (by
    obtain ⟨tr, h1, h2⟩ := jY l bs ps rd E σ _ (h (W P y K) fun _ _ h => h)
    exact ⟨tr, h1, lX ms h2⟩))
end
def bAP := And.intro (And.intro (And.intro @jq.eq_1 @jq.eq_2) bL) (And.intro bM (And.intro (And.intro @qh.eq_1 @qh.eq_2) (And.intro @qh.eq_3 @qh.eq_4)))
end Pam
namespace Pam
open Go
section
variable {P : Program} {ops : Array Oper}
theorem bG {l : List Oper} {bs : List Bool} {E : Env} {σ : List OB} {k : Env → List OB → Prop} (h : gY P ops l bs E σ k) : TR P ops l bs E σ k := ip l bs E σ k h
theorem wO : ∀ {l l' : List Oper} {bs bs' : List Bool} {E : Env} {σ : List OB} {k : Env → List OB → Prop}, bs.length = l.length → TR P ops l bs E σ (fun E' σ' => TR P ops l' bs' E' σ' k) → TR P ops (l ++ l') (bs ++ bs') E σ k
 | [], l', bs, bs', E, σ, k, hl, ⟨tr, h1, h2⟩ => by
  have : bs = [] := List.eq_nil_of_length_eq_zero (by simpa using hl)
  subst this
  simp only [ny] at h1
  subst h1
  simpa [df, aW] using h2
 | o :: l, l', bs, bs', E, σ, k, hl, ⟨tr, h1, h2⟩ => by
  obtain ⟨ts, r, rfl, h3, h4⟩ := h1
  match bs, hl with
  | b :: bs, hl =>
   refine TR.cons (bs := b :: bs ++ bs') (ts := ts) ?_ ?_
   ·simpa using h3
   ·exact wO (by simpa using hl) ⟨r, h4, by simpa [df, aW] using h2⟩
theorem iv (n : Nat) {l : List Oper} {bs : List Bool} {E : Env} {σ : List OB} {k : Env → List OB → Prop} (hn : bs.length = l.length) (h : gY P ops (l.take n) (bs.take n) E σ (fun E' σ' => TR P ops (l.drop n) (bs.drop n) E' σ' k)) : TR P ops l bs E σ k := by
 have := wO (by simp [hn]) (ip _ _ _ _ _ h)
 rwa [List.take_append_drop, List.take_append_drop] at this
theorem sU {γ : Bool} {C : Prop} {f : FuncId} {args : List PV} {o : Oper} {r : List Oper} {bs : List Bool} {E : Env} {σ : List OB} {k : Env → List OB → Prop} {res : PV}
  (hs : γ = true → dw P f args res) (hd : dv E o.dst) (hC : γ = true → C) (hargs : args.all PV.noOwn = true) (hres : ∀ n, res.ren (dA n []) = res)
  (next : TR P ops r bs.tail (E.putD o.dst ⟨γ, res⟩) σ k) : kD P ops γ C f args o r bs E σ k := fun hrun hγ =>
 TR.cons (ts := ⟨γ, ⟨γ, res⟩, σ⟩) ⟨hγ, hd, .inr (.inr (.inl ⟨C, f, args, res, hrun, fun h => ⟨hC h, hs h⟩, hargs, hres, rfl, rfl⟩))⟩ next
theorem uR {C : Prop} {f : FuncId} {args : List PV} {o : Oper} {r : List Oper} {bs : List Bool} {E : Env} {σ σ2 : List OB} {k : Env → List OB → Prop} {res : PV}
  (hs : lb P σ f args res σ2) (hd : dv E o.dst) (hC : C) (hb : bs.headD false = true ∨ lW σ σ2)
  (next : TR P ops r bs.tail (E.putD o.dst ⟨true, res⟩) σ2 k) : kD P ops true C f args o r bs E σ k := fun hrun hγ =>
 TR.cons (ts := ⟨true, ⟨true, res⟩, σ2⟩) ⟨hγ, hd, .inr (.inr (.inr (.inr (.inl ⟨rfl, C, f, args, res, hrun, hC, hs, rfl, hb.imp id mF⟩))))⟩ next
theorem wP {id : Nat} {l : List Oper} {K : Kt} {E : Env} {σ : List OB} (hm : P.follows .mixedOrders = true) (masks : List Nat) (bs : List Bool) (hc : chk l.toArray l masks bs = true)
  (h : ∀ (k : Env → List OB → Prop), (∀ E σ, K .normal E σ → k E σ) → TR P l.toArray l bs E σ k) : W P (.region id l.toArray true) K E σ :=
 t6 hm masks bs hc (h (K .normal) fun _ _ h => h)
theorem kE {id : Nat} {l : List Oper} {y : Code} {K : Kt} {E : Env} {σ : List OB} (ms : List Nat) (hm : P.follows .mixedOrders = true) (masks : List Nat) (bs : List Bool) (hc : chk l.toArray l masks bs = true)
  (h : ∀ (k : Env → List OB → Prop), (∀ E σ, W P y K E σ → k E σ) → TR P l.toArray l bs E σ (fun E σ => k (E.forget ms) σ)) : W P (.seq (.region id l.toArray true) y) K E σ :=
 qL (t6 hm masks bs hc (by
  obtain ⟨tr, h1, h2⟩ := h (W P y K) fun _ _ h => h
  exact ⟨tr, h1, lX ms h2⟩))
end
end Pam
namespace Pam
open Go
section
variable {P : Program} {ops : Array Oper}
theorem Ba {o : Oper} {l : List Oper} {bs : List Bool} {E : Env} {σ σ' : List OB} {k : Env → List OB → Prop} {v : PV} (hl : gD o = true)
  (hx : ∀ E', (∀ x ∈ o.op.operands, ev E' x = ev E x) → lG P E' σ o v σ') (hg : d6 ops E o.guard = some true) (hd : dv E o.dst) (hb : bs.headD false = true ∨ lW σ σ')
  (next : TR P ops l bs.tail (E.putD o.dst ⟨true, v⟩) σ' k) : TR P ops (o :: l) bs E σ k :=
 TR.cons (ts := ⟨true, ⟨true, v⟩, σ'⟩) ⟨hg, hd, .inr (.inr (.inr (.inr (.inr ⟨rfl, hl, v, hx, rfl, hb.imp id mF⟩))))⟩ next
variable {pv : List Nat}
end
end Pam
namespace Pam
open Go
section
variable {P : Program} {ops : Array Oper} {pv : List Nat}
theorem TRQ.cons {o : Oper} {r : List Oper} {bs ps : List Bool} {rd : List (List Nat)} {lt : List Bool} {E : Env} {σ : List OB} {k : Env → List OB → Prop} {ts : TS} (h : vM P ops pv E σ o (bs.headD false) (ps.headD false) (rd.headD []) (lt.headD false) ts) (ht : TRQ P ops pv r bs.tail ps.tail rd.tail lt.tail (E.putD o.dst ts.e) ts.σ k) : TRQ P ops pv (o :: r) bs ps rd lt E σ k := by
 obtain ⟨tr, h1, h2⟩ := ht
 refine ⟨ts :: tr, ⟨ts, tr, rfl, h, h1⟩, ?_⟩
 simpa [df, aW] using h2
theorem ja.set {pv : List Nat} {σ : List OB} {b : Nat} {ob : OB} (h : pv.contains b = true) : ja pv σ (σ.set b ob) :=
 ⟨by simp, fun c hc _ => by
  have : b ≠ c := fun e => by subst e; exact hc (by simpa using h)
  rw [List.getElem?_set_ne this]⟩
end
end Pam
namespace Pam
open Go
section
variable {P : Program} {ops : Array Oper}
end
end Pam
namespace Pam
open Go
section
variable {P : Program} {ops : Array Oper} {pv : List Nat} {E E' : Env} {σ σ' σ2 : List OB} {k : Env → List OB → Prop} {kp : PV → Env → List OB → Prop}
theorem kr {rs : List ResultVar} {n : Nat} {post pp : PV → List OB → Prop} (N : Nat)
  (h : match ix P E σ rs with | some (C, ps) => C ∧ ps.all PV.isV = true ∧ (lY (σ.take N) σ ∧ n ≤ (σ.take N).length ∧ bn (σ.take N).length (σ.take N) ∧ (it ps).underP (σ.take N).length ∧ post (it ps) (σ.take N)) | none => False := by
   simp only [List.take_succ_cons, List.take_zero, List.take_nil, bF, bT, tab, bX, Sum.elim_inl, Sum.elim_inr, reduceIte, ↓reduceIte, reduceCtorEq, Int.reduceToNat, Nat.reduceDiv, Nat.reduceMod, Nat.reduceLT, Nat.reduceLeDiff, Nat.reduceAdd, Nat.reduceSub, Nat.reduceMul, Nat.reduceEqDiff, Nat.reduceBEq, Nat.reduceBNe, Nat.reduceGT] <;> first | done | rfl | (and_intros <;> first | rfl | omega | (simp; done) | (simp [eK, eB, eS, eL]; done) | (simp [lit, bX, eK, eB, eS, eL]; done) | (simp [CV.under, bI, CV.frO]; done))) : nt P rs (xu n post) pp .ret E σ := xv (σ.take N) h
theorem kn {rs : List ResultVar} {n : Nat} {post pp : PV → List OB → Prop} (N : Nat)
  (h : match ix P E σ rs with | some (C, ps) => C ∧ ps.all PV.isV = true ∧ (lY (σ.take N) σ ∧ n ≤ (σ.take N).length ∧ bn (σ.take N).length (σ.take N) ∧ (it ps).underP (σ.take N).length ∧ post (it ps) (σ.take N)) | none => False := by
   simp only [List.take_succ_cons, List.take_zero, List.take_nil, bF, bT, tab, bX, Sum.elim_inl, Sum.elim_inr, reduceIte, ↓reduceIte, reduceCtorEq, Int.reduceToNat, Nat.reduceDiv, Nat.reduceMod, Nat.reduceLT, Nat.reduceLeDiff, Nat.reduceAdd, Nat.reduceSub, Nat.reduceMul, Nat.reduceEqDiff, Nat.reduceBEq, Nat.reduceBNe, Nat.reduceGT] <;> first | done | rfl | (and_intros <;> first | rfl | omega | (simp; done) | (simp [eK, eB, eS, eL]; done) | (simp [lit, bX, eK, eB, eS, eL]; done) | (simp [CV.under, bI, CV.frO]; done))) : nt P rs (xu n post) pp .normal E σ := xw (σ.take N) h
theorem sp {p q : Prop} (hq : q) (hp : p := by first | omega | assumption | decide | exact fG fun _ => rfl | (intro _; omega) | rfl | exact fun e => absurd (List.map_eq_nil_iff.1 e) (by assumption) | (and_intros <;> first | omega | assumption | decide | exact fG fun _ => rfl) | (refine .inl ?_; simp only [lW]; and_intros <;> first | rfl | trivial) | (refine .inr (.inl ?_); simp only [lW]; and_intros <;> first | rfl | trivial) | (refine .inr ?_; simp only [uS]; and_intros <;> first | exact .inl rfl | exact .inr rfl | trivial) | (refine .inr (.inr ⟨rfl, ?_⟩); simp only [uS]; and_intros <;> first | exact .inl rfl | exact .inr rfl | trivial) | exact .inl rfl) : p ∧ q := ⟨hp, hq⟩
theorem gp {p q : Prop} (hq : q) (h : Bx q → p := by
  intro hq
  simp only [bAP, bT, tab, bX, reduceIte, ↓reduceIte, reduceCtorEq, Int.reduceToNat, Nat.reduceDiv, Nat.reduceMod, Nat.reduceLT, Nat.reduceLeDiff, Nat.reduceAdd, Nat.reduceSub, Nat.reduceMul, Nat.reduceEqDiff, Nat.reduceBEq, Nat.reduceBNe, Nat.reduceGT, List.replicate, List.foldr]
  repeat refine sp ?_
  exact hq.1) : p := h ⟨hq⟩
theorem gpx {p q F : Prop} (fx : F) (hq : q) (h : F → Bx q → p := by
  intro fx hq
  simp only [bAP, bT, tab, bX, reduceIte, ↓reduceIte, reduceCtorEq, Int.reduceToNat, Nat.reduceDiv, Nat.reduceMod, Nat.reduceLT, Nat.reduceLeDiff, Nat.reduceAdd, Nat.reduceSub, Nat.reduceMul, Nat.reduceEqDiff, Nat.reduceBEq, Nat.reduceBNe, Nat.reduceGT, List.replicate, List.foldr, fx]
  repeat refine sp ?_
  exact hq.1) : p := h fx ⟨hq⟩
theorem gt {p q : Prop} (hq : q) (h : Bx q → p := by
  intro hq
  simp only [bR, bT, tab, bX, reduceIte, ↓reduceIte, reduceCtorEq, Int.reduceToNat, Nat.reduceDiv, Nat.reduceMod, Nat.reduceLT, Nat.reduceLeDiff, Nat.reduceAdd, Nat.reduceSub, Nat.reduceMul, Nat.reduceEqDiff, Nat.reduceBEq, Nat.reduceBNe, Nat.reduceGT, bZ]
  repeat refine sd ?_
  exact hq.1) : p := h ⟨hq⟩
theorem gtx {p q F : Prop} (fx : F) (hq : q) (h : F → Bx q → p := by
  intro fx hq
  simp only [bR, bT, tab, bX, reduceIte, ↓reduceIte, reduceCtorEq, Int.reduceToNat, Nat.reduceDiv, Nat.reduceMod, Nat.reduceLT, Nat.reduceLeDiff, Nat.reduceAdd, Nat.reduceSub, Nat.reduceMul, Nat.reduceEqDiff, Nat.reduceBEq, Nat.reduceBNe, Nat.reduceGT, bZ, fx]
  repeat refine sd ?_
  exact hq.1) : p := h fx ⟨hq⟩
theorem la {p : Prop} (h : p := by first | (simp only [bS, bX, reduceIte, ↓reduceIte, reduceCtorEq, Int.reduceToNat, Nat.reduceDiv, Nat.reduceMod, Nat.reduceLT, Nat.reduceLeDiff, Nat.reduceAdd, Nat.reduceSub, Nat.reduceMul, Nat.reduceEqDiff, Nat.reduceBEq, Nat.reduceBNe, Nat.reduceGT] <;> first | done | (and_intros <;> first | rfl | (simp; done) | omega | (simp [lit, bX, eK, eB, eS, eL]; done) | (simp only [mH, List.length_cons, List.length_nil, List.length_append, List.length_set, List.length_replicate, List.length_map, List.length_take, List.length_drop]; omega))) | (simp only [bS, bX, reduceIte, ↓reduceIte, reduceCtorEq, Int.reduceToNat, Nat.reduceDiv, Nat.reduceMod, Nat.reduceLT, Nat.reduceLeDiff, Nat.reduceAdd, Nat.reduceSub, Nat.reduceMul, Nat.reduceEqDiff, Nat.reduceBEq, Nat.reduceBNe, Nat.reduceGT, *] <;> first | done | (and_intros <;> first | rfl | (simp; done) | omega | (simp [lit, bX, eK, eB, eS, eL]; done) | (simp only [mH, List.length_cons, List.length_nil, List.length_append, List.length_set, List.length_replicate, List.length_map, List.length_take, List.length_drop]; omega)))) : p := h
theorem ct {f : FuncId} {args : List PV} {p : PV} (ρ : List Nat) {args' : List PV} {σc : List OB} {post pp : PV → List OB → Prop} (hs : da P f args' σc post pp)
  (h1 : ρ.Nodup := by simp) (h2 : ∀ b ∈ ρ, b < σ.length := by simp) (h3 : args = args'.map (PV.ren (dA σ.length ρ)) := by exact rfl) (h4 : ρ.map (fun b => σ[b]?) = σc.map (fun ob => some (ob.ren (dA σ.length ρ))) := by exact rfl)
  (h5 : cU ρ.length args' := by first | trivial | (simp [bX, eK, eB, eS, eL, jJ, cU, PV.under, CV.under, bn, OB.under, bI]; done)) (h6 : bn ρ.length σc := by first | trivial | (simp [bX, eK, eB, eS, eL, jJ, cU, PV.under, CV.under, bn, OB.under, bI]; done))
  (h7 : ∀ q τ, post q τ → ρ.length ≤ τ.length → q.ren (dA σ.length ρ) = p ∧ de σ ρ (τ.map (OB.ren (dA σ.length ρ))) = σ2 := by intro q τ hq _; obtain ⟨rfl, rfl⟩ := hq; exact ⟨rfl, rfl⟩) (h8 : ∀ q τ, pp q τ → False := by exact fun _ _ h => h.elim) : lb P σ f args p σ2 := ⟨args', σc, post, pp, ρ, hs, h1, h2, h3, h4, h5, h6, h7, h8⟩
theorem ca {C : Prop} {f : FuncId} {args : List PV} {o : Oper} {r : List Oper} {bs : List Bool} {res : PV} {ops : Array Oper} (hs : lb P σ f args res σ2) (next : gY P ops r bs.tail (E.putD o.dst ⟨true, res⟩) σ2 k)
  (hd : dv E o.dst := by first | trivial | exact iu rfl) (hC : C := by first | trivial | (intro _; first | trivial | simp [need]) | simp [need]) (hb : bs.headD false = true ∨ lW σ σ2 := by first | exact .inl rfl | exact .inr (by simp only [lW]; and_intros <;> first | rfl | trivial)) : kD P ops true C f args o r bs E σ k := vP hs hd hC hb next
theorem cat {C : Prop} {f : FuncId} {args : List PV} {o : Oper} {r : List Oper} {bs : List Bool} {res : PV} {ops : Array Oper} (hs : lb P σ f args res σ2) (next : TR P ops r bs.tail (E.putD o.dst ⟨true, res⟩) σ2 k)
  (hd : dv E o.dst := by first | trivial | exact iu rfl) (hC : C := by first | trivial | (intro _; first | trivial | simp [need]) | simp [need]) (hb : bs.headD false = true ∨ lW σ σ2 := by first | exact .inl rfl | exact .inr (by simp only [lW]; and_intros <;> first | rfl | trivial)) : kD P ops true C f args o r bs E σ k := uR hs hd hC hb next
theorem cap {C : Prop} {f : FuncId} {args : List PV} {o : Oper} {r : List Oper} {bs ps : List Bool} {rd : List (List Nat)} {res : PV} {ops : Array Oper} (hs : lb P σ f args res σ2) (next : jq P ops pv r bs.tail ps.tail rd.tail (E.putD o.dst ⟨true, res⟩) σ2 k)
  (hd : dv E o.dst := by first | trivial | exact iu rfl) (hC : C := by first | trivial | (intro _; first | trivial | simp [need]) | simp [need]) (hb : bs.headD false = true ∨ lW σ σ2 := by first | exact .inl rfl | exact .inr (by simp only [lW]; and_intros <;> first | rfl | trivial)) : nD P ops pv true C f args o r bs ps rd E σ k := uU hs hd hC hb next
theorem pat {γ : Bool} {C : Prop} {f : FuncId} {args : List PV} {o : Oper} {r : List Oper} {bs : List Bool} {res : PV} (hs : γ = true → dw P f args res) (next : TR P ops r bs.tail (E.putD o.dst ⟨γ, res⟩) σ k)
  (hd : dv E o.dst := by first | trivial | exact iu rfl) (hC : γ = true → C := by first | trivial | (intro _; first | trivial | simp [need]) | simp [need]) (hargs : args.all PV.noOwn = true := by exact rfl) (hres : ∀ n, res.ren (dA n []) = res := by exact fun _ => rfl) : kD P ops γ C f args o r bs E σ k := sU hs hd hC hargs hres next
theorem pap {γ : Bool} {C : Prop} {f : FuncId} {args : List PV} {o : Oper} {r : List Oper} {bs ps : List Bool} {rd : List (List Nat)} {res : PV} (hs : γ = true → dw P f args res) (next : jq P ops pv r bs.tail ps.tail rd.tail (E.putD o.dst ⟨γ, res⟩) σ k)
  (hd : dv E o.dst := by first | trivial | exact iu rfl) (hC : γ = true → C := by first | trivial | (intro _; first | trivial | simp [need]) | simp [need]) (hargs : args.all PV.noOwn = true := by exact rfl) (hres : ∀ n, res.ren (dA n []) = res := by exact fun _ => rfl) : nD P ops pv γ C f args o r bs ps rd E σ k := sV hs hd hC hargs hres next
end
end Pam
namespace Pam
open Go
section
variable {P : Program} {E : Env} {σ : List OB}
def mII (p : Int × Int) : Lit × CV := (.int .i64 p.1, .int .i64 p.2)
def mI (P : Program) (t k e : TypeId) : Bool := (match P.underlying t with | some (.map k' e') => k' == k && e' == e | _ => false) && (match P.underlying k with | some (.int .i64) => true | _ => false)
theorem rJ {t k e : TypeId} (h : mI P t k e = true) : P.underlying t = some (.map k e) ∧ P.underlying k = some (.int .i64) := by
 unfold mI at h
 rw [Bool.and_eq_true] at h
 obtain ⟨h1, h2⟩ := h
 constructor
 ·split at h1
  ·rename_i k' e' hu
   simp only [Bool.and_eq_true, beq_iff_eq] at h1
   rw [hu, h1.1, h1.2]
  ·cases h1
 ·split at h2
  ·assumption
  ·cases h2
theorem B4 {n : Int} (h : -9223372036854775808 ≤ n ∧ n ≤ 9223372036854775807) : (Lit.int .i64 n).wf = true := by
 have e1 : IntKind.i64.min = -9223372036854775808 := by decide
 have e2 : IntKind.i64.max = 9223372036854775807 := by decide
 simp [Lit.wf, e1, e2, h.1, h.2]
theorem xx {o : Oper} {t k e : TypeId} (ho : o.op = .makeMap t none) (ht : mI P t k e = true) : lG P E σ o (.c (.optr σ.length 0)) (σ ++ [.mp P k (([] : List (Int × Int)).map mII)]) := fun G a w hs => by
 have hi := hs.inv
 have hle : bx G.own (G.own ++ [some ⟨w.heap.size, 1, 0, 0, true, 0⟩]) := bx.append _ _
 have hlast : (G.own ++ [some (⟨w.heap.size, 1, 0, 0, true, 0⟩ : OG)])[σ.length]? = some (some ⟨w.heap.size, 1, 0, 0, true, 0⟩) := by rw [← hi.len]; simp
 refine ⟨_, .map (some w.heap.size), w.alloc (.map #[] 0), { G with own := G.own ++ [some ⟨w.heap.size, 1, 0, 0, true, 0⟩] }, ?_, .inl rfl, ⟨fun _ _ h => h, rfl, rfl, rfl⟩, hle, ?_, ?_⟩
 ·simp only [execOp, ho]
  rfl
 ·refine hi.push (.mp P k []) _ (by simp) (fun b hb => heap_alloc_old w _ hb) (fun _ => rfl) rfl rfl rfl ?_
  exact ⟨_, hlast, rfl, rfl, rfl, .map [], World.ownsMap_made w P k _, fun kl => by simp [lk, DataW.atKey]⟩
 ·exact ⟨rfl, _, hlast, fun o e _ => by simp only [sJ] at e; subst e; rfl⟩
theorem wN {G : Gh} {w : World} {b : Nat} {k : TypeId} {m : List (Lit × CV)} {v : Value} (hi : Inv G σ w) (hσ : σ[b]? = some (.mp P k m)) (hr : aU G (.c (.optr b 0)) v) : ∃ o, G.own[b]? = some (some o) ∧ o.has = true ∧ o.ver = 0 ∧ o.sz = 1 ∧ ya G.H w P k m o.blk ∧ v = .map (some o.blk) := by
 obtain ⟨o, h1, h2, h3, h4, h5⟩ := hi.own b _ hσ
 obtain ⟨_, oo, q1, q2⟩ := hr
 rw [h1] at q1
 simp only [sJ] at q1
 exact ⟨o, h1, h2, h3, h4, h5, (q2 o q1.symm h3).trans (iN (by omega))⟩
end
end Pam
namespace Pam
open Go
def nN {α : Type} (s : Nat) (e : α → List CV) : List α → CV
 | [] => .nils
 | a :: l => .tree s ((a :: l).map e)
def eN {α : Type} (s : Nat) (e : α → List CV) (o : List α) : List CV := [nN s e o]
theorem B5 {α : Type} {l : List α} [Decidable (l = [])] (h : decide (l = []) = true) (s : Nat) (e : α → List CV) : nN s e l = .nils := by rw [of_decide_eq_true h]; rfl
theorem B6 {α : Type} {l : List α} (h : l ≠ []) (s : Nat) (e : α → List CV) : nN s e l = .tree s (l.map e) := by cases l with | nil => exact absurd rfl h | cons a l => rfl
theorem B7 {α : Type} {l : List α} [Decidable (l = [])] (h : decide (l = []) = false) (s : Nat) (e : α → List CV) : nN s e l = .tree s (l.map e) := B6 (of_decide_eq_false h) s e
section
variable {P : Program} {E : Env} {σ σ' : List OB}
theorem Bb {α : Type} {H : Nat → Option Obj} {s : Nat} {e : α → List CV} {x : List α} {v : Value} (h : a8 H (nN s e x) v) : a8 H (.tree s (x.map e)) v := by
 cases x with
 | nil => exact uP _ h
 | cons a l => exact h
theorem xy {α : Type} (b : Nat) {s ver k : Nat} {T : TypeId} {e : α → List CV} {l : List (List α)} (hσ : σ[b]? = some (.arr s ver T (l.map (eN k e)))) : gF E σ E (σ.set b (.arr s ver T (l.map (eL k e)))) := by
 intro G a w hs'
 refine ⟨G, Gle.refl G, ?_, hs'.defers, hs'.size, hs'.na, hs'.slot⟩
 have hi := hs'.inv
 have hlt : b < σ.length := (List.getElem?_eq_some_iff.1 hσ).1
 refine ⟨hi.hH, hi.hF, hi.HF, by simpa using hi.len, fun q ob hk => ?_, hi.inj, hi.sep, hi.os, hi.tape, hi.output, hi.grow⟩
 by_cases hkb : q = b
 ·subst hkb
  rw [List.getElem?_set_self hlt] at hk
  simp only [sJ] at hk; subst hk
  obtain ⟨o, g1, g2, g3, g4, g5, g6, g7, g8, g9⟩ := hi.own q _ hσ
  refine ⟨o, g1, g2, g3, g4, by simpa using g5, by simpa using g6, fun y hy => ?_, fun h => ?_, fun hh => ?_⟩
  ·obtain ⟨x, hx, rfl⟩ := List.mem_map.1 hy
   have := g7 (eN k e x) (List.mem_map.2 ⟨x, hx, rfl⟩)
   simpa [eN, eL] using this
  ·simpa using g8 h
  ·obtain ⟨c, fz, r1, r2, r3, r4⟩ := g9 hh
   refine ⟨c, fz, r1, r2, by simpa using r3, fun i j y x hy hx => ?_⟩
   rw [List.getElem?_map] at hy
   cases hz : l[i]? with
   | none => rw [hz] at hy; cases hy
   | some z =>
    rw [hz] at hy
    simp only [Option.map_some, sJ] at hy
    subst hy
    cases j with
    | zero =>
     simp only [eL, List.getElem?_cons_zero, sJ] at hx
     subst hx
     obtain ⟨v, q1, q2⟩ := r4 i 0 [nN k e z] (nN k e z) (by rw [List.getElem?_map, hz]; rfl) rfl
     exact ⟨v, q1, Bb q2⟩
    | succ j => simp [eL] at hx
 ·rw [List.getElem?_set_ne (Ne.symm hkb)] at hk
  exact hi.own q ob hk
def mgL : List (Int × List Int) → Int → Option (List Int)
 | [], _ => none
 | (a, c) :: r, n => if a = n then some c else mgL r n
def mIL (p : Int × List Int) : Lit × CV := (.int .i64 p.1, nN 1 (eK .i64) p.2)
theorem yD : ∀ (M : List (Int × List Int)) (n : Int), lk (M.map mIL) (.int .i64 n) = (mgL M n).map (nN 1 (eK .i64))
 | [], n => rfl
 | (a, c) :: r, n => by
  rw [List.map_cons]
  unfold lk mgL mIL
  simp only [Lit.int.injEq, true_and]
  by_cases e : a = n
  ·rw [iP e, iP e]; rfl
  ·rw [iN e, iN e, ← yD r n]; rfl
theorem vU {o : Oper} {t k e : TypeId} (ho : o.op = .makeMap t none) (ht : mI P t k e = true) : lG P E σ o (.c (.optr σ.length 0)) (σ ++ [.mp P k (([] : List (Int × List Int)).map mIL)]) := xx ho ht
theorem xz {o : Oper} {t k e : TypeId} {m x : Operand} {M : List (Int × List Int)} {b : Nat} {n : Int} (ho : o.op = .lookup t m x false) (hm : ev E m = ⟨true, .c (.optr b 0)⟩) (hx : ev E x = ⟨true, .c (.int .i64 n)⟩)
  (hσ : σ[b]? = some (.mp P k (M.map mIL))) (ht : mI P t k e = true) (hz : (P.info? e).map (·.zero) = some (some (.slice none 0 0))) (hn : -9223372036854775808 ≤ n ∧ n ≤ 9223372036854775807) :
  lG P E σ o (.c (nN 1 (eK .i64) ((mgL M n).getD []))) σ := .quiet fun G a w hs => by
 obtain ⟨ht1, hk⟩ := rJ ht
 obtain ⟨og, g1, g2, g3, g4, ⟨D, ⟨es, clock, hb, F, hsz, hD⟩, hlk⟩, hv⟩ := wN hs.inv hσ (pA hs hm)
 have ex := cT (pA hs hx)
 have hz' : (zeroValue e).run P w = .ok (.slice none 0 0) w := by
  cases hi : P.info? e with
  | none => rw [hi] at hz; cases hz
  | some q =>
   rw [hi] at hz
   simp only [Option.map_some, sJ] at hz
   exact io hi hz
 have hkey := Maps.keyOf_int_mk hk (B4 hn)
 have hl := hlk (.int .i64 n)
 rw [yD] at hl
 have fin : ∀ (val : Value), (Instr.lookup t (.map (some og.blk)) (.int .i64 n) false).run P w = .ok val w → aU G (.c (nN 1 (eK .i64) ((mgL M n).getD []))) val →
   ∃ vv, (execOp a.eval o).run P w = .ok (.value vv) w ∧ aU G (.c (nN 1 (eK .i64) ((mgL M n).getD []))) vv := by
  intro val hrun hr
  refine ⟨val, ?_, hr⟩
  simp only [execOp, ho, hv, ex]
  exact jX hrun
 rcases Maps.fit_look false (Maps.int_keyed hk) ht1 hz' hb F hkey with ⟨hrun, _, hat⟩ | ⟨e0, y, _, _, hrun, hRv, hat, _⟩
 ·cases hg : mgL M n with
  | none => rw [← hg]; exact fin _ hrun (by rw [hg]; exact a8.nils)
  | some c =>
   rw [hg] at hl
   obtain ⟨v, h1, _⟩ := hl
   have e1 := h1 (.held (.bool true))
   have e2 := h1 (.held (.bool false))
   rw [hD, hat] at e1 e2
   rw [← e1] at e2
   simp at e2
 ·simp only [sJ] at hRv
  cases hg : mgL M n with
  | none =>
   rw [hg] at hl
   have e1 := hl (.lit (.bool true))
   rw [hD, hat, ← hRv] at e1
   cases e1
  | some c =>
   rw [hg] at hl
   obtain ⟨v, h1, h2⟩ := hl
   have e1 := h1 (.lit (.bool true))
   rw [hD, hat, ← hRv] at e1
   simp only [DataW.held.injEq] at e1
   rw [← hg]
   refine fin _ hrun ?_
   rw [hg]
   simp only [Bool.false_eq_true, if_false]
   rw [e1]
   exact a8.rep h2
theorem yE {o : Oper} {t k e : TypeId} {m x y : Operand} {M : List (Int × List Int)} {b : Nat} {n : Int} {c : List Int} (ho : o.op = .mapUpdate t m x y) (hm : ev E m = ⟨true, .c (.optr b 0)⟩) (hx : ev E x = ⟨true, .c (.int .i64 n)⟩) (hy : ev E y = ⟨true, .c (.tree 1 (c.map (eK .i64)))⟩)
  (hσ : σ[b]? = some (.mp P k (M.map mIL))) (ht : mI P t k e = true) (hn : -9223372036854775808 ≤ n ∧ n ≤ 9223372036854775807) (hl : M.length < 1000000) (hc : c ≠ []) :
  lG P E σ o .x (σ.set b (.mp P k (((n, c) :: M).map mIL))) := fun G a w hs => by
 obtain ⟨ht1, hk⟩ := rJ ht
 have hi := hs.inv
 obtain ⟨og, g1, g2, g3, g4, ⟨D, hown, hlk⟩, hv⟩ := wN hi hσ (pA hs hm)
 have ex := cT (pA hs hx)
 have ey := pA hs hy
 have hkey := Maps.keyOf_int_mk hk (B4 hn)
 have K := Maps.int_keyed hk
 have hDm : Maps.IsMap D := by obtain ⟨es, clock, _, _, _, hD⟩ := hown; exact ⟨_, hD⟩
 obtain ⟨w', hrun, hown', hg⟩ := hown.update (val := a.eval y) (d := .held (a.eval y)) (ps := []) K ht1 (by simp [maxLen]; omega) hkey rfl
 have hG : ({ G with own := G.own.set b (some og) } : Gh) = G := by
  have : G.own.set b (some og) = G.own := by
   apply List.ext_getElem?
   intro k
   by_cases e : b = k
   ·subst e; rw [g1]; simp [(List.getElem?_eq_some_iff.1 g1).1]
   ·rw [List.getElem?_set_ne e]
  cases G; simp_all
 refine ⟨.skip, undef, w', G, ?_, .inr ⟨rfl, rfl⟩, lN.refl G, bx.refl _, ?_, trivial⟩
 ·simp only [execOp, ho, hv, ex, Sem.run_bind, hrun, Result.andThen_ok, Sem.run_pure]
 ·have key := hi.change (w' := w') b (.mp P k (((n, c) :: M).map mIL)) og og g1 (.inl rfl) hg.size (fun q hq hne => hg.block q hq (fun e => hne g2 (by simpa using e))) (fun hh' => .inl ⟨rfl, hh'⟩) hg.os hg.tape hg.output (by
   rw [hG]
   refine ⟨og, g1, g2, g3, g4, D.put (.int .i64 n) (.held (a.eval y)), by simpa using hown', fun kl => ?_⟩
   rw [List.map_cons]
   unfold lk mIL
   simp only
   by_cases ek : Lit.int .i64 n = kl
   ·rw [iP ek, ← ek]
    exact ⟨a.eval y, fun z => Maps.atKey_put_same hDm (K.key hkey) _ z, by rw [B6 hc]; exact ey⟩
   ·rw [iN ek]
    have := hlk kl
    simp only [Maps.atKey_put_other (fun e => ek e.symm)]
    exact this)
  rw [hG] at key
  exact key
theorem xA {o : Oper} {t k e : TypeId} {m x y : Operand} {M : List (Int × List Int)} {b : Nat} {n : Int} {c : List Int} (ho : o.op = .mapUpdate t m x y) (hm : ev E m = ⟨true, .c (.optr b 0)⟩) (hx : ev E x = ⟨true, .c (.int .i64 n)⟩) (hy : ev E y = ⟨true, .c (.tree 1 (c.map (eK .i64)))⟩)
  (hσ : σ[b]? = some (.mp P k (M.map mIL))) (ht : mI P t k e = true) (hn : -9223372036854775808 ≤ n ∧ n ≤ 9223372036854775807) (hl : M.length < 1000000) (hc : c ≠ []) :
  ∀ E', (∀ z ∈ o.op.operands, ev E' z = ev E z) → lG P E' σ o .x (σ.set b (.mp P k (((n, c) :: M).map mIL))) := fun E' h =>
 yE ho (by rw [h m (by rw [ho]; simp [Op.operands])]; exact hm) (by rw [h x (by rw [ho]; simp [Op.operands])]; exact hx) (by rw [h y (by rw [ho]; simp [Op.operands])]; exact hy) hσ ht hn hl hc
end
end Pam
