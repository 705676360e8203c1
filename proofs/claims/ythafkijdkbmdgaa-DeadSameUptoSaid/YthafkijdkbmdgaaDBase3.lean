/- Regions whose order is open, with memory set aside that nothing looks at ahead of the region's last operation. -/
import Derived.Test.YthafkijdkbmdgaaDBase2
import Derived.Test.YthafkijdkbmdgaaDBase1
import Derived.Shelf.Sort.Plain
import Derived.Shelf.Slices.In.SortNone
import Derived.Shelf.Slices.In.CompactI
import Derived.Shelf.Slices.Delete
import Derived.Laws.CopyRow
set_option linter.all false
namespace Pam
open Go
def zC (o : Oper) : Bool := match o.op with | .alloc _ => true | _ => false
def pC (o : Oper) : Oper := { dst := none, op := .move (.const (.bool true)), type := o.type, pos := o.pos, after := o.after, guard := o.guard }
def rt (o : Oper) : Oper := match o.op with | .alloc _ => pC o | _ => o
def fb : List Oper → List Oper
 | [] => []
 | [q] => [pC q]
 | o :: o2 :: r => rt o :: fb (o2 :: r)
def mP : List Oper → List Oper
 | [] => []
 | [q] => [q]
 | o :: o2 :: r => match o.op with | .alloc _ => o :: mP (o2 :: r) | _ => mP (o2 :: r)
def BT (l : List Oper) (ts : List Nat) (bs : List Bool) : Bool :=
 bs.getD (l.length - 1) false && decide (0 < l.length) &&
 l.zipIdx.all fun (o, i) =>
  (if i + 1 < l.length then !zC o || (o.guard.isNone && (match o.dst with | some t => decide (t < 512) && ts.contains t && (l.zipIdx.all fun (y, j) => j == i || y.dst != some t) | none => false)) else o.dst.isNone && o.guard.isNone && !zC o) &&
  (match o.guard with | some (g, _) => (match l[g]? with | some y => !zC y | none => true) | none => true)
def BU (l : List Oper) (ts masks : List Nat) (bs : List Bool) : Bool := chk (fb l).toArray (fb l) masks bs && BT l ts bs
structure AK (l : List Oper) (ts : List Nat) (bs : List Bool) : Prop where
 bar : bs.getD (l.length - 1) false = true
 pos : 0 < l.length
 al : ∀ (i : Nat) (o : Oper) (T : TypeId), l[i]? = some o → i + 1 < l.length → o.op = .alloc T → o.guard = none ∧ ∃ t, o.dst = some t ∧ t < 512 ∧ t ∈ ts ∧ ∀ (j : Nat) (y : Oper), l[j]? = some y → j ≠ i → y.dst ≠ some t
 last : ∀ (i : Nat) (o : Oper), l[i]? = some o → i + 1 = l.length → o.dst = none ∧ o.guard = none
 ref : ∀ (i : Nat) (o : Oper) (g : Nat) (b : Bool) (y : Oper), l[i]? = some o → o.guard = some (g, b) → l[g]? = some y → ∀ T, y.op ≠ .alloc T
theorem AL {l : List Oper} {ts : List Nat} {bs : List Bool} (h : BT l ts bs = true) : AK l ts bs := by
 unfold BT at h
 simp only [Bool.and_eq_true, List.all_eq_true, decide_eq_true_eq] at h
 obtain ⟨⟨h1, h2⟩, h3⟩ := h
 have m : ∀ (i : Nat) (o : Oper), l[i]? = some o → (o, i) ∈ l.zipIdx := fun i o ho => by
  rw [List.mem_zipIdx_iff_getElem?]; simpa using ho
 refine ⟨h1, h2, ?_, ?_, ?_⟩
 ·intro i o T ho hi hop
  have := (h3 _ (m i o ho)).1
  simp only [iP hi, zC, hop, Bool.not_true, Bool.false_or, Bool.and_eq_true, Option.isNone_iff_eq_none] at this
  obtain ⟨g, h⟩ := this
  refine ⟨g, ?_⟩
  cases hd : o.dst with
  | none => rw [hd] at h; simp at h
  | some t =>
   rw [hd] at h
   simp only [Bool.and_eq_true, decide_eq_true_eq, List.contains_eq_mem, List.all_eq_true, Bool.or_eq_true, beq_iff_eq, bne_iff_ne] at h
   refine ⟨t, rfl, h.1.1, h.1.2, fun j y hy hji => ?_⟩
   rcases h.2 _ (m j y hy) with h | h
   ·exact (hji h).elim
   ·exact h
 ·intro i o ho hi
  have := (h3 _ (m i o ho)).1
  simp only [iN (by omega : ¬ i + 1 < l.length), Bool.and_eq_true, Option.isNone_iff_eq_none] at this
  exact this.1
 ·intro i o g b y ho hg hy T hop
  have := (h3 _ (m i o ho)).2
  simp [hg, hy, zC, hop] at this
theorem kI : ∀ l : List Oper, (fb l).length = l.length
 | [] => rfl
 | [q] => rfl
 | o :: o2 :: r => by simp only [fb, List.length_cons]; rw [kI (o2 :: r)]; rfl
theorem l9 : ∀ (l : List Oper) (i : Nat) (o : Oper), l[i]? = some o → (fb l)[i]? = some (if i + 1 < l.length then rt o else pC o)
 | [], i, o, h => by simp at h
 | [q], 0, o, h => by simp at h; subst h; rfl
 | [q], i + 1, o, h => by simp at h
 | a :: o2 :: r, 0, o, h => by simp at h; subst h; simp [fb]
 | a :: o2 :: r, i + 1, o, h => by
  have := l9 (o2 :: r) i o (by simpa using h)
  simp only [fb, List.getElem?_cons_succ, this, List.length_cons]
  congr 1
  by_cases e : i + 1 < r.length + 1
  ·rw [iP e, iP (by omega)]
  ·rw [iN e, iN (by omega)]
theorem pD {o : Oper} (h : ∀ T, o.op ≠ .alloc T) : rt o = o := by
 unfold rt
 split
 ·rename_i T e; exact (h T e).elim
 ·rfl
theorem xE {o : Oper} {T : TypeId} (h : o.op = .alloc T) : rt o = pC o := by unfold rt; rw [h]
theorem wH (o : Oper) : (rt o).after = o.after ∧ (rt o).guard = o.guard := by
 unfold rt
 split <;> exact ⟨rfl, rfl⟩
theorem qD {l : List Oper} {i : Nat} {o' : Oper} (h : (fb l)[i]? = some o') : ∃ o, l[i]? = some o ∧ o' = (if i + 1 < l.length then rt o else pC o) ∧ o'.after = o.after ∧ o'.guard = o.guard := by
 have hlt : i < l.length := by rw [← kI]; exact (List.getElem?_eq_some_iff.1 h).1
 have e := l9 l i l[i] (List.getElem?_eq_getElem hlt)
 rw [h] at e
 simp only [sJ] at e
 refine ⟨l[i], List.getElem?_eq_getElem hlt, e, ?_⟩
 rw [e]
 split
 ·exact wH _
 ·exact ⟨rfl, rfl⟩
theorem sv {l : List Oper} {listed : Array Bool} {i : Nat} (h : i ∈ Region.ready .any l.toArray listed) : i ∈ Region.ready .any (fb l).toArray listed := by
 obtain ⟨h1, o, ho, h2⟩ := mem_ready.1 h
 have ho' : l[i]? = some o := by simpa using ho
 have e := l9 l i o ho'
 obtain ⟨o2, q1, q2, q3, q4⟩ := qD e
 rw [ho'] at q1
 simp only [sJ] at q1
 subst q1
 refine mem_ready.2 ⟨h1, _, by simpa using e, fun x hx => ?_⟩
 rw [q3] at hx
 exact h2 x hx
section
variable {P : Program}
theorem Oper.wp_put {o : Oper} {a : Act} {w : World} {K : Act → World → Prop} {Q : Exit → Act → World → Prop} (h : o.wp P a w K Q) :
  o.wp P a w (fun a' w' => K a' w' ∧ ∀ t, o.dst ≠ some t → a'.tmps.getD t undef = a.tmps.getD t undef) Q := by
 have key : ∀ (a1 : Act) (v : Value) (t : Nat), a1.tmps = a.tmps → o.dst ≠ some t → (a1.put o.dst v).tmps.getD t undef = a.tmps.getD t undef := by
  intro a1 v t h1 ht
  cases hd : o.dst with
  | none => simp [Act.put, h1]
  | some d =>
   have hne : d ≠ t := fun e => ht (by rw [hd, e])
   simp only [Act.put, Array.getD_eq_getD_getElem?, h1]
   rw [Array.getElem?_setIfInBounds_ne hne]
 unfold Oper.wp at *
 generalize (execOp a.eval o).run P w = r at *
 cases r with
 | ok n w' =>
  cases n <;> simp only [Oper.upon] at h ⊢ <;>
   first
    | exact ⟨h, fun t ht => key _ _ t rfl ht⟩
    | exact Calls.mono h (fun e w'' he => by cases e <;> first | exact ⟨he, fun t ht => key _ _ t rfl ht⟩ | exact he)
    | exact Rows.mono h (fun _ _ he => ⟨he, fun t ht => key _ _ t rfl ht⟩)
 | halt x w' => cases x <;> simp only [Oper.upon] at h ⊢ <;> exact h
theorem zD {ops : Array Oper} {Q : Exit → Act → World → Prop} {i : Nat} {o : Oper} {K : Act → World → Prop} {a : Act} {w : World} (ho : ops[i]? = some o) (h : wpOp P ops Q i K a w) :
  wpOp P ops Q i (fun a' w' => K a' w' ∧ ∀ t, o.dst ≠ some t → a'.tmps.getD t undef = a.tmps.getD t undef) a w := by
 unfold wpOp at *
 simp only [ho] at h ⊢
 split
 ·rename_i hw; simp only [hw, if_true] at h; exact h.imp Oper.wp_put id
 ·rename_i hw
  simp only [hw] at h
  refine ⟨h, fun t ht => ?_⟩
  cases hd : o.dst with
  | none => simp [Act.put]
  | some d =>
   have hne : d ≠ t := fun e => ht (by rw [hd, e])
   simp only [Act.put, Array.getD_eq_getD_getElem?]
   rw [Array.getElem?_setIfInBounds_ne hne]
theorem vy {l : List Oper} {ts : List Nat} {bs : List Bool} (v : AK l ts bs) {i : Nat} {o : Oper} (ho : l[i]? = some o) (tmps : Array Value) :
  Region.wanted o (yielded (fb l).toArray tmps) = Region.wanted o (yielded l.toArray tmps) := by
 unfold Region.wanted
 cases hg : o.guard with
 | none => rfl
 | some gb =>
  obtain ⟨g, b⟩ := gb
  simp only
  have : yielded (fb l).toArray tmps g = yielded l.toArray tmps g := by
   unfold yielded
   simp only [List.getElem?_toArray]
   cases hy : l[g]? with
   | none =>
    have : (fb l)[g]? = none := by
     rw [List.getElem?_eq_none_iff] at hy ⊢
     rw [kI]; exact hy
    rw [this]
   | some y =>
    rw [l9 l g y hy]
    by_cases e : g + 1 < l.length
    ·rw [iP e, pD (v.ref i o g b y ho hg hy)]
    ·rw [iN e]
     have := (v.last g y hy (by have := (List.getElem?_eq_some_iff.1 hy).1; omega)).1
     simp [pC, this]
  rw [this]
theorem yr {l : List Oper} {ts : List Nat} {bs : List Bool} (v : AK l ts bs) {Q : Exit → Act → World → Prop} {i : Nat} {o : Oper} {K : Act → World → Prop} {a : Act} {w : World} (ho : l[i]? = some o) (hi : i + 1 < l.length) (hn : ∀ T, o.op ≠ .alloc T)
  (h : wpOp P (fb l).toArray Q i K a w) : wpOp P l.toArray Q i (fun a' w' => K a' w' ∧ ∀ t, o.dst ≠ some t → a'.tmps.getD t undef = a.tmps.getD t undef) a w := by
 have e := l9 l i o ho
 rw [iP hi, pD hn] at e
 have h' := zD (o := o) (by simpa using e) h
 unfold wpOp at h' ⊢
 simp only [List.getElem?_toArray, e, ho, vy v ho] at h' ⊢
 exact h'
theorem Inv.aside {G : Gh} {σ : List OB} {w : World} (hi : Inv G σ w) (x : Obj) : Inv { G with F := fun b => if b = w.heap.size then some x else G.F b } σ (w.alloc x) := by
 have old : ∀ b, b < w.heap.size → (w.alloc x).heap[b]? = w.heap[b]? := fun b hb => heap_alloc_old w _ hb
 constructor
 ·intro b y h; rw [old b (cR (hi.hH b y h))]; exact hi.hH b y h
 ·intro b y h
  simp only at h
  by_cases e : b = w.heap.size
  ·rw [iP e] at h; rw [e, ← h]; exact heap_alloc_new w _
  ·rw [iN e] at h; rw [old b (cR (hi.hF b y h))]; exact hi.hF b y h
 ·intro b y h
  simp only at h ⊢
  by_cases e : b = w.heap.size
  ·cases hx : G.H b with
   | none => rfl
   | some z => have := cR (hi.hH _ _ hx); omega
  ·rw [iN e] at h; exact hi.HF b y h
 ·exact hi.len
 ·intro b ob h
  exact (hi.own b ob h).keep (fun _ _ h => h) (bD.refl _) rfl fun o ho hh => old _ (mX hi ho hh)
 ·exact hi.inj
 ·intro b o h hh
  have := mX hi h hh
  refine ⟨(hi.sep b o h hh).1, ?_⟩
  simp only
  rw [iN (by omega)]
  exact (hi.sep b o h hh).2
 ·exact hi.os
 ·exact hi.tape
 ·exact hi.output
 ·exact Nat.le_trans hi.grow (by simp)
theorem Inv.gain {G : Gh} {σ : List OB} {w : World} (hi : Inv G σ w) {blk : Nat} {cs : List CV} {c : Array Value} {T : TypeId} (hA : w.heap[blk]? = some (.cells c T)) (hB : G.H blk = none) (hC : G.F blk = none)
  (hD : ∀ (b : Nat) (o : OG), G.own[b]? = some (some o) → o.has = true → o.blk ≠ blk) (h : aR (Rep G) cs c.toList) : Inv { G with own := G.own ++ [some ⟨blk, 0, 0, 0, true, 0⟩] } (σ ++ [.box cs]) w := by
 have hle : bD G.own (G.own ++ [some ⟨blk, 0, 0, 0, true, 0⟩]) := bD.append _ _
 have split : ∀ (b : Nat) (o' : OG), (G.own ++ [some (⟨blk, 0, 0, 0, true, 0⟩ : OG)])[b]? = some (some o') → (b < G.own.length ∧ G.own[b]? = some (some o')) ∨ (b = G.own.length ∧ o' = ⟨blk, 0, 0, 0, true, 0⟩) := by
  intro b o' h
  rcases Nat.lt_or_ge b G.own.length with hb | hb
  ·rw [List.getElem?_append_left hb] at h; exact .inl ⟨hb, h⟩
  ·rw [List.getElem?_append_right hb] at h
   rcases Nat.eq_zero_or_pos (b - G.own.length) with e | e
   ·rw [e] at h; simp at h; exact .inr ⟨by omega, h.symm⟩
   ·rw [List.getElem?_eq_none (by simp; omega)] at h; cases h
 constructor
 ·exact hi.hH
 ·exact hi.hF
 ·exact hi.HF
 ·simp [hi.len]
 ·intro b ob' h'
  rcases Nat.lt_or_ge b σ.length with hb | hb
  ·rw [List.getElem?_append_left hb] at h'
   refine (hi.own b ob' h').keep (fun _ _ h => h) hle ?_ fun o' ho' hh => rfl
   exact List.getElem?_append_left (by rw [hi.len]; exact hb)
  ·rw [List.getElem?_append_right hb] at h'
   rcases Nat.eq_zero_or_pos (b - σ.length) with e | e
   ·rw [e] at h'; simp at h'
    have : b = σ.length := by omega
    subst this; subst h'
    refine ⟨⟨blk, 0, 0, 0, true, 0⟩, c, T, ?_, rfl, ⟨rfl, rfl⟩, hA, aR.mono (R := Rep G) (fun _ _ hr => Rep.mono (G := G) (G' := { G with own := G.own ++ [some ⟨blk, 0, 0, 0, true, 0⟩] }) (fun _ _ h => h) hle hr) h⟩
    show (G.own ++ _)[σ.length]? = _
    rw [← hi.len]; simp
   ·rw [List.getElem?_eq_none (by simp; omega)] at h'; cases h'
 ·intro b b' o1 o2 h1 h2 hh1 hh2 he
  rcases split b o1 h1 with ⟨hb, g1⟩ | ⟨hb, g1⟩ <;> rcases split b' o2 h2 with ⟨hb', g2⟩ | ⟨hb', g2⟩
  ·exact hi.inj b b' o1 o2 g1 g2 hh1 hh2 he
  ·exact (hD b o1 g1 hh1 (by rw [he, g2])).elim
  ·exact (hD b' o2 g2 hh2 (by rw [← he, g1])).elim
  ·omega
 ·intro b o1 h1 hh1
  rcases split b o1 h1 with ⟨hb, h1⟩ | ⟨hb, rfl⟩
  ·exact hi.sep b o1 h1 hh1
  ·exact ⟨hB, hC⟩
 ·exact hi.os
 ·exact hi.tape
 ·exact hi.output
 ·exact hi.grow
theorem Inv.less {G : Gh} {σ : List OB} {w : World} (hi : Inv G σ w) (F : Nat → Option Obj) (h : ∀ b x, F b = some x → G.F b = some x) : Inv { G with F := F } σ w := by
 constructor
 ·exact hi.hH
 ·exact fun b x e => hi.hF b x (h b x e)
 ·exact fun b x e => hi.HF b x (h b x e)
 ·exact hi.len
 ·exact fun b ob e => (hi.own b ob e).keep (fun _ _ h => h) (bD.refl _) rfl fun _ _ _ => rfl
 ·exact hi.inj
 ·intro b o e hh
  refine ⟨(hi.sep b o e hh).1, ?_⟩
  show F o.blk = none
  cases hx : F o.blk with
  | none => rfl
  | some x => have := h _ _ hx; rw [(hi.sep b o e hh).2] at this; cases this
 ·exact hi.os
 ·exact hi.tape
 ·exact hi.output
 ·exact hi.grow
def Dd (P : Program) (l : List Oper) (G0 G1 : Gh) (listed : Array Bool) (a : Act) : Prop :=
 G1.H = G0.H ∧ G1.own = G0.own ∧ G1.w0 = G0.w0 ∧ G1.na = G0.na ∧ (∀ b x, G0.F b = some x → G1.F b = some x) ∧
 ∃ pb : Nat → Nat,
  (∀ (i j : Nat) (o o' : Oper) (T T' : TypeId), l[i]? = some o → l[j]? = some o' → i + 1 < l.length → j + 1 < l.length → o.op = .alloc T → o'.op = .alloc T' → listed.getD i false = true → listed.getD j false = true → pb i = pb j → i = j) ∧
  ∀ (i : Nat) (o : Oper) (T : TypeId) (t : Nat), l[i]? = some o → i + 1 < l.length → o.op = .alloc T → o.dst = some t → listed.getD i false = true →
   a.tmps.getD t undef = .pointer (some ⟨pb i, 0, none⟩) ∧ G0.F (pb i) = none ∧ ∃ inf u, P.info? T = some inf ∧ inf.zero = some u ∧ G1.F (pb i) = some (.cells u.cells T)
def StA (P : Program) (l : List Oper) (tr : List TS) (E : Env) (σ : List OB) (G0 : Gh) (listed : Array Bool) (a : Act) (w : World) : Prop :=
 ∃ G1, Dd P l G0 G1 listed a ∧ StJ (fb l) tr E σ G1 listed a w
theorem nc {l : List Oper} {listed : Array Bool} (hsz : listed.size = l.length) {i : Nat} (hi : i ∈ Region.ready .any l.toArray listed) : listed.getD i false = false ∧ i < l.length ∧ ∃ o, l[i]? = some o ∧ ∀ j ∈ eO o, listed.getD j false = true := by
 obtain ⟨hun, o, ho', hdeps⟩ := mem_ready.1 hi
 have ho : l[i]? = some o := by simpa using ho'
 have hil : i < l.length := (List.getElem?_eq_some_iff.1 ho).1
 refine ⟨?_, hil, o, ho, fun j hj => ?_⟩
 ·rw [Array.getD_eq_getD_getElem?] at hun ⊢
  rw [Array.getElem?_eq_getElem (by omega)] at hun ⊢
  simpa using hun
 ·simp only [eO, List.mem_map, List.mem_filter] at hj
  obtain ⟨e, ⟨h1, h2⟩, rfl⟩ := hj
  exact hdeps e (by simpa using h1) h2
theorem StA.step {l : List Oper} {ts : List Nat} {bs : List Bool} {masks : List Nat} {E : Env} {σ : List OB} {tr : List TS} (c : Chk (fb l).toArray (fb l) masks bs) (v : AK l ts bs) (ht : nZ P (fb l).toArray (fb l) bs E σ tr)
  (hE : ∀ t ∈ ts, (E.get t).cond = false) (hz : ∀ (i : Nat) (o : Oper) (T : TypeId), l[i]? = some o → i + 1 < l.length → o.op = .alloc T → (∃ z, j6 P T = some z) ∧ dk E o.dst) (G0 : Gh) {Q : Exit → Act → World → Prop} (listed : Array Bool) (a : Act) (w : World) (i : Nat)
  (hJ : StA P l tr E σ G0 listed a w) (hi : i ∈ Region.ready .any l.toArray listed) (hlt : i + 1 < l.length) : wpOp P l.toArray Q i (StA P l tr E σ G0 (listed.setIfInBounds i true)) a w := by
 obtain ⟨G1, ⟨p1, p2, p3, p4, p5, pb, p6, p7⟩, hS⟩ := hJ
 have hsz : listed.size = l.length := by rw [hS.1, kI]
 obtain ⟨hi0, hil, o, ho, hr⟩ := nc hsz hi
 have hset : ∀ j, (listed.setIfInBounds i true).getD j false = if j = i then true else listed.getD j false := fun j => yh _ _ _ (by omega)
 by_cases hn : ∀ T, o.op ≠ .alloc T
 ·have h1 := StJ.step (Q := Q) c ht G1 listed a w i hS (sv hi)
  refine wpOp_mono (fun a' w' h => ?_) (yr v ho hlt hn h1)
  obtain ⟨h2, h3⟩ := h
  refine ⟨G1, ⟨p1, p2, p3, p4, p5, pb, ?_, ?_⟩, h2⟩
  ·intro j k y y' T T' hy hy' hj hk hop hop' hl hl'
   rw [hset] at hl hl'
   have nj : j ≠ i := fun e => by subst e; rw [ho] at hy; simp only [sJ] at hy; subst hy; exact hn T hop
   have nk : k ≠ i := fun e => by subst e; rw [ho] at hy'; simp only [sJ] at hy'; subst hy'; exact hn T' hop'
   rw [iN nj] at hl
   rw [iN nk] at hl'
   exact p6 j k y y' T T' hy hy' hj hk hop hop' hl hl'
  ·intro j y T t hy hj hop hd hl
   rw [hset] at hl
   have nj : j ≠ i := fun e => by subst e; rw [ho] at hy; simp only [sJ] at hy; subst hy; exact hn T hop
   rw [iN nj] at hl
   obtain ⟨q1, q2⟩ := p7 j y T t hy hj hop hd hl
   obtain ⟨_, t', g1, _, _, g4⟩ := v.al j y T hy hj hop
   rw [hd] at g1
   simp only [sJ] at g1
   subst g1
   exact ⟨(h3 t (g4 i o ho (fun e => nj e.symm))).trans q1, q2⟩
 ·obtain ⟨T, hop⟩ : ∃ T, o.op = .alloc T := Classical.byContradiction fun h => hn fun T e => h ⟨T, e⟩
  obtain ⟨hg, t, hd, ht512, hts, huniq⟩ := v.al i o T ho hlt hop
  obtain ⟨⟨z, hzT⟩, hdok⟩ := hz i o T ho hlt hop
  obtain ⟨hsz', hcl, G, p, hG, hp, hloud, hinv, hdef, htm, hna, hslot⟩ := hS
  obtain ⟨inf, u, e1, e2, e3, e4, _, e5⟩ := jn G hzT
  have hFG : G.F = G1.F := hG.le.F
  have hvi := l9 l i o ho
  rw [iP hlt, xE hop] at hvi
  have hrun : (execOp a.eval o).run P w = .ok (.value (.pointer (some ⟨w.heap.size, 0, none⟩))) (w.alloc (.cells u.cells T)) := by
   simp [execOp, hop, Instr.alloc, fT e1 e2, newVar, newRow]
  unfold wpOp
  simp only [List.getElem?_toArray, ho]
  rw [iP (by unfold Region.wanted; rw [hg])]
  left
  unfold Oper.wp
  rw [hrun]
  show StA P l tr E σ G0 (listed.setIfInBounds i true) (a.put o.dst _) _
  rw [hd]
  have hfree : ∀ j y, l[j]? = some y → j + 1 < l.length → (∃ T, y.op = .alloc T) → listed.getD j false = true → pb j ≠ w.heap.size := by
   intro j y hy hj ⟨T', hop'⟩ hl e
   obtain ⟨_, t', g1, _⟩ := v.al j y T' hy hj hop'
   obtain ⟨_, _, _, _, _, _, q⟩ := p7 j y T' t' hy hj hop' g1 hl
   rw [← hFG] at q
   have := cR (hinv.hF _ _ q)
   omega
  have hput : ∀ t', t' ≠ t → (a.put (some t) (.pointer (some ⟨w.heap.size, 0, none⟩))).tmps.getD t' undef = a.tmps.getD t' undef := by
   intro t' hne
   simp only [Act.put, Array.getD_eq_getD_getElem?]
   rw [Array.getElem?_setIfInBounds_ne (Ne.symm hne)]
  refine ⟨{ G1 with F := fun b => if b = w.heap.size then some (.cells u.cells T) else G1.F b }, ⟨p1, p2, p3, p4, ?_, fun j => if j = i then w.heap.size else pb j, ?_, ?_⟩, ?_⟩
  ·intro b x hb
   have h1 := p5 b x hb
   simp only
   rw [iN]
   ·exact h1
   ·intro e
    rw [← hFG] at h1
    have := cR (hinv.hF _ _ h1)
    omega
  ·intro j k y y' T1 T2 hy hy' hj hk hop1 hop2 hl hl' he
   rw [hset] at hl hl'
   simp only at he
   by_cases nj : j = i <;> by_cases nk : k = i
   ·omega
   ·rw [iP nj, iN nk] at he; rw [iN nk] at hl'
    exact (hfree k y' hy' hk ⟨T2, hop2⟩ hl' he.symm).elim
   ·rw [iN nj, iP nk] at he; rw [iN nj] at hl
    exact (hfree j y hy hj ⟨T1, hop1⟩ hl he).elim
   ·rw [iN nj, iN nk] at he; rw [iN nj] at hl; rw [iN nk] at hl'
    exact p6 j k y y' T1 T2 hy hy' hj hk hop1 hop2 hl hl' he
  ·intro j y T' t' hy hj hop' hd' hl
   rw [hset] at hl
   by_cases nj : j = i
   ·subst nj
    rw [ho] at hy
    simp only [sJ] at hy
    subst hy
    rw [hd] at hd'
    simp only [sJ] at hd'
    subst hd'
    rw [hop] at hop'
    simp only [Op.alloc.injEq] at hop'
    subst hop'
    simp only [if_true]
    refine ⟨?_, ?_, inf, u, e1, e2, ?_⟩
    ·have : t < a.tmps.size := by
      rw [htm]
      rw [hd] at hdok
      exact hdok
     simp [Act.put, Array.getD, this]
    ·cases hx : G0.F w.heap.size with
     | none => rfl
     | some x =>
      have h1 := p5 _ _ hx
      rw [← hFG] at h1
      have := cR (hinv.hF _ _ h1)
      omega
    ·simp
   ·rw [iN nj] at hl
    obtain ⟨q1, q2, inf', u', q3, q4, q5⟩ := p7 j y T' t' hy hj hop' hd' hl
    simp only [iN nj]
    have hne : t' ≠ t := fun e => huniq j y hy nj (by rw [hd', e])
    refine ⟨(hput t' hne).trans q1, q2, inf', u', q3, q4, ?_⟩
    rw [iN (hfree j y hy hj ⟨T', hop'⟩ hl)]
    exact q5
  ·refine ⟨by simpa using hsz', ?_, { G with F := fun b => if b = w.heap.size then some (.cells u.cells T) else G1.F b }, p, ⟨⟨hG.le.H, rfl, hG.le.w0, hG.le.na⟩, hG.own⟩, hp, ?_, ?_, hdef, by simpa [Act.put] using htm, hna, ?_⟩
   ·intro k ok hk hdn j hj
    simp only at hdn ⊢
    rw [hset] at hdn ⊢
    by_cases e : k = i
    ·subst e; rw [hvi] at hk; simp only [sJ] at hk; subst hk
     by_cases e' : j = k
     ·rw [iP e']
     ·rw [iN e']; exact hr j hj
    ·rw [iN e] at hdn
     by_cases e' : j = i
     ·rw [iP e']
     ·rw [iN e']; exact hcl k ok hk hdn j hj
   ·intro j y hy hly
    rw [hset]
    by_cases e : j = i
    ·subst e; rw [hvi] at hy; simp only [sJ] at hy; subst hy; simp [gG, pC] at hly
    ·rw [iN e]; exact hloud j y hy hly
   ·have := hinv.aside (.cells u.cells T)
    rw [hFG] at this
    exact this
   ·intro t' ht' hc
    have hfun : (fun k => (listed.setIfInBounds i true).getD k false) = (fun k => if k = i then true else listed.getD k false) := by
     funext k; exact hset k
    rw [hfun] at hc ⊢
    rw [qZ t' (fb l) tr _ _ i _ hvi (by simp [pC])] at hc ⊢
    by_cases e : t' = t
    ·subst e
     have hno : ∀ (j : Nat) (y : Oper), (fb l)[j]? = some y → y.dst = some t' → False := by
      intro j y hy hyd
      obtain ⟨y0, g1, g2, _⟩ := qD hy
      by_cases ej : j + 1 < l.length
      ·rw [iP ej] at g2
       by_cases ha : ∀ T, y0.op ≠ .alloc T
       ·rw [pD ha] at g2
        subst g2
        by_cases eji : j = i
        ·subst eji; rw [ho] at g1; simp only [sJ] at g1; subst g1; exact ha T hop
        ·exact huniq j y g1 eji hyd
       ·obtain ⟨T', ha⟩ : ∃ T, y0.op = .alloc T := Classical.byContradiction fun h => ha fun T e => h ⟨T, e⟩
        rw [xE ha] at g2
        subst g2
        cases hyd
      ·rw [iN ej] at g2
       subst g2
       cases hyd
     have hk : f8 t' (fb l) tr (fun k => listed.getD k false) (E.get t') = E.get t' := by
      rw [ip t' (fb l) tr _ (fun _ => false) _ (fun j y hy hyd => (hno j y hy hyd).elim)]
      exact lB t' (fb l) tr _ _ fun _ _ _ _ => rfl
     rw [hk, hE t' hts] at hc
     cases hc
    ·rw [hput t' e]
     exact aX.mono (fun _ _ h => h) (bD.refl _) (hslot t' ht' hc)
theorem wI : ∀ (ts : List Nat) (E : Env) (t : Nat), (∀ x ∈ ts, x < 512) → t ∈ ts → ((E.forget ts).get t).cond = false := by
 have keep : ∀ (ts : List Nat) (E : Env) (t : Nat), (E.get t).cond = false → ((E.forget ts).get t).cond = false := by
  intro ts
  induction ts with
  | nil => intro E t h; exact h
  | cons i r ih =>
   intro E t h
   refine ih (E.erase i) t ?_
   cases hc : ((E.erase i).get t).cond with
   | false => rfl
   | true => have := Env.erase_get E i t hc; rw [this, h] at hc; cases hc
 have zap : ∀ (E : Env) (i : Nat), i < 512 → ((E.erase i).get i).cond = false := by
  intro E i h
  unfold Env.erase Env.get
  simp only
  have hb : i / 64 < 8 := by omega
  rw [Tr.get_put _ _ _ _ hb, iP rfl, Tr.get_put _ _ _ _ (Nat.mod_lt _ (by decide)), iP rfl, Tr.get_put _ _ _ _ (Nat.mod_lt _ (by decide)), iP rfl]
  simp [Tr.ent]
 intro ts
 induction ts with
 | nil => intro E t _ h; simp at h
 | cons i r ih =>
  intro E t hx h
  by_cases e : t ∈ r
  ·exact ih (E.erase i) t (fun x hx' => hx x (by simp [hx'])) e
  ·have : t = i := by simpa [e] using h
   subst this
   exact keep r _ t (zap E t (hx t (by simp)))
theorem BV (E : Env) (d : Option Tmp) (e : Ent) : (E.putD d e).n = E.n := by cases d <;> rfl
theorem xF {E E' : Env} (h : E.n = E'.n) {d : Option Tmp} (hd : dk E d) : dk E' d := by
 cases d with
 | none => trivial
 | some d => show d < E'.n; rw [← h]; exact hd
theorem qE {ops : Array Oper} {kp : PV → Env → List OB → Prop} {k : Env → List OB → Prop} : ∀ (r : List Oper) (E : Env) (σ : List OB), fa P ops (mP r) E σ k kp →
  ∀ (i : Nat) (o : Oper) (T : TypeId), (∀ (i : Nat) (o : Oper) (T : TypeId), r[i]? = some o → i + 1 < r.length → o.op = .alloc T → o.guard = none) → r[i]? = some o → i + 1 < r.length → o.op = .alloc T → (∃ z, j6 P T = some z) ∧ dk E o.dst
 | [], E, σ, h, i, o, T, hg, ho, hi, hop => by simp at ho
 | [q], E, σ, h, i, o, T, hg, ho, hi, hop => by simp at hi
 | x :: o2 :: r, E, σ, h, i, o, T, hg, ho, hi, hop => by
  have hg' : ∀ (i : Nat) (o : Oper) (T : TypeId), (o2 :: r)[i]? = some o → i + 1 < (o2 :: r).length → o.op = .alloc T → o.guard = none := fun i o T h1 h2 h3 => hg (i + 1) o T (by simpa using h1) (by simp at h2 ⊢; omega) h3
  by_cases hx : ∀ T, x.op ≠ .alloc T
  ·have e : mP (x :: o2 :: r) = mP (o2 :: r) := by
    unfold mP
    split
    ·rename_i T' e; exact (hx T' e).elim
    ·cases r <;> rfl
   rw [e] at h
   cases i with
   | zero => simp at ho; subst ho; exact (hx T hop).elim
   | succ i => exact qE (o2 :: r) E σ h i o T hg' (by simpa using ho) (by simp at hi ⊢; omega) hop
  ·obtain ⟨Tx, hx⟩ : ∃ T, x.op = .alloc T := Classical.byContradiction fun h => hx fun T e => h ⟨T, e⟩
   have e : mP (x :: o2 :: r) = x :: mP (o2 :: r) := by
    simp only [mP, hx]
   rw [e] at h
   have hgx := hg 0 x Tx rfl (by simp) hx
   unfold fa at h
   simp only [dZ, hgx, bI, hx, lw] at h
   split at h
   ·rename_i z hz
    simp only [o9] at h
    obtain ⟨hd, _, hr⟩ := h
    cases i with
    | zero => simp at ho; subst ho; rw [hx] at hop; simp only [Op.alloc.injEq] at hop; subst hop; exact ⟨⟨z, hz⟩, hd⟩
    | succ i =>
     obtain ⟨q1, q2⟩ := qE (o2 :: r) _ _ hr i o T hg' (by simpa using ho) (by simp at hi ⊢; omega) hop
     exact ⟨q1, xF (BV _ _ _) q2⟩
   ·simp only [o9] at h
theorem mat {ops : Array Oper} {pb : Nat → Nat} {kp : PV → Env → List OB → Prop} {k : Env → List OB → Prop} {a : Act} {w : World} : ∀ (r : List Oper) (m : Nat) (G : Gh) (E : Env) (σ : List OB), Sim G E σ a w →
  (∀ (i : Nat) (o : Oper) (T : TypeId), r[i]? = some o → i + 1 < r.length → o.op = .alloc T → o.guard = none ∧ ∃ t, o.dst = some t ∧ a.tmps.getD t undef = .pointer (some ⟨pb (m + i), 0, none⟩) ∧ G.F (pb (m + i)) = none ∧ G.H (pb (m + i)) = none ∧
   (∀ (b : Nat) (og : OG), G.own[b]? = some (some og) → og.has = true → og.blk ≠ pb (m + i)) ∧ ∃ inf u, P.info? T = some inf ∧ inf.zero = some u ∧ w.heap[pb (m + i)]? = some (.cells u.cells T)) →
  (∀ (i j : Nat) (o o' : Oper) (T T' : TypeId), r[i]? = some o → r[j]? = some o' → i + 1 < r.length → j + 1 < r.length → o.op = .alloc T → o'.op = .alloc T' → pb (m + i) = pb (m + j) → i = j) →
  fa P ops (mP r) E σ k kp → ∀ q, r.getLast? = some q → ∃ G' E' σ', Gle G G' ∧ Sim G' E' σ' a w ∧ fa P ops [q] E' σ' k kp
 | [], m, G, E, σ, hs, hf, hdist, h, q, hq => by simp at hq
 | [x], m, G, E, σ, hs, hf, hdist, h, q, hq => by simp at hq; subst hq; exact ⟨G, E, σ, Gle.refl G, hs, h⟩
 | x :: o2 :: r, m, G, E, σ, hs, hf, hdist, h, q, hq => by
  have hq' : (o2 :: r).getLast? = some q := by simpa [List.getLast?_cons_cons] using hq
  have hdist' : ∀ (i j : Nat) (o o' : Oper) (T T' : TypeId), (o2 :: r)[i]? = some o → (o2 :: r)[j]? = some o' → i + 1 < (o2 :: r).length → j + 1 < (o2 :: r).length → o.op = .alloc T → o'.op = .alloc T' → pb (m + 1 + i) = pb (m + 1 + j) → i = j := by
   intro i j o o' T T' h1 h2 h3 h4 h5 h6 h7
   have := hdist (i + 1) (j + 1) o o' T T' (by simpa using h1) (by simpa using h2) (by simp at h3 ⊢; omega) (by simp at h4 ⊢; omega) h5 h6 (by rw [show m + (i + 1) = m + 1 + i by omega, show m + (j + 1) = m + 1 + j by omega]; exact h7)
   omega
  by_cases hx : ∀ T, x.op ≠ .alloc T
  ·have e : mP (x :: o2 :: r) = mP (o2 :: r) := by
    unfold mP
    split
    ·rename_i T' e; exact (hx T' e).elim
    ·cases r <;> rfl
   rw [e] at h
   refine mat (o2 :: r) (m + 1) G E σ hs (fun i o T h1 h2 h3 => ?_) hdist' h q hq'
   have := hf (i + 1) o T (by simpa using h1) (by simp at h2 ⊢; omega) h3
   rw [show m + (i + 1) = m + 1 + i by omega] at this
   exact this
  ·obtain ⟨Tx, hx⟩ : ∃ T, x.op = .alloc T := Classical.byContradiction fun h => hx fun T e => h ⟨T, e⟩
   have e : mP (x :: o2 :: r) = x :: mP (o2 :: r) := by
    simp only [mP, hx]
   rw [e] at h
   obtain ⟨hgx, t, hd, g1, g2, g3, g4, inf, u, g5, g6, g7⟩ := hf 0 x Tx rfl (by simp) hx
   simp only [Nat.add_zero] at g1 g2 g3 g4 g7
   unfold fa at h
   simp only [dZ, hgx, bI, hx, lw] at h
   split at h
   ·rename_i z hz
    simp only [o9] at h
    obtain ⟨hdk, _, hr⟩ := h
    obtain ⟨inf', u', k1, k2, _, _, _, k5⟩ := jn G hz
    rw [g5] at k1; simp only [sJ] at k1; subst k1
    rw [g6] at k2; simp only [sJ] at k2; subst k2
    have hinv := hs.inv.gain (cs := z) g7 g3 g2 g4 (aR.mono (fun _ _ hr => bl.rep hr) k5)
    have hle : bD G.own (G.own ++ [some (⟨pb m, 0, 0, 0, true, 0⟩ : OG)]) := bD.append _ _
    rw [hd] at hr
    have hsim : Sim { G with own := G.own ++ [some ⟨pb m, 0, 0, 0, true, 0⟩] } (E.putD (some t) ⟨true, .c (.optr σ.length 0)⟩) (σ ++ [.box z]) a w := by
     refine ⟨hinv, hs.defers, hs.size, hs.na, fun i hc => ?_⟩
     have hg := Env.get_put E t i _ hc
     show aX _ ((E.put t _).get i).v _
     rw [hg]
     by_cases ei : i = t
     ·rw [iP ei, ei, g1]
      refine ⟨rfl, some ⟨pb m, 0, 0, 0, true, 0⟩, ?_, fun og e _ => by simp only [sJ] at e; subst e; rfl⟩
      show (G.own ++ _)[σ.length]? = _
      rw [← hs.inv.len]; simp
     ·rw [iN ei]
      have hc' : (E.get i).cond = true := by
       have : ((E.put t ⟨true, .c (.optr σ.length 0)⟩).get i).cond = true := hc
       rw [hg, iN ei] at this; exact this
      exact aX.mono (G := G) (G' := { G with own := G.own ++ [some ⟨pb m, 0, 0, 0, true, 0⟩] }) (fun _ _ h => h) hle (hs.slot i hc')
    obtain ⟨G', E', σ', q1, q2, q3⟩ := mat (o2 :: r) (m + 1) _ _ _ hsim (fun i o T h1 h2 h3 => by
     obtain ⟨f1, t', f2, f3, f4, f5, f6, f7⟩ := hf (i + 1) o T (by simpa using h1) (by simp at h2 ⊢; omega) h3
     rw [show m + (i + 1) = m + 1 + i by omega] at f3 f4 f5 f6 f7
     refine ⟨f1, t', f2, f3, f4, f5, fun b og hb hh => ?_, f7⟩
     rcases Nat.lt_or_ge b G.own.length with hb' | hb'
     ·rw [List.getElem?_append_left hb'] at hb; exact f6 b og hb hh
     ·rw [List.getElem?_append_right hb'] at hb
      rcases Nat.eq_zero_or_pos (b - G.own.length) with e0 | e0
      ·rw [e0] at hb
       simp only [List.getElem?_cons_zero, sJ] at hb
       subst hb
       intro e1
       have := hdist 0 (i + 1) x o Tx T rfl (by simpa using h1) (by simp) (by simp at h2 ⊢; omega) hx h3 (by rw [Nat.add_zero, show m + (i + 1) = m + 1 + i by omega]; exact e1)
       omega
      ·rw [List.getElem?_eq_none (by simp; omega)] at hb; cases hb) hdist' hr q hq'
    have hGle : Gle G { G with own := G.own ++ [some ⟨pb m, 0, 0, 0, true, 0⟩] } := ⟨⟨fun _ _ h => h, rfl, rfl, rfl⟩, lz.of_le hle⟩
    exact ⟨G', E', σ', hGle.trans q1, q2, q3⟩
   ·simp only [o9] at h
theorem vz {l : List Oper} {listed : Array Bool} {i : Nat} (h : i ∈ Region.ready .any (fb l).toArray listed) : i ∈ Region.ready .any l.toArray listed := by
 obtain ⟨h1, o, ho, h2⟩ := mem_ready.1 h
 obtain ⟨o2, q1, q2, q3, q4⟩ := qD (show (fb l)[i]? = some o by simpa using ho)
 exact mem_ready.2 ⟨h1, o2, by simpa using q1, fun x hx => h2 x (by rw [q3]; exact hx)⟩
theorem yt {l : List Oper} {i : Nat} {q : Oper} {K : Act → World → Prop} {a : Act} {w : World} (ho : (fb l)[i]? = some (pC q)) (hg : q.guard = none) (h : wpOp P (fb l).toArray (fun _ _ _ => False) i K a w) : K a w := by
 unfold wpOp at h
 simp only [List.getElem?_toArray, ho] at h
 rw [iP (by unfold Region.wanted; simp [pC, hg])] at h
 rcases h with h | ⟨_, _, _, h⟩
 ·unfold Oper.wp at h
  have : (execOp a.eval (pC q)).run P w = .ok (.value (.bool true)) w := by simp [execOp, pC, Act.eval]
  rw [this] at h
  exact h
 ·exact h.elim
theorem yu {ops : Array Oper} {Q : Exit → Act → World → Prop} {listed : Array Bool} (hr : Region.ready .any ops listed = []) : ∀ (fuel : Nat) (a : Act) (w : World), Q .normal a w → wpAny P .any ops Q fuel listed a w
 | 0, a, w, h => ⟨hr, h⟩
 | fuel + 1, a, w, h => ⟨fun _ => h, fun i hi => by rw [hr] at hi; simp at hi⟩
theorem BW {id : Nat} {l : List Oper} {K : Kt} {E : Env} {σ : List OB} (hm : P.follows .mixedOrders = true) (ts : List Nat) (masks : List Nat) (bs : List Bool) (hc : BU l ts masks bs = true) (hts : ∀ t ∈ ts, t < 512) {k : Env → List OB → Prop} {kp : PV → Env → List OB → Prop} (hkn : ∀ E σ, k E σ → K .normal E σ) (hkp : ∀ p E σ, kp p E σ → K (.panic p) E σ)
  (h : TR P (fb l).toArray (fb l) bs (E.forget ts) σ (fun E σ => fa P l.toArray (mP l) E σ k kp)) : W P (.region id l.toArray true) K E σ := fun G a w hs0 => by
 have hs := Env.forget_sim ts hs0
 have hE := fun t ht => wI ts E t hts ht
 generalize E.forget ts = E1 at hs hE h
 obtain ⟨tr, ht, hk⟩ := h
 unfold BU at hc
 simp only [Bool.and_eq_true] at hc
 have c := BO hc.1
 have v := AL hc.2
 have hz : ∀ (i : Nat) (o : Oper) (T : TypeId), l[i]? = some o → i + 1 < l.length → o.op = .alloc T → (∃ z, j6 P T = some z) ∧ dk E1 o.dst := fun i o T h1 h2 h3 => by
  obtain ⟨q1, q2⟩ := qE l _ _ hk i o T (fun i o T h1 h2 h3 => (v.al i o T h1 h2 h3).1) h1 h2 h3
  exact ⟨q1, xF (rG (fb l) tr E1 (fb l).length).1 q2⟩
 have hpos := v.pos
 obtain ⟨q, hq⟩ : ∃ q, l[l.length - 1]? = some q := ⟨_, List.getElem?_eq_getElem (by omega)⟩
 obtain ⟨hqd, hqg⟩ := v.last _ q hq (by omega)
 have hvq := l9 l _ q hq
 rw [iN (by omega)] at hvq
 refine wp_region_any hm ?_
 have key : ∀ (fuel : Nat) (listed : Array Bool) (a : Act) (w : World), listed.toList.count false ≤ fuel → listed.getD (l.length - 1) false = false → StA P l tr E1 σ G listed a w → wpAny P .any l.toArray (dY G K) fuel listed a w := by
  have some_ready : ∀ (listed : Array Bool) (a : Act) (w : World), listed.getD (l.length - 1) false = false → StA P l tr E1 σ G listed a w → Region.ready .any l.toArray listed ≠ [] := by
   intro listed a w h1 ⟨G1, _, hS⟩ hr
   have hr' : Region.ready .any (fb l).toArray listed = [] := by
    rw [List.eq_nil_iff_forall_not_mem] at hr ⊢
    exact fun i hi => hr i (vz hi)
   have := yi c hS.1 hr' (l.length - 1) (by rw [kI]; omega)
   rw [h1] at this; cases this
  intro fuel
  induction fuel with
  | zero =>
   intro listed a w hf hl hJ
   exfalso
   have hsz : listed.size = l.length := by obtain ⟨_, _, hS⟩ := hJ; rw [hS.1, kI]
   have : listed.toList[l.length - 1]? = some false := by
    rw [Array.getD_eq_getD_getElem?, Array.getElem?_eq_getElem (by omega)] at hl
    rw [Array.getElem?_toList, Array.getElem?_eq_getElem (by omega)]
    simpa using hl
   have hpos := List.count_pos_iff.2 (List.mem_of_getElem? this)
   omega
  | succ fuel ih =>
   intro listed a w hf hl hJ
   refine ⟨fun hr => (some_ready listed a w hl hJ hr).elim, fun i hi => ?_⟩
   have hsz : listed.size = l.length := by obtain ⟨_, _, hS⟩ := hJ; rw [hS.1, kI]
   obtain ⟨hi0, hil, o, ho, hr⟩ := nc hsz hi
   have hset : ∀ j, (listed.setIfInBounds i true).getD j false = if j = i then true else listed.getD j false := fun j => yh _ _ _ (by omega)
   by_cases hlt : i + 1 < l.length
   ·refine wpOp_mono (fun a' w' hJ' => ih _ a' w' ?_ ?_ hJ') (StA.step c v ht hE hz G listed a w i hJ hi hlt)
    ·have : listed.toList[i]? = some false := by
      rw [Array.getD_eq_getD_getElem?, Array.getElem?_eq_getElem (by omega)] at hi0
      rw [Array.getElem?_toList, Array.getElem?_eq_getElem (by omega)]
      simpa using hi0
     have hc := qu _ _ this
     simp only [Array.toList_setIfInBounds]
     omega
    ·rw [hset, iN (by omega)]; exact hl
   ·have hie : i = l.length - 1 := by omega
    subst hie
    rw [hq] at ho
    simp only [sJ] at ho
    subst ho
    obtain ⟨G1, ⟨p1, p2, p3, p4, p5, pb, p6, p7⟩, hS⟩ := hJ
    have hdone : ∀ (j : Nat), j < l.length - 1 → listed.getD j false = true := by
     intro j hj
     have hy := l9 l j l[j] (List.getElem?_eq_getElem (by omega))
     have := c.done hS.2.1 hvq hl (fun k hk => by
      have : eO (pC q) = eO q := rfl
      rw [this] at hk; exact hr k hk) hy (.inl (c.bar (l.length - 1) j _ _ hvq hy v.bar))
     rw [this]; simp; omega
    have hst := yt hvq hqg (StJ.step (Q := fun _ _ _ => False) c ht G1 listed a w (l.length - 1) hS (sv hi))
    have hall : ∀ j, j < l.length → (listed.setIfInBounds (l.length - 1) true).getD j false = true := by
     intro j hj
     rw [hset]
     by_cases e : j = l.length - 1
     ·rw [iP e]
     ·rw [iN e]; exact hdone j (by omega)
    obtain ⟨G2, hG2, hsim⟩ := (zg (Q := fun _ a' w' => ∃ G2, Gle G1 G2 ∧ Sim G2 (cW E1 (fb l) tr (fb l).length) (aY σ tr (fb l).length) a' w') c ht G1 (fun G2 a' w' h1 h2 => ⟨G2, h1, h2⟩) 0 (listed.setIfInBounds (l.length - 1) true) a w (by
     refine Nat.le_of_eq (List.count_eq_zero.2 fun hm => ?_)
     obtain ⟨j, hj, he⟩ := List.getElem_of_mem hm
     have hj' : j < l.length := by simpa [hsz] using hj
     have := hall j hj'
     rw [Array.getD_eq_getD_getElem?, Array.getElem?_eq_getElem (by simpa [hsz] using hj')] at this
     rw [Array.getElem_toList] at he
     simp only [Option.getD_some] at this
     rw [he] at this; cases this) hst).2
    have hF2 : G2.F = G1.F := hG2.le.F
    have hsim' : Sim { G2 with F := G.F } (cW E1 (fb l) tr (fb l).length) (aY σ tr (fb l).length) a w :=
     ⟨hsim.inv.less G.F (fun b x hb => by rw [hF2]; exact p5 b x hb), hsim.defers, hsim.size, hsim.na, fun i hc => aX.mono (G := G2) (G' := { G2 with F := G.F }) (fun _ _ h => h) (bD.refl _) (hsim.slot i hc)⟩
    obtain ⟨G3, E3, σ3, r1, r2, r3⟩ := mat (pb := pb) l 0 _ _ _ hsim' (fun j y T h1 h2 h3 => by
     obtain ⟨e1, t, e2, _, _, _⟩ := v.al j y T h1 h2 h3
     obtain ⟨f1, f2, inf, u, f3, f4, f5⟩ := p7 j y T t h1 h2 h3 e2 (hdone j (by omega))
     rw [← hF2] at f5
     simp only [Nat.zero_add]
     refine ⟨e1, t, e2, f1, f2, hsim.inv.HF _ _ f5, fun b og hb hh he => ?_, inf, u, f3, f4, hsim.inv.hF _ _ f5⟩
     have := (hsim.inv.sep b og hb hh).2
     rw [he, f5] at this; cases this)
     (fun j k y y' T T' h1 h2 h3 h4 h5 h6 h7 => p6 j k y y' T T' h1 h2 h3 h4 h5 h6 (hdone j (by omega)) (hdone k (by omega)) (by simpa using h7)) hk q (by rw [List.getLast?_eq_getElem?]; exact hq)
    have hGle : Gle G { G2 with F := G.F } := by
     refine ⟨⟨fun b x hb => hG2.le.H b x (by rw [p1]; exact hb), rfl, hG2.le.w0.trans p3, hG2.le.na.trans p4⟩, ?_⟩
     have := hG2.own
     rw [p2, p4] at this
     exact this
    have hw := iQ [q] E3 σ3 _ _ r3 G3 a w r2
    have hw' : wpList P l.toArray (dY G K) [q] a w := dp (fun e a' w' hp => dY.back (hGle.trans r1) (dY.mono (fun x E σ hx => by
     cases x with
     | normal => exact hkn E σ hx
     | exit id => exact hx.elim
     | ret => exact hx.elim
     | panic p => exact hkp p E σ hx) hp)) _ _ _ hw
    have hnil : Region.ready .any l.toArray (listed.setIfInBounds (l.length - 1) true) = [] := by
     rw [List.eq_nil_iff_forall_not_mem]
     intro j hj
     obtain ⟨g1, g2, _⟩ := nc (by simpa using hsz) hj
     rw [hall j g2] at g1; cases g1
    have hop : wpOp P l.toArray (dY G K) (l.length - 1) (fun a' w' => dY G K .normal a' w') a w := by
     unfold wpOp
     simp only [List.getElem?_toArray, hq]
     unfold wpList at hw'
     exact hw'
    exact wpOp_mono (fun a' w' hn => yu hnil fuel a' w' hn) hop
 refine key _ _ a _ (Nat.le_refl _) ?_ ?_ |> fun h => by
  have e : (Array.replicate l.toArray.size false).toList.count false = l.toArray.size := by simp
  rw [e] at h; exact h
 ·rw [Array.getD_eq_getD_getElem?, Array.getElem?_replicate]; split <;> rfl
 ·have hfalse : ∀ i, (Array.replicate l.toArray.size false).getD i false = false := by
   intro i
   rw [Array.getD_eq_getD_getElem?, Array.getElem?_replicate]
   split <;> rfl
  refine ⟨G, ⟨rfl, rfl, rfl, rfl, fun _ _ h => h, fun _ => 0, (fun i j o o' T T' _ _ _ _ _ _ h _ _ => by rw [hfalse] at h; cases h), (fun i o T t _ _ _ _ h => by rw [hfalse] at h; cases h)⟩, ?_⟩
  refine ⟨by simp [kI], (fun i o ho hd => by simp only [hfalse] at hd; cases hd), G, 0, Gle.refl G, by omega, (fun j o ho hl => by rw [hfalse]; simp), ?_, hs.defers, hs.size, hs.na, fun t ht hc => ?_⟩
  ·have : aY σ tr 0 = σ := by cases tr <;> rfl
   rw [this]; exact hs.inv.drawn
  ·have : f8 t (fb l) tr (fun i => (Array.replicate l.toArray.size false).getD i false) (E1.get t) = E1.get t := lB t (fb l) tr _ _ fun j o _ _ => hfalse j
   rw [this] at hc ⊢
   exact hs.slot t hc
theorem xG {id : Nat} {l : List Oper} {y : Code} {K : Kt} {E : Env} {σ : List OB} (ms : List Nat) (ts : List Nat) (masks : List Nat) (bs : List Bool) (hm : P.follows .mixedOrders = true) (hc : BU l ts masks bs = true) (hts : ∀ t ∈ ts, t < 512)
  (h : ∀ (k : Env → List OB → Prop) (kp : PV → Env → List OB → Prop), (∀ E σ, W P y K E σ → k E σ) → gl P (fb l).toArray (fb l) bs (E.forget ts) σ (fun E σ => fa P l.toArray (mP l) E σ (fun E σ => k (E.forget ms) σ) kp)) : W P (.seq (.region id l.toArray true) y) K E σ :=
 qX (BW (k := fun E σ => W P y K (E.forget ms) σ) (kp := fun _ _ _ => False) hm ts masks bs hc hts (fun _ _ h => mA ms h) (fun _ _ _ h => h.elim) (ib _ bs _ σ _ (h (fun E σ => W P y K E σ) (fun _ _ _ => False) fun _ _ h => h)))
end
end Pam
namespace Pam
open Go Go.Shelf Go.Proofs
def nG (l:List Int):List Int:=l.mergeSort fun x y=>decide (x ≤ y)
theorem kY (l:List Int):(nG l).length = l.length:=by simp [nG,List.length_mergeSort]
theorem qB (f:Nat) (cur:Array Value) (d:List Int) (k:Nat):(Go.Sort.putCells (Value.int .i64) f d.toArray cur)[f + k]? = if h:k < d.length∧f + k < cur.size then some (.int .i64 (d[k]'h.1)) else cur[f + k]?:=by
 unfold Go.Sort.putCells
 by_cases hk:f + k < cur.size
 ·by_cases hd:k < d.length
  ·rw [dif_pos ⟨hd,hk⟩]
   simp [hk,hd]
  ·rw [dif_neg (fun h=>hd h.1)]
   simp [hk,hd]
 ·rw [dif_neg (fun h=>hk h.2)]
  simp [hk]
theorem vx (f:Nat) (w:World) (n g:Nat) (os:Array Obj) (d:List Int) (cur:Array Value) (e:TypeId) (fr:Nat×Nat) (hb:w.heap[g]? = some (.cells cur e fr)) :
  (Go.Sort.grow (Go.Sort.putRow (Value.int .i64) (Go.Sort.ahead w n) g f d.toArray) os).heap[g]? = some (.cells (Go.Sort.putCells (Value.int .i64) f d.toArray cur) e fr):=by
 obtain ⟨hg,hb⟩:=Array.getElem?_eq_some_iff.1 hb
 simp [Go.Sort.grow,Go.Sort.putRow,Go.Sort.mapBlock,Go.Sort.ahead,Array.getElem?_append,hg,Array.getElem_modify,hb,Go.Sort.onCells]
theorem sr (f:Nat) (w:World) (n g:Nat) (os:Array Obj) (d:Array Int) (k:Nat) (o:Obj) (hk:w.heap[k]? = some o) (hne:g ≠ k) :
  (Go.Sort.grow (Go.Sort.putRow (Value.int .i64) (Go.Sort.ahead w n) g f d) os).heap[k]? = some o:=by
 obtain ⟨hg,hk⟩:=Array.getElem?_eq_some_iff.1 hk
 simp [Go.Sort.grow,Go.Sort.putRow,Go.Sort.mapBlock,Go.Sort.ahead,Array.getElem?_append,hg,Array.getElem_modify,hk,hne]
theorem ss {G:Gh} {w:World} {v:Nat} {T:TypeId} {l l' d:List Int} {o:OG} {c:Array Value} {fz:Nat×Nat} {os:Array Obj} {n:Nat}
  (hi:Inv G [.arr 1 v T (l.map fun x=>[.int .i64 x])] w) (ho:G.own[0]? = some (some o)) (hhas:o.has = true) (hc:w.heap[o.blk]? = some (.cells c T fz))
  (hl:l'.length ≤ l.length) (hd:d.length = l.length) (hp:l' <+: d) :
  Inv G [.arr 1 v T (l'.map fun x=>[.int .i64 x])] (Go.Sort.grow (Go.Sort.putRow (Value.int .i64) (Go.Sort.ahead w n) o.blk o.off d.toArray) os):=by
 obtain ⟨o',ho',hver,hsz,_,hlc,hcm,_,hnh,hh⟩:=hi.own 0 _ rfl
 rw [ho] at ho'
 obtain rfl:o = o':=by simpa using ho'
 obtain ⟨c',fz',hc',hfz,hcs,_⟩:=hh hhas
 rw [hc] at hc'
 obtain ⟨rfl,rfl⟩:c = c'∧fz = fz':=by simpa using hc'
 rw [Nat.mul_one] at hcs
 simp only [List.length_map] at hlc
 have hsep:=hi.sep 0 o ho hhas
 refine ⟨?_,?_,hi.HF,by simpa using hi.len,?_,hi.inj,hi.sep,hi.os,hi.tape,hi.output,?_⟩
 ·intro b ob h
  exact sr _ _ _ _ _ _ _ _ (hi.hH b ob h) (fun e=>by subst e;rw [hsep.1] at h;cases h)
 ·intro b ob h
  exact sr _ _ _ _ _ _ _ _ (hi.hF b ob h) (fun e=>by subst e;rw [hsep.2] at h;cases h)
 ·intro b ob h
  match b with
  | 0 =>
   obtain rfl:OB.arr 1 v T (l'.map fun x=>[.int .i64 x]) = ob:=by simpa using h
   refine ⟨o,ho,hver,hsz,by omega,by simp only [List.length_map];omega,hcm,?_,hnh,fun _=>?_⟩
   ·intro e he;simp only [List.mem_map] at he;obtain ⟨x,_,rfl⟩:=he;rfl
   ·refine ⟨_,fz,vx _ _ _ _ _ _ _ _ _ hc,?_,?_,?_⟩
    ·rcases hfz with h | h
     ·exact .inl h
     ·exact .inr (by simpa [Go.Sort.putCells] using h)
    ·simpa [Go.Sort.putCells,hsz] using hcs
    ·intro i j e x hi1 hj1
     have hil:i < l'.length:=by
      rcases Nat.lt_or_ge i l'.length with h | h
      ·exact h
      ·rw [List.getElem?_eq_none (by simpa using h)] at hi1;cases hi1
     have hid:i < d.length:=Nat.lt_of_lt_of_le hil hp.length_le
     rw [List.getElem?_map,List.getElem?_eq_getElem hil] at hi1
     obtain rfl:[CV.int .i64 l'[i]] = e:=by simpa using hi1
     match j with
     | 0 =>
      obtain rfl:CV.int .i64 l'[i] = x:=by simpa using hj1
      refine ⟨.int .i64 d[i],?_,?_⟩
      ·rw [show o.off + i * 1 + 0 = o.off + i by omega]
       have:=qB o.off c d i
       rw [dif_pos ⟨hid,by omega⟩] at this
       exact this
      ·have:l'[i] = d[i]:=hp.getElem hil
       rw [this];exact .int .i64 _
     | k + 1=>simp at hj1
  | k + 1=>simp at h
 ·have:=hi.grow
  simp only [Go.Sort.grow,Array.size_append,Go.Sort.size_putRow,Go.Sort.heap_ahead]
  omega
theorem tM {G:Gh} {w:World} {v:Nat} {T:TypeId} {l:List Int} {o:OG}
  (hi:Inv G [.arr 1 v T (l.map fun x=>[.int .i64 x])] w) (ho:G.own[0]? = some (some o)) (hhas:o.has = true) :
  ∃ c fz,w.heap[o.blk]? = some (.cells c T fz)∧Go.Sort.Holds (Value.int .i64) w o.blk o.off l.toArray:=by
 obtain ⟨o',ho',hver,hsz,_,hlc,hcm,_,hnh,hh⟩:=hi.own 0 _ rfl
 rw [ho] at ho'
 obtain rfl:o = o':=by simpa using ho'
 obtain ⟨c,fz,hc,hfz,hcs,hcell⟩:=hh hhas
 rw [Nat.mul_one] at hcs
 simp only [List.length_map] at hlc
 refine ⟨c,fz,hc,?_⟩
 have hcell':∀ j (h:j < l.length),c[o.off + j]? = some (.int .i64 l[j]):=by
  intro j h
  obtain ⟨x,h1,h2⟩:=hcell j 0 [.int .i64 l[j]] (.int .i64 l[j]) (by simp [h]) (by simp)
  cases h2
  simpa using h1
 intro j hj
 have hj':j < l.length:=by simpa using hj
 have hjc:o.off + j < c.size:=by omega
 constructor
 ·have:=hcell' j hj'
  simp only [World.cell?,hc]
  simp [this,hj']
 ·simp only [World.frozen?,hc]
  rcases hfz with rfl | hfz
  ·simp
  ·obtain ⟨lo,hi'⟩:=fz
   simp at hfz ⊢
   omega
theorem xD {G:Gh} {w:World} {v:Nat} {T:TypeId} {l:List Int} {vs:List Value}
  (hi:Inv G [.arr 1 v T (l.map fun x=>[.int .i64 x])] w) (ha:aR (aX G) [.c (.osl 0 v 0 l.length)] vs) :
  ∃ o a,G.own[0]? = some (some o)∧o.ver = v∧vs = [.slice a l.length o.cap]∧l.length ≤ o.cap∧(l ≠ []→o.has = true∧a = some ⟨o.blk,o.off,none⟩):=by
 obtain ⟨o,ho,hver,hsz,_,hlc,hcm,_,hnh,hh⟩:=hi.own 0 _ rfl
 simp only [List.length_map] at hlc
 match vs,ha with
 | [v0],ha =>
  obtain ⟨hv0,_⟩:=ha
  obtain ⟨_,oo,hoo,hsl⟩:=hv0
  rw [ho] at hoo
  obtain rfl:some o = oo:=by simpa using hoo
  obtain ⟨hcap,a,rfl,haddr⟩:=(hsl o rfl).2 hver.symm
  refine ⟨o,a,ho,hver,rfl,hlc,fun he=>?_⟩
  have hpos:0 < l.length:=List.length_pos_iff.2 he
  have hhas:o.has = true:=by
   cases h:o.has with
   | true=>rfl
   | false=>have:=hnh h;omega
  obtain ⟨a',rfl,ha'⟩:=haddr hhas
  obtain rfl:=ha' (by omega)
  exact ⟨hhas,by simp⟩
theorem yq {P:Program} {ρ:Ren} (Ly:Lays.n189 P ρ) {f:FuncId} (hf:ρ.f 189 = f) (hb:∃ fn,P.funcs[f]? = some fn∧fn.body.isSome = true∧(fn.name == "runtime.NumGoroutine") = false)
  (T:TypeId) (v:Nat) (l:List Int) (hl:l.length ≤ 140737488355328) :
  eD P f [.c (.osl 0 v 0 l.length)] [.arr 1 v T (l.map fun x=>[.int .i64 x])] (fun p σ=>p = .t []∧σ = [.arr 1 v T ((nG l).map fun x=>[.int .i64 x])]) (fun _ _=>False):=by
 subst hf
 refine ⟨hb,fun G w vs hna _ hi ha=>?_⟩
 obtain ⟨o,a,ho,hver,rfl,hlc,hx⟩:=xD hi ha
 by_cases he:l = []
 ·subst he
  refine (Any.slices_Sort_int_none Ly a _ w).mono ?_
  rintro e w' ⟨rfl,rfl⟩
  exact ⟨G,_,.t [],.tuple #[],Gle.refl G,hi,⟨[],rfl,trivial⟩,.inl ⟨rfl,rfl,by simp [nG]⟩⟩
 ·obtain ⟨hhas,rfl⟩:=hx he
  obtain ⟨c,fz,hc,hH⟩:=tM hi ho hhas
  refine (Any.slices_Sort_int Ly o.blk o.off o.cap l w hH (Array.getElem?_eq_some_iff.1 hc).1 (by omega)).mono ?_
  rintro e w' ⟨rfl,n,os,rfl⟩
  exact ⟨G,_,.t [],.tuple #[],Gle.refl G,ss hi ho hhas hc (Nat.le_of_eq (kY l)) (kY l) (List.prefix_rfl),⟨[],rfl,trivial⟩,.inl ⟨rfl,rfl,rfl⟩⟩
theorem su (l:List Int):(Go.Lib.compact l).length ≤ l.length:=by
 simp only [Go.Lib.compact,Go.Lib.compactUpTo,List.length_map]
 exact Nat.le_trans (List.length_filter_le _ _) (by simp)
theorem uA {P:Program} {ρ:Ren} (Ly:Lays2.n20 P ρ) {f:FuncId} (hf:ρ.f 20 = f) (hb:∃ fn,P.funcs[f]? = some fn∧fn.body.isSome = true∧(fn.name == "runtime.NumGoroutine") = false)
  (T:TypeId) (v:Nat) (l:List Int) (hl:l.length ≤ 140737488355328) :
  eD P f [.c (.osl 0 v 0 l.length)] [.arr 1 v T (l.map fun x=>[.int .i64 x])] (fun p σ=>p = .c (.osl 0 v 0 (Go.Lib.compact l).length)∧σ = [.arr 1 v T ((Go.Lib.compact l).map fun x=>[.int .i64 x])]) (fun _ _=>False):=by
 subst hf
 refine ⟨hb,fun G w vs hna _ hi ha=>?_⟩
 obtain ⟨o,a,ho,hver,rfl,hlc,hx⟩:=xD hi ha
 by_cases he:l = []
 ·subst he
  refine (calls_of_every_depth fun D=>AnyS.slices_Compact_int_empty_in Ly D a _ w).mono ?_
  rintro e w' ⟨rfl,rfl⟩
  have:Go.Lib.compact ([]:List Int) = []:=List.eq_nil_of_length_eq_zero (Nat.le_zero.1 (su []))
  rw [this]
  exact ⟨G,_,.c (.osl 0 v 0 0),_,Gle.refl G,hi,ha.1,.inl ⟨rfl,rfl,rfl⟩⟩
 ·obtain ⟨hhas,rfl⟩:=hx he
  obtain ⟨c,fz,hc,hH⟩:=tM hi ho hhas
  refine (calls_of_every_depth fun D=>AnyS.slices_Compact_int_in Ly D o.blk o.off o.cap l w hH (by omega) hlc).mono ?_
  rintro e w' ⟨rfl,n,rfl⟩
  have hcl:=su l
  have hg:∀ (W:World),Go.Sort.grow W #[] = W:=fun W=>by simp [Go.Sort.grow]
  have:=ss (n:=n) (os:=#[]) hi ho hhas hc hcl (d:=Go.Lib.compact l ++ List.replicate (l.length - (Go.Lib.compact l).length) 0) (by simp;omega) (List.prefix_append _ _)
  rw [hg] at this
  refine ⟨G,_,.c (.osl 0 v 0 (Go.Lib.compact l).length),_,Gle.refl G,this,?_,.inl ⟨rfl,rfl,rfl⟩⟩
  obtain ⟨hv0,_⟩:=ha
  obtain ⟨_,oo,hoo,hsl⟩:=hv0
  rw [ho] at hoo
  obtain rfl:some o = oo:=by simpa using hoo
  obtain ⟨hcap,a,hae,haddr⟩:=(hsl o rfl).2 hver.symm
  refine ⟨rfl,some o,ho,fun o' ho'=>?_⟩
  obtain rfl:o = o':=by simpa using ho'
  refine ⟨by omega,fun _=>⟨by omega,some ⟨o.blk,o.off,none⟩,by simp,fun h=>⟨_,rfl,fun _=>by simp⟩⟩⟩
end Pam
namespace Pam
open Go Go.Shelf Go.Proofs
end Pam
namespace Pam
open Go
section
variable {P : Program} {E : Env} {σ : List OB}
theorem uD (k : IntKind) (L : List Int) (n : Nat) (h : n < L.length) : (L.map (CV.int k)).getD n .junk = .int k (L.getD n 0) := by
 simp [List.getD, h]
theorem AM {o : Oper} {T : TypeId} {x i : Operand} {ys : List CV} {k k' : IntKind} {n : Int} (L : List Int) (m : Nat) (ho : o.op = .index T x i) (hx : ev E x = ⟨true, .a ys⟩) (hi : ev E i = ⟨true, .c (.int k' n)⟩)
  (hy : ys = L.map (CV.int k)) (hC : lu P T = true ∧ bG P (P.elem T) = true ∧ P.arrayLen T * P.cellsOf (P.elem T) ≤ L.length ∧ jB P (P.elem T) = false ∧ P.cellsOf (P.elem T) = 1) (hl : P.arrayLen T = m) (hm : L.length = m)
  (h0 : 0 ≤ n) (h1 : n < (m : Int)) : pd P E σ o (.c (.int k (L.getD n.toNat 0))) σ := .quiet fun G a w hs => by
 subst hy
 have h : ∃ C, kL P true T (ev E x) (ev E i) = .ok C (.c ((L.map (CV.int k)).getD n.toNat .junk)) ∧ C := by
  rw [hx, hi]
  refine ⟨_, by unfold kL; rfl, ?_⟩
  exact ⟨fun _ => rfl, fun _ => rfl, hC.1, hC.2.1, by simpa using hC.2.2.1, hC.2.2.2.1, hC.2.2.2.2, fun _ => ⟨h0, by rw [hl]; exact h1⟩⟩
 obtain ⟨C, h, hc⟩ := h
 obtain ⟨r, e1, e2⟩ := tC (P := P) (G := G) (w := w) h hc rfl (cK hs x) (cK hs i)
 have : n.toNat < L.length := by omega
 rw [uD k L n.toNat this] at e2
 exact ⟨r, by simp only [execOp, ho]; exact j7 e1, e2⟩
theorem rf {s : Nat} {x : CV} : ∀ {es : List (List CV)} {i j : Nat} {e : List CV}, (∀ e ∈ es, e.length = s) → es[i]? = some e → e[j]? = some x → es.flatten[i * s + j]? = some x
 | [], i, j, e, _, h, _ => by simp at h
 | a :: es, 0, j, e, hl, h, hx => by
  obtain rfl : a = e := by simpa using h
  have hj : j < a.length := by
   rcases Nat.lt_or_ge j a.length with h' | h'
   ·exact h'
   ·rw [List.getElem?_eq_none h'] at hx; cases hx
  rw [List.flatten_cons, Nat.zero_mul, Nat.zero_add, List.getElem?_append_left hj]; exact hx
 | a :: es, i + 1, j, e, hl, h, hx => by
  have ha : a.length = s := hl a (by simp)
  rw [List.flatten_cons, List.getElem?_append_right (by rw [ha, Nat.add_mul]; omega)]
  have := rf (es := es) (i := i) (fun e he => hl e (by simp [he])) (by simpa using h) hx
  rw [ha, show (i + 1) * s + j - s = i * s + j by rw [Nat.add_mul]; omega]
  exact this
theorem wJ {o : Oper} {T : TypeId} (s : Nat) (es : List (List CV)) (ho : o.op = .alloc T) (hz : j6 P T = some es.flatten) (hs : 0 < s) (hl : ∀ e ∈ es, e.length = s) (hn : 0 < es.length) (hm : es.length ≤ 1000000) :
  pd P E σ o (.c (.oel σ.length 0 0 0)) (σ ++ [.arr s 0 T es]) := fun G a w hs' => by
 have hi := hs'.inv
 obtain ⟨i, u, h1, h2, h3, h4, _, h5⟩ := jn G hz
 have hlen : es.flatten.length = es.length * s := by
  rw [List.length_flatten, List.map_congr_left (g := fun _ => s) hl, List.map_const', List.sum_replicate_nat]
 have hcs : u.cells.size = es.length * s := by
  have := h5.length; simp only [Array.length_toList] at this; omega
 obtain ⟨G', k1, k2, k3, k4⟩ := pO (s := s) (T := T) (es := es) (c := u.cells) (cap := es.length) (w' := w.alloc (.cells u.cells T)) hi (.inr rfl) hs (Nat.le_refl _) (by have h9 : maxLen = 9223372036854775807 := rfl; omega) hl hcs
  (by
   intro i j e x hi1 hj1
   have hf := rf hl hi1 hj1
   obtain ⟨v, hv, hr⟩ := h5.get _ _ hf
   exact ⟨v, by show u.cells[i * s + j]? = some v; rw [← Array.getElem?_toList]; exact hv, hr⟩) es.length (Nat.le_refl _)
 refine ⟨_, _, _, G', ?_, .inl rfl, k1, k2, k3, (?_ : aX G' (.c (.oel σ.length 0 0 0)) (.pointer (some ⟨w.heap.size, 0, none⟩)))⟩
 ·simp [execOp, ho, Instr.alloc, fT h1 h2, newVar, newRow]
 ·obtain ⟨_, oo, hoo, hsl⟩ := k4
  refine ⟨rfl, oo, hoo, fun o e => ?_⟩
  subst e
  obtain ⟨g1, g2⟩ := hsl o rfl
  refine ⟨g1, fun hv => ?_⟩
  obtain ⟨hcap, ad, hval, hha⟩ := g2 hv
  obtain ⟨o', q1, q2, q3, q4, q5, q6, q7, q8, q9⟩ := k3.own σ.length (.arr s 0 T es) (by simp)
  rw [hoo] at q1
  obtain rfl : o = o' := by simpa using q1
  have hh : o.has = true := by
   cases hh : o.has with
   | true => rfl
   | false => have := q8 hh; omega
  obtain ⟨a', rfl, ha'⟩ := hha hh
  have := ha' (by omega)
  subst this
  simp only [Value.slice.injEq, sJ] at hval
  have h0 := hval.1
  simp only [Addr.mk.injEq] at h0
  rw [← h0.1]
  simp
end
end Pam
namespace Pam
open Go
def ins:List Int→Int→List Int
 | [],n=>[n]
 | x :: xs,n=>if x ≥ n then (if x > n then n :: x :: xs else x :: xs) else x :: ins xs n
theorem uL (l:List Int) (n y:Int):y∈ins l n↔y = n∨y∈l:=by
 induction l with
 | nil=>simp [ins]
 | cons x xs ih =>
  unfold ins
  split
  ·split
   ·simp
   ·have:x = n:=by omega
    subst this;simp
  ·simp only [List.mem_cons,ih]
   constructor
   ·rintro (h | h | h) <;> simp [h]
   ·rintro (h | h | h) <;> simp [h]
theorem wN {l:List Int} (h:l.Pairwise (· < ·)) (n:Int):(ins l n).Pairwise (· < ·):=by
 induction l with
 | nil=>simp [ins]
 | cons x xs ih =>
  obtain ⟨h1,h2⟩:=List.pairwise_cons.1 h
  unfold ins
  split
  ·split
   ·refine List.pairwise_cons.2 ⟨?_,h⟩
    intro a ha
    rcases List.mem_cons.1 ha with rfl | ha
    ·omega
    ·have:=h1 a ha;omega
   ·exact h
  ·refine List.pairwise_cons.2 ⟨?_,ih h2⟩
   intro a ha
   rcases (uL xs n a).1 ha with rfl | ha
   ·omega
   ·exact h1 a ha
theorem rh:∀ {l l':List Int},l.Pairwise (· < ·)→l'.Pairwise (· < ·)→(∀ x,x∈l↔x∈l')→l = l'
 | [],[],_,_,_=>rfl
 | [],b :: l',_,_,h=>by have:=(h b).2 (by simp);simp at this
 | a :: l,[],_,_,h=>by have:=(h a).1 (by simp);simp at this
 | a :: l,b :: l',hl,hl',h=>by
  obtain ⟨h1,h2⟩:=List.pairwise_cons.1 hl
  obtain ⟨k1,k2⟩:=List.pairwise_cons.1 hl'
  have e:a = b:=by
   have ha:=(h a).1 (by simp)
   have hb:=(h b).2 (by simp)
   rcases List.mem_cons.1 ha with e | ha
   ·exact e
   ·rcases List.mem_cons.1 hb with e | hb
    ·exact e.symm
    ·have:=h1 b hb;have:=k1 a ha;omega
  subst e
  rw [rh h2 k2 fun x=>?_]
  constructor
  ·intro hx
   rcases List.mem_cons.1 ((h x).1 (by simp [hx])) with rfl | h'
   ·have:=h1 x hx;omega
   ·exact h'
  ·intro hx
   rcases List.mem_cons.1 ((h x).2 (by simp [hx])) with rfl | h'
   ·have:=k1 x hx;omega
   ·exact h'
theorem yy (l:List Int) (x:Int):x∈nG l↔x∈l:=by simp [nG,List.mem_mergeSort]
theorem uM (l:List Int):(nG l).Pairwise (· ≤ ·):=by
 have:=List.pairwise_mergeSort (le:=fun x y:Int=>decide (x ≤ y)) (by intro a b c;simp;omega) (by intro a b;simp;omega) l
 exact this.imp (by simp)
theorem vE (l:List Int) (x:Int):x∈Go.Lib.compact l↔x∈l:=by
 simp only [Go.Lib.compact,Go.Lib.compactUpTo,List.mem_map,List.mem_filter,List.mem_range]
 constructor
 ·rintro ⟨i,⟨h1,_⟩,rfl⟩
  simp [h1]
 ·intro hx
  obtain ⟨i,hi,rfl⟩:=List.mem_iff_getElem.1 hx
  have key:∀ n i (hi:i < l.length),i = n→∃ j,(j < l.length∧Go.Lib.keeps l.toArray j = true)∧l.toArray[j]! = l[i]:=by
   intro n
   induction n with
   | zero=>intro i hi e;subst e;exact ⟨0,⟨hi,by simp [Go.Lib.keeps]⟩,by simp [hi]⟩
   | succ n ih =>
    intro i hi e
    subst e
    by_cases hk:Go.Lib.keeps l.toArray (n + 1) = true
    ·exact ⟨n + 1,⟨hi,hk⟩,by simp [hi]⟩
    ·obtain ⟨j,h1,h2⟩:=ih n (by omega) rfl
     refine ⟨j,h1,h2.trans ?_⟩
     have hn:n < l.length:=by omega
     simp [Go.Lib.keeps,hi,hn] at hk
     exact hk.symm
  exact key i i hi rfl
theorem sD {l:List Int} (h:l.Pairwise (· ≤ ·)):(Go.Lib.compact l).Pairwise (· < ·):=by
 simp only [Go.Lib.compact,Go.Lib.compactUpTo,List.pairwise_map]
 have hm:∀ i j,i ≤ j→(hj:j < l.length)→l.toArray[i]! ≤ l.toArray[j]!:=by
  intro i j hij hj
  have hi:i < l.length:=by omega
  simp only [List.getElem!_toArray,getElem!_pos l i hi,getElem!_pos l j hj]
  rcases Nat.lt_or_ge i j with h' | h'
  ·exact List.pairwise_iff_getElem.1 h i j hi hj h'
  ·have:i = j:=by omega
   subst this;exact Int.le_refl _
 refine List.Pairwise.imp_of_mem ?_ ((List.pairwise_lt_range (n:=l.length)).filter _)
 intro i j hi hj hij
 simp only [List.mem_filter,List.mem_range,Go.Lib.keeps,decide_eq_true_eq] at hi hj
 have h1:=hm i (j - 1) (by omega) (by omega)
 have h2:=hm (j - 1) j (by omega) hj.1
 have h3:l.toArray[j]! ≠ l.toArray[j - 1]!:=by
  rcases hj.2 with h' | h'
  ·omega
  ·exact h'
 omega
theorem rC (l:List Int):Go.Lib.compact (nG l) = l.foldl ins []:=by
 have key:∀ (l a:List Int),a.Pairwise (· < ·)→(l.foldl ins a).Pairwise (· < ·)∧∀ x,x∈l.foldl ins a↔x∈a∨x∈l:=by
  intro l
  induction l with
  | nil=>intro a ha;simpa using ha
  | cons y l ih =>
   intro a ha
   obtain ⟨h1,h2⟩:=ih (ins a y) (wN ha y)
   refine ⟨h1,fun x=>?_⟩
   rw [List.foldl_cons,h2 x,uL]
   simp only [List.mem_cons]
   constructor
   ·rintro ((h | h) | h) <;> simp [h]
   ·rintro (h | h | h) <;> simp [h]
 obtain ⟨h1,h2⟩:=key l [] List.Pairwise.nil
 refine rh (sD (uM l)) h1 fun x=>?_
 rw [vE,yy,h2]
 simp
end Pam
namespace Pam
open Go
def zx (ops : Array Oper) (l : List Oper) (masks : List Nat) (bar prv : List Bool) (rd : List (List Nat)) : Bool :=
  chk ops l masks bar &&
  (l.zipIdx.all fun (x, i) => gG x || (x.looksAt ops).all (fun t => (rd.getD i []).contains t) || l.zipIdx.all fun (_, j) => !(prv.getD j false) || kV masks i j)
def zy (P : Program) (ops : Array Oper) (pv : List Nat) (E : Env) (σ : List OB) (o : Oper) (bar prv : Bool) (rd : List Nat) (ts : TS) : Prop :=
  dZ ops E o.guard = some ts.γ ∧ dk E o.dst ∧
  ((∃ C v, bI P ts.γ E σ o.op = .ok C v ∧ C ∧ (rd.all fun t => xo pv (E.get t).v) = true ∧ ts.e = ⟨ts.γ, v⟩ ∧ ts.σ = σ) ∨
   (ts.γ = true ∧ ∃ C v, bI P ts.γ E σ o.op = .upd C v ts.σ ∧ C ∧ ts.e = ⟨true, v⟩ ∧ (bar = true ∨ Ext σ ts.σ ∨ (prv = true ∧ i2 pv σ ts.σ))) ∨
   (∃ C f args r, bI P ts.γ E σ o.op = .call C f args ∧ (ts.γ = true → C ∧ cd P f args r) ∧ args.all PV.noOwn = true ∧ (∀ n, r.ren (df n []) = r) ∧ ts.e = ⟨ts.γ, r⟩ ∧ ts.σ = σ) ∨
   (ts.γ = false ∧ ts.e = ⟨true, .t []⟩ ∧ ts.σ = σ) ∨
   (ts.γ = true ∧ ∃ C f args p, bI P ts.γ E σ o.op = .call C f args ∧ C ∧ kO P σ f args p ts.σ ∧ ts.e = ⟨true, p⟩ ∧ (bar = true ∨ Ext σ ts.σ ∨ (prv = true ∧ i2 pv σ ts.σ))) ∨
   (ts.γ = true ∧ gG o = true ∧ ∃ v, (∀ E', (∀ x ∈ o.op.operands, ev E' x = ev E x) → ∀ G a w, Sim G E' σ a w → ur P G (execOp a.eval o) w v ts.σ) ∧ ts.e = ⟨true, v⟩ ∧ (bar = true ∨ Ext σ ts.σ ∨ (prv = true ∧ i2 pv σ ts.σ))))
def wD (P : Program) (ops : Array Oper) (pv : List Nat) : List Oper → List Bool → List Bool → List (List Nat) → Env → List OB → List TS → Prop
  | [], _, _, _, _, _, tr => tr = []
  | o :: l, bs, ps, rd, E, σ, tr => ∃ ts r, tr = ts :: r ∧ zy P ops pv E σ o (bs.headD false) (ps.headD false) (rd.headD []) ts ∧ wD P ops pv l bs.tail ps.tail rd.tail (E.putD o.dst ts.e) ts.σ r
section
variable {P : Program} {ops : Array Oper} {pv : List Nat}
theorem fU.ofP : ∀ {l : List Oper} {bs ps : List Bool} {rd : List (List Nat)} {E : Env} {σ : List OB} {tr : List TS}, wD P ops pv l bs ps rd E σ tr → fU P ops pv l bs ps rd [] E σ tr
  | [], _, _, _, _, _, _, h => h
  | o :: l, _, _, _, _, _, _, ⟨ts, r, h1, ⟨h2, h3, h4⟩, h5⟩ => ⟨ts, r, h1, ⟨h2, h3, .inl ⟨rfl, h4⟩⟩, fU.ofP h5⟩
theorem zz {ops : Array Oper} {l : List Oper} {masks : List Nat} {bs ps : List Bool} {rd : List (List Nat)} (h : zx ops l masks bs ps rd = true) : ww ops l masks bs ps rd [] = true := by
  unfold zx chk at h
  unfold ww
  rw [show ld ([] : List Bool) = fun _ o => gG o from by funext i o; exact se i o]
  exact h
def TRP (P : Program) (ops : Array Oper) (pv : List Nat) (l : List Oper) (bs ps : List Bool) (rd : List (List Nat)) (E : Env) (σ : List OB) (k : Env → List OB → Prop) : Prop :=
  ∃ tr, wD P ops pv l bs ps rd E σ tr ∧ k (cW E l tr l.length) (aY σ tr l.length)
def rb (pv : List Nat) : Nat → List OB → List OB → Prop
  | _, [], _ => True
  | i, a :: as_, b :: bs => (pv.contains i = true ∨ a = b) ∧ rb pv (i + 1) as_ bs
  | _, _ :: _, [] => False
theorem sn : ∀ {i : Nat} {σ σ' : List OB}, rb pv i σ σ' → σ.length ≤ σ'.length ∧ ∀ b, b + i ∉ pv → b < σ.length → σ'[b]? = σ[b]?
  | _, [], _, _ => ⟨by simp, fun b _ h => by simp at h⟩
  | i, a :: as_, b :: bs, ⟨h1, h2⟩ => by
    obtain ⟨k1, k2⟩ := sn h2
    refine ⟨by simpa using k1, fun c hc hl => ?_⟩
    cases c with
    | zero =>
      rcases h1 with h | h
      · simp at hc; simp at h; exact (hc h).elim
      · simp [h]
    | succ c => simpa using k2 c (by simpa [Nat.add_assoc, Nat.add_comm 1] using hc) (by simpa using hl)
def mF (P : Program) (ops : Array Oper) (pv : List Nat) (γ : Bool) (C : Prop) (f : FuncId) (args : List PV) (o : Oper) (r : List Oper) (bs ps : List Bool) (rd : List (List Nat)) (E : Env) (σ : List OB) (k : Env → List OB → Prop) : Prop :=
  bI P γ E σ o.op = .call C f args → dZ ops E o.guard = some γ → TRP P ops pv (o :: r) bs ps rd E σ k
def qA (P : Program) (ops : Array Oper) (pv : List Nat) (γ : Bool) (o : Oper) (r : List Oper) (bs ps : List Bool) (rd : List (List Nat)) (E : Env) (σ : List OB) (k : Env → List OB → Prop) (run : Env → List OB → Prop) : R → Prop
  | .ok C v => dk E o.dst ∧ C ∧ ((rd.headD []).all fun t => xo pv (E.get t).v) = true ∧ run (E.putD o.dst ⟨γ, v⟩) σ
  | .upd C v σ' => dk E o.dst ∧ γ = true ∧ C ∧ (bs.headD false = true ∨ nK σ σ' ∨ (ps.headD false = true ∧ rb pv 0 σ σ')) ∧ run (E.putD o.dst ⟨true, v⟩) σ'
  | .call C f args => mF P ops pv γ C f args o r bs ps rd E σ k
  | .bad => False
def il (P : Program) (ops : Array Oper) (pv : List Nat) : List Oper → List Bool → List Bool → List (List Nat) → Env → List OB → (Env → List OB → Prop) → Prop
  | [], _, _, _, E, σ, k => k E σ
  | o :: r, bs, ps, rd, E, σ, k =>
    match dZ ops E o.guard with
    | none => False
    | some false => dk E o.dst ∧ il P ops pv r bs.tail ps.tail rd.tail (E.putD o.dst ⟨true, .t []⟩) σ k
    | some true => qA P ops pv true o r bs ps rd E σ k (fun E' σ' => il P ops pv r bs.tail ps.tail rd.tail E' σ' k) (bI P true E σ o.op)
theorem TRP.cons {o : Oper} {r : List Oper} {bs ps : List Bool} {rd : List (List Nat)} {E : Env} {σ : List OB} {k : Env → List OB → Prop} {ts : TS} (h : zy P ops pv E σ o (bs.headD false) (ps.headD false) (rd.headD []) ts) (ht : TRP P ops pv r bs.tail ps.tail rd.tail (E.putD o.dst ts.e) ts.σ k) : TRP P ops pv (o :: r) bs ps rd E σ k := by
  obtain ⟨tr, h1, h2⟩ := ht
  refine ⟨ts :: tr, ⟨ts, tr, rfl, h, h1⟩, ?_⟩
  simpa [cW, aY] using h2
theorem iu : ∀ (l : List Oper) (bs ps : List Bool) (rd : List (List Nat)) (E : Env) (σ : List OB) (k : Env → List OB → Prop), il P ops pv l bs ps rd E σ k → TRP P ops pv l bs ps rd E σ k
  | [], bs, ps, rd, E, σ, k, h => ⟨[], rfl, by unfold il at h; simpa [cW, aY] using h⟩
  | o :: r, bs, ps, rd, E, σ, k, h => by
    unfold il at h
    split at h
    · exact h.elim
    · rename_i hγ
      exact TRP.cons (ts := ⟨false, ⟨true, .t []⟩, σ⟩) ⟨hγ, h.1, .inr (.inr (.inr (.inl ⟨rfl, rfl, rfl⟩)))⟩ (iu r _ _ _ _ _ _ h.2)
    · rename_i hγ
      unfold qA at h
      split at h
      · rename_i C v hrun
        obtain ⟨hd, hC, hrd, hr⟩ := h
        exact TRP.cons (ts := ⟨true, ⟨true, v⟩, σ⟩) ⟨hγ, hd, .inl ⟨C, v, hrun, hC, hrd, rfl, rfl⟩⟩ (iu r _ _ _ _ _ _ hr)
      · rename_i C v σ' hrun
        obtain ⟨hd, hg, hC, hb, hr⟩ := h
        refine TRP.cons (ts := ⟨true, ⟨true, v⟩, σ'⟩) ⟨hγ, hd, .inr (.inl ⟨rfl, C, v, hrun, hC, rfl, ?_⟩)⟩ (iu r _ _ _ _ _ _ hr)
        rcases hb with h | h | ⟨h, h'⟩
        · exact .inl h
        · exact .inr (.inl (oD h))
        · exact .inr (.inr ⟨h, by have := sn h'; exact ⟨this.1, fun b hb hl => this.2 b hb hl⟩⟩)
      · rename_i C f args hrun
        exact h hrun hγ
      · exact h.elim
theorem tk {γ : Bool} {C : Prop} {f : FuncId} {args : List PV} {o : Oper} {r : List Oper} {bs ps : List Bool} {rd : List (List Nat)} {E : Env} {σ : List OB} {k : Env → List OB → Prop} {res : PV}
    (hs : γ = true → cd P f args res) (hd : dk E o.dst) (hC : γ = true → C) (hargs : args.all PV.noOwn = true) (hres : ∀ n, res.ren (df n []) = res)
    (next : il P ops pv r bs.tail ps.tail rd.tail (E.putD o.dst ⟨γ, res⟩) σ k) : mF P ops pv γ C f args o r bs ps rd E σ k := fun hrun hγ =>
  TRP.cons (ts := ⟨γ, ⟨γ, res⟩, σ⟩) ⟨hγ, hd, .inr (.inr (.inl ⟨C, f, args, res, hrun, fun h => ⟨hC h, hs h⟩, hargs, hres, rfl, rfl⟩))⟩ (iu r _ _ _ _ _ _ next)
theorem vt {C : Prop} {f : FuncId} {args : List PV} {o : Oper} {r : List Oper} {bs ps : List Bool} {rd : List (List Nat)} {E : Env} {σ σ2 : List OB} {k : Env → List OB → Prop} {res : PV}
    (hs : kO P σ f args res σ2) (hd : dk E o.dst) (hC : C) (hb : bs.headD false = true ∨ nK σ σ2)
    (next : il P ops pv r bs.tail ps.tail rd.tail (E.putD o.dst ⟨true, res⟩) σ2 k) : mF P ops pv true C f args o r bs ps rd E σ k := fun hrun hγ =>
  TRP.cons (ts := ⟨true, ⟨true, res⟩, σ2⟩) ⟨hγ, hd, .inr (.inr (.inr (.inr (.inl ⟨rfl, C, f, args, res, hrun, hC, hs, rfl, hb.imp id fun h => .inl (oD h)⟩))))⟩ (iu r _ _ _ _ _ _ next)
theorem qa {C : Prop} {f : FuncId} {args : List PV} {o : Oper} {r : List Oper} {bs ps : List Bool} {rd : List (List Nat)} {E : Env} {σ σ2 : List OB} {k : Env → List OB → Prop} {res : PV}
    (hs : kO P σ f args res σ2) (hd : dk E o.dst) (hC : C) (hb : ps.headD false = true ∧ rb pv 0 σ σ2)
    (next : il P ops pv r bs.tail ps.tail rd.tail (E.putD o.dst ⟨true, res⟩) σ2 k) : mF P ops pv true C f args o r bs ps rd E σ k := fun hrun hγ =>
  TRP.cons (ts := ⟨true, ⟨true, res⟩, σ2⟩) ⟨hγ, hd, .inr (.inr (.inr (.inr (.inl ⟨rfl, C, f, args, res, hrun, hC, hs, rfl, .inr (.inr ⟨hb.1, by have := sn hb.2; exact ⟨this.1, fun b h hl => this.2 b h hl⟩⟩)⟩))))⟩ (iu r _ _ _ _ _ _ next)
theorem xB {id : Nat} {l : List Oper} {K : Kt} {E : Env} {σ : List OB} (hm : P.follows .mixedOrders = true) (pv masks : List Nat) (bs ps : List Bool) (rd : List (List Nat)) (hc : zx l.toArray l masks bs ps rd = true)
    (h : TRP P l.toArray pv l bs ps rd E σ (K .normal)) : W P (.region id l.toArray true) K E σ := by
  obtain ⟨tr, ht, hk⟩ := h
  exact xp hm pv masks bs ps rd [] (zz hc) ⟨tr, fU.ofP ht, hk⟩
theorem BP {id : Nat} {l : List Oper} {K : Kt} {E : Env} {σ : List OB} (hm : P.follows .mixedOrders = true) (pv masks : List Nat) (bs ps : List Bool) (rd : List (List Nat)) (hc : zx l.toArray l masks bs ps rd = true)
    (h : ∀ (k : Env → List OB → Prop), (∀ E σ, K .normal E σ → k E σ) → il P l.toArray pv l bs ps rd E σ k) : W P (.region id l.toArray true) K E σ :=
  xB hm pv masks bs ps rd hc (iu l bs ps rd E σ _ (h (K .normal) fun _ _ h => h))
theorem rH {id : Nat} {l : List Oper} {y : Code} {K : Kt} {E : Env} {σ : List OB} (ms : List Nat) (hm : P.follows .mixedOrders = true) (pv masks : List Nat) (bs ps : List Bool) (rd : List (List Nat)) (hc : zx l.toArray l masks bs ps rd = true)
    (h : ∀ (k : Env → List OB → Prop), (∀ E σ, W P y K E σ → k E σ) → il P l.toArray pv l bs ps rd E σ (fun E σ => k (E.forget ms) σ)) : W P (.seq (.region id l.toArray true) y) K E σ :=
  qX (xB hm pv masks bs ps rd hc (by
    obtain ⟨tr, h1, h2⟩ := iu l bs ps rd E σ _ (h (W P y K) fun _ _ h => h)
    exact ⟨tr, h1, mA ms h2⟩))
end
def bAP := And.intro (And.intro (And.intro @il.eq_1 @il.eq_2) bL) (And.intro bM (And.intro (And.intro @qA.eq_1 @qA.eq_2) (And.intro @qA.eq_3 @qA.eq_4)))
end Pam
namespace Pam
open Go
section
variable {P:Program} {ops:Array Oper}
theorem aT {l:List Oper} {bs:List Bool} {E:Env} {σ:List OB} {k:Env→List OB→Prop} (h:gl P ops l bs E σ k):TR P ops l bs E σ k:=ib l bs E σ k h
theorem xA:∀ {l l':List Oper} {bs bs':List Bool} {E:Env} {σ:List OB} {k:Env→List OB→Prop},bs.length = l.length→TR P ops l bs E σ (fun E' σ'=>TR P ops l' bs' E' σ' k)→TR P ops (l ++ l') (bs ++ bs') E σ k
 | [],l',bs,bs',E,σ,k,hl,⟨tr,h1,h2⟩=>by
  have:bs = []:=List.eq_nil_of_length_eq_zero (by simpa using hl)
  subst this
  simp only [nZ] at h1
  subst h1
  simpa [cW,aY] using h2
 | o :: l,l',bs,bs',E,σ,k,hl,⟨tr,h1,h2⟩=>by
  obtain ⟨ts,r,rfl,h3,h4⟩:=h1
  match bs,hl with
  | b :: bs,hl =>
   refine TR.cons (bs:=b :: bs ++ bs') (ts:=ts) ?_ ?_
   ·simpa using h3
   ·exact xA (by simpa using hl) ⟨r,h4,by simpa [cW,aY] using h2⟩
theorem eA (n:Nat) {l:List Oper} {bs:List Bool} {E:Env} {σ:List OB} {k:Env→List OB→Prop} (hn:bs.length = l.length) (h:gl P ops (l.take n) (bs.take n) E σ (fun E' σ'=>TR P ops (l.drop n) (bs.drop n) E' σ' k)):TR P ops l bs E σ k:=by
 have:=xA (by simp [hn]) (ib _ _ _ _ _ h)
 rwa [List.take_append_drop,List.take_append_drop] at this
theorem tj {γ:Bool} {C:Prop} {f:FuncId} {args:List PV} {o:Oper} {r:List Oper} {bs:List Bool} {E:Env} {σ:List OB} {k:Env→List OB→Prop} {res:PV}
  (hs:γ = true→cd P f args res) (hd:dk E o.dst) (hC:γ = true→C) (hargs:args.all PV.noOwn = true) (hres:∀ n,res.ren (df n []) = res)
  (next:TR P ops r bs.tail (E.putD o.dst ⟨γ,res⟩) σ k):kW P ops γ C f args o r bs E σ k:=fun hrun hγ =>
 TR.cons (ts:=⟨γ,⟨γ,res⟩,σ⟩) ⟨hγ,hd,.inr (.inr (.inl ⟨C,f,args,res,hrun,fun h=>⟨hC h,hs h⟩,hargs,hres,rfl,rfl⟩))⟩ next
theorem vr {C:Prop} {f:FuncId} {args:List PV} {o:Oper} {r:List Oper} {bs:List Bool} {E:Env} {σ σ2:List OB} {k:Env→List OB→Prop} {res:PV}
  (hs:kO P σ f args res σ2) (hd:dk E o.dst) (hC:C) (hb:bs.headD false = true∨nK σ σ2)
  (next:TR P ops r bs.tail (E.putD o.dst ⟨true,res⟩) σ2 k):kW P ops true C f args o r bs E σ k:=fun hrun hγ =>
 TR.cons (ts:=⟨true,⟨true,res⟩,σ2⟩) ⟨hγ,hd,.inr (.inr (.inr (.inr (.inl ⟨rfl,C,f,args,res,hrun,hC,hs,rfl,hb.imp id oD⟩))))⟩ next
theorem uz {id:Nat} {l:List Oper} {K:Kt} {E:Env} {σ:List OB} (hm:P.follows .mixedOrders = true) (masks:List Nat) (bs:List Bool) (hc:chk l.toArray l masks bs = true)
  (h:∀ (k:Env→List OB→Prop),(∀ E σ,K .normal E σ→k E σ)→TR P l.toArray l bs E σ k):W P (.region id l.toArray true) K E σ :=
 uw hm masks bs hc (h (K .normal) fun _ _ h=>h)
theorem eg {id:Nat} {l:List Oper} {y:Code} {K:Kt} {E:Env} {σ:List OB} (ms:List Nat) (hm:P.follows .mixedOrders = true) (masks:List Nat) (bs:List Bool) (hc:chk l.toArray l masks bs = true)
  (h:∀ (k:Env→List OB→Prop),(∀ E σ,W P y K E σ→k E σ)→TR P l.toArray l bs E σ (fun E σ=>k (E.forget ms) σ)):W P (.seq (.region id l.toArray true) y) K E σ :=
 qX (uw hm masks bs hc (by
  obtain ⟨tr,h1,h2⟩:=h (W P y K) fun _ _ h=>h
  exact ⟨tr,h1,mA ms h2⟩))
end
end Pam
namespace Pam
open Go
section
variable {P:Program} {ops:Array Oper}
variable {pv:List Nat}
end
end Pam
namespace Pam
open Go
section
variable {P : Program} {ops : Array Oper} {pv : List Nat}
theorem TRQ.cons {o : Oper} {r : List Oper} {bs ps : List Bool} {rd : List (List Nat)} {lt : List Bool} {E : Env} {σ : List OB} {k : Env → List OB → Prop} {ts : TS} (h : wx P ops pv E σ o (bs.headD false) (ps.headD false) (rd.headD []) (lt.headD false) ts) (ht : TRQ P ops pv r bs.tail ps.tail rd.tail lt.tail (E.putD o.dst ts.e) ts.σ k) : TRQ P ops pv (o :: r) bs ps rd lt E σ k := by
 obtain ⟨tr, h1, h2⟩ := ht
 refine ⟨ts :: tr, ⟨ts, tr, rfl, h, h1⟩, ?_⟩
 simpa [cW, aY] using h2
theorem i2.set {pv : List Nat} {σ : List OB} {b : Nat} {ob : OB} (h : pv.contains b = true) : i2 pv σ (σ.set b ob) :=
 ⟨by simp, fun c hc _ => by
  have : b ≠ c := fun e => by subst e; exact hc (by simpa using h)
  rw [List.getElem?_set_ne this]⟩
end
end Pam
namespace Pam
open Go
section
variable {P:Program} {ops:Array Oper}
end
end Pam
namespace Pam
open Go
section
variable {P : Program} {ops : Array Oper} {pv : List Nat} {E E' : Env} {σ σ' σ2 : List OB} {k : Env → List OB → Prop} {kp : PV → Env → List OB → Prop}
theorem kr {rs : List ResultVar} {n : Nat} {post pp : PV → List OB → Prop} (N : Nat)
  (h : match io P E σ rs with | some (C, ps) => C ∧ ps.all PV.isV = true ∧ (mB (σ.take N) σ ∧ n ≤ (σ.take N).length ∧ ck (σ.take N).length (σ.take N) ∧ (ij ps).underP (σ.take N).length ∧ post (ij ps) (σ.take N)) | none => False := by
   simp only [List.take_succ_cons, List.take_zero, List.take_nil, bF, bT, tab, bX, Sum.elim_inl, Sum.elim_inr, reduceIte, ↓reduceIte, reduceCtorEq, Int.reduceToNat, Nat.reduceDiv, Nat.reduceMod, Nat.reduceLT, Nat.reduceLeDiff, Nat.reduceAdd, Nat.reduceSub, Nat.reduceMul, Nat.reduceEqDiff, Nat.reduceBEq, Nat.reduceBNe, Nat.reduceGT] <;> first | done | rfl | (and_intros <;> first | rfl | omega | (simp; done) | (simp [eK, eB, eS, eL]; done) | (simp [lit, bX, eK, eB, eS, eL]; done) | (simp [CV.under, cQ, CV.frO]; done))) : nW P rs (yk n post) pp .ret E σ := qv (σ.take N) h
theorem kn {rs : List ResultVar} {n : Nat} {post pp : PV → List OB → Prop} (N : Nat)
  (h : match io P E σ rs with | some (C, ps) => C ∧ ps.all PV.isV = true ∧ (mB (σ.take N) σ ∧ n ≤ (σ.take N).length ∧ ck (σ.take N).length (σ.take N) ∧ (ij ps).underP (σ.take N).length ∧ post (ij ps) (σ.take N)) | none => False := by
   simp only [List.take_succ_cons, List.take_zero, List.take_nil, bF, bT, tab, bX, Sum.elim_inl, Sum.elim_inr, reduceIte, ↓reduceIte, reduceCtorEq, Int.reduceToNat, Nat.reduceDiv, Nat.reduceMod, Nat.reduceLT, Nat.reduceLeDiff, Nat.reduceAdd, Nat.reduceSub, Nat.reduceMul, Nat.reduceEqDiff, Nat.reduceBEq, Nat.reduceBNe, Nat.reduceGT] <;> first | done | rfl | (and_intros <;> first | rfl | omega | (simp; done) | (simp [eK, eB, eS, eL]; done) | (simp [lit, bX, eK, eB, eS, eL]; done) | (simp [CV.under, cQ, CV.frO]; done))) : nW P rs (yk n post) pp .normal E σ := yl (σ.take N) h
theorem sp {p q : Prop} (hq : q) (hp : p := by first | omega | assumption | decide | exact cy fun _ => rfl | (intro _; omega) | rfl | exact fun e => absurd (List.map_eq_nil_iff.1 e) (by assumption) | (and_intros <;> first | omega | assumption | decide | exact cy fun _ => rfl) | (refine .inl ?_; simp only [nK]; and_intros <;> first | rfl | trivial) | (refine .inr (.inl ?_); simp only [nK]; and_intros <;> first | rfl | trivial) | (refine .inr ?_; simp only [rb]; and_intros <;> first | exact .inl rfl | exact .inr rfl | trivial) | (refine .inr (.inr ⟨rfl, ?_⟩); simp only [rb]; and_intros <;> first | exact .inl rfl | exact .inr rfl | trivial) | exact .inl rfl) : p ∧ q := ⟨hp, hq⟩
theorem gp {p q : Prop} (hq : q) (h : Bx q → p := by
  intro hq
  simp only [bAP, bT, tab, bX, reduceIte, ↓reduceIte, reduceCtorEq, Int.reduceToNat, Nat.reduceDiv, Nat.reduceMod, Nat.reduceLT, Nat.reduceLeDiff, Nat.reduceAdd, Nat.reduceSub, Nat.reduceMul, Nat.reduceEqDiff, Nat.reduceBEq, Nat.reduceBNe, Nat.reduceGT, List.replicate, List.foldr]
  repeat refine sp ?_
  exact hq.1) : p := h ⟨hq⟩
theorem gpx {p q F : Prop} (fx : F) (hq : q) (h : F → Bx q → p := by
  intro fx hq
  simp only [bAP, bT, tab, bX, reduceIte, ↓reduceIte, reduceCtorEq, Int.reduceToNat, Nat.reduceDiv, Nat.reduceMod, Nat.reduceLT, Nat.reduceLeDiff, Nat.reduceAdd, Nat.reduceSub, Nat.reduceMul, Nat.reduceEqDiff, Nat.reduceBEq, Nat.reduceBNe, Nat.reduceGT, List.replicate, List.foldr, fx]
  repeat refine sp ?_
  exact hq.1) : p := h fx ⟨hq⟩
theorem gt {p q : Prop} (hq : q) (h : Bx q → p := by
  intro hq
  simp only [bR, bT, tab, bX, reduceIte, ↓reduceIte, reduceCtorEq, Int.reduceToNat, Nat.reduceDiv, Nat.reduceMod, Nat.reduceLT, Nat.reduceLeDiff, Nat.reduceAdd, Nat.reduceSub, Nat.reduceMul, Nat.reduceEqDiff, Nat.reduceBEq, Nat.reduceBNe, Nat.reduceGT, bZ]
  repeat refine sd ?_
  exact hq.1) : p := h ⟨hq⟩
theorem la {p : Prop} (h : p := by first | (simp only [bS, bX, reduceIte, ↓reduceIte, reduceCtorEq, Int.reduceToNat, Nat.reduceDiv, Nat.reduceMod, Nat.reduceLT, Nat.reduceLeDiff, Nat.reduceAdd, Nat.reduceSub, Nat.reduceMul, Nat.reduceEqDiff, Nat.reduceBEq, Nat.reduceBNe, Nat.reduceGT] <;> first | done | (and_intros <;> first | rfl | (simp; done) | omega | (simp [lit, bX, eK, eB, eS, eL]; done) | (simp only [jI, List.length_cons, List.length_nil, List.length_append, List.length_set, List.length_replicate, List.length_map, List.length_take, List.length_drop]; omega))) | (simp only [bS, bX, reduceIte, ↓reduceIte, reduceCtorEq, Int.reduceToNat, Nat.reduceDiv, Nat.reduceMod, Nat.reduceLT, Nat.reduceLeDiff, Nat.reduceAdd, Nat.reduceSub, Nat.reduceMul, Nat.reduceEqDiff, Nat.reduceBEq, Nat.reduceBNe, Nat.reduceGT, *] <;> first | done | (and_intros <;> first | rfl | (simp; done) | omega | (simp [lit, bX, eK, eB, eS, eL]; done) | (simp only [jI, List.length_cons, List.length_nil, List.length_append, List.length_set, List.length_replicate, List.length_map, List.length_take, List.length_drop]; omega)))) : p := h
theorem ct {f : FuncId} {args : List PV} {p : PV} (ρ : List Nat) {args' : List PV} {σc : List OB} {post pp : PV → List OB → Prop} (hs : eD P f args' σc post pp)
  (h1 : ρ.Nodup := by simp) (h2 : ∀ b ∈ ρ, b < σ.length := by simp) (h3 : args = args'.map (PV.ren (df σ.length ρ)) := by exact rfl) (h4 : ρ.map (fun b => σ[b]?) = σc.map (fun ob => some (ob.ren (df σ.length ρ))) := by exact rfl)
  (h5 : fC ρ.length args' := by first | trivial | (simp [bX, eK, eB, eS, eL, pW, fC, PV.under, CV.under, ck, OB.under, cQ]; done)) (h6 : ck ρ.length σc := by first | trivial | (simp [bX, eK, eB, eS, eL, pW, fC, PV.under, CV.under, ck, OB.under, cQ]; done))
  (h7 : ∀ q τ, post q τ → ρ.length ≤ τ.length → q.ren (df σ.length ρ) = p ∧ cV σ ρ (τ.map (OB.ren (df σ.length ρ))) = σ2 := by intro q τ hq _; obtain ⟨rfl, rfl⟩ := hq; exact ⟨rfl, rfl⟩) (h8 : ∀ q τ, pp q τ → False := by exact fun _ _ h => h.elim) : kO P σ f args p σ2 := ⟨args', σc, post, pp, ρ, hs, h1, h2, h3, h4, h5, h6, h7, h8⟩
theorem ca {C : Prop} {f : FuncId} {args : List PV} {o : Oper} {r : List Oper} {bs : List Bool} {res : PV} {ops : Array Oper} (hs : kO P σ f args res σ2) (next : gl P ops r bs.tail (E.putD o.dst ⟨true, res⟩) σ2 k)
  (hd : dk E o.dst := by first | trivial | exact kQ rfl) (hC : C := by first | trivial | (intro _; first | trivial | simp [aN]) | simp [aN]) (hb : bs.headD false = true ∨ nK σ σ2 := by first | exact .inl rfl | exact .inr (by simp only [nK]; and_intros <;> first | rfl | trivial)) : kW P ops true C f args o r bs E σ k := wA hs hd hC hb next
theorem cat {C : Prop} {f : FuncId} {args : List PV} {o : Oper} {r : List Oper} {bs : List Bool} {res : PV} {ops : Array Oper} (hs : kO P σ f args res σ2) (next : TR P ops r bs.tail (E.putD o.dst ⟨true, res⟩) σ2 k)
  (hd : dk E o.dst := by first | trivial | exact kQ rfl) (hC : C := by first | trivial | (intro _; first | trivial | simp [aN]) | simp [aN]) (hb : bs.headD false = true ∨ nK σ σ2 := by first | exact .inl rfl | exact .inr (by simp only [nK]; and_intros <;> first | rfl | trivial)) : kW P ops true C f args o r bs E σ k := vr hs hd hC hb next
theorem cap {C : Prop} {f : FuncId} {args : List PV} {o : Oper} {r : List Oper} {bs ps : List Bool} {rd : List (List Nat)} {res : PV} {ops : Array Oper} (hs : kO P σ f args res σ2) (next : il P ops pv r bs.tail ps.tail rd.tail (E.putD o.dst ⟨true, res⟩) σ2 k)
  (hd : dk E o.dst := by first | trivial | exact kQ rfl) (hC : C := by first | trivial | (intro _; first | trivial | simp [aN]) | simp [aN]) (hb : bs.headD false = true ∨ nK σ σ2 := by first | exact .inl rfl | exact .inr (by simp only [nK]; and_intros <;> first | rfl | trivial)) : mF P ops pv true C f args o r bs ps rd E σ k := vt hs hd hC hb next
theorem pat {γ : Bool} {C : Prop} {f : FuncId} {args : List PV} {o : Oper} {r : List Oper} {bs : List Bool} {res : PV} (hs : γ = true → cd P f args res) (next : TR P ops r bs.tail (E.putD o.dst ⟨γ, res⟩) σ k)
  (hd : dk E o.dst := by first | trivial | exact kQ rfl) (hC : γ = true → C := by first | trivial | (intro _; first | trivial | simp [aN]) | simp [aN]) (hargs : args.all PV.noOwn = true := by exact rfl) (hres : ∀ n, res.ren (df n []) = res := by exact fun _ => rfl) : kW P ops γ C f args o r bs E σ k := tj hs hd hC hargs hres next
theorem pap {γ : Bool} {C : Prop} {f : FuncId} {args : List PV} {o : Oper} {r : List Oper} {bs ps : List Bool} {rd : List (List Nat)} {res : PV} (hs : γ = true → cd P f args res) (next : il P ops pv r bs.tail ps.tail rd.tail (E.putD o.dst ⟨γ, res⟩) σ k)
  (hd : dk E o.dst := by first | trivial | exact kQ rfl) (hC : γ = true → C := by first | trivial | (intro _; first | trivial | simp [aN]) | simp [aN]) (hargs : args.all PV.noOwn = true := by exact rfl) (hres : ∀ n, res.ren (df n []) = res := by exact fun _ => rfl) : mF P ops pv γ C f args o r bs ps rd E σ k := tk hs hd hC hargs hres next
end
end Pam
namespace Pam
open Go
section
variable {P:Program} {E:Env} {σ:List OB}
def cpy (l:List Int) (lo n:Nat) (m:List Int):List Int:=if lo + n ≤ l.length then l.take lo ++ m.take n ++ l.drop (lo + min m.length n) else l
theorem AN (l:List Int) (lo n:Nat) (m:List Int):(cpy l lo n m).length = l.length:=by
 unfold cpy
 split
 ·simp only [List.length_append,List.length_take,List.length_drop];omega
 ·rfl
end
end Pam
namespace Pam
open Go
def clr {α:Type} (z:α) (l:List α) (lo n:Nat):List α:=if lo + n ≤ l.length then l.take lo ++ List.replicate n z ++ l.drop (lo + n) else l
theorem AO {α:Type} (z:α) (l:List α) (lo n:Nat):(clr z l lo n).length = l.length:=by
 unfold clr
 split
 ·simp only [List.length_append,List.length_take,List.length_drop,List.length_replicate];omega
 ·rfl
theorem enC {p:Prop} (h:p:=by simp only [bF,bT,tab,bX,Sum.elim_inl,Sum.elim_inr,reduceIte,↓reduceIte,reduceCtorEq,Int.reduceToNat,Nat.reduceDiv,Nat.reduceMod,Nat.reduceLT,Nat.reduceLeDiff,Nat.reduceAdd,Nat.reduceSub,Nat.reduceMul,Nat.reduceEqDiff,Nat.reduceBEq,Nat.reduceBNe,Nat.reduceGT] <;> first | done | rfl | (and_intros <;> first | rfl | omega | (simp;done) | (simp [eK,eB,eS,eL];done) | (simp only [List.length_take,AO,AN];omega))):p:=h
section
variable {P:Program} {E:Env} {σ:List OB}
end
end Pam
namespace Pam
open Go
section
variable {P:Program} {E:Env} {σ:List OB}
theorem qz {E:Env} {σ:List OB} (i b k len':Nat) {s ver len:Nat} {T:TypeId} {es:List (List CV)} (hσ:σ[b]? = some (.arr s ver T es)) (hk:k ≤ es.length) (hE:E.get i = ⟨true,.c (.osl b ver k len)⟩) (hl:len = len') :
  fD E σ (E.put i ⟨true,.c (.osl b (ver + 1) 0 len')⟩) (σ.set b (.arr s (ver + 1) T (es.drop k))):=by
 subst hl
 intro G a w hs
 have hi:=hs.inv
 obtain ⟨o,g1,g2,g3,g4,g5,g6,g7,g8,g9⟩:=hi.own b _ hσ
 have hlt:o.ver < o.ver + 1:=by omega
 have hle:bD G.own (G.own.set b (some { o with ver:=o.ver + 1,off:=o.off + k * s,cap:=o.cap - k })):=bD.set g1 (.inr hlt)
 have hcap:o.cap * s = k * s + (o.cap - k) * s:=by rw [← Nat.add_mul];congr 1;omega
 refine ⟨{ G with own:=G.own.set b (some { o with ver:=o.ver + 1,off:=o.off + k * s,cap:=o.cap - k }) },.mk' ⟨fun _ _ h=>h,rfl,rfl,rfl⟩ hle,hi.change b _ o _ g1 (.inr hlt) (Nat.le_refl _) (fun _ _ _=>rfl) (fun hh=>.inl ⟨rfl,hh⟩) rfl rfl rfl ?_,hs.defers,hs.size,hs.na,fun j hc=>?_⟩
 ·refine ⟨_,ki g1 _,by rw [← g2],g3,g4,by simp;omega,by simp;omega,fun e he=>g7 e (List.mem_of_mem_drop he),fun h=>by have:=g8 h;simp;omega,fun hh=>?_⟩
  obtain ⟨c,fz,r1,r2,r3,r4⟩:=g9 hh
  refine ⟨c,fz,r1,r2,by simp;omega,fun i j e x he hx=>?_⟩
  rw [List.getElem?_drop] at he
  obtain ⟨v,e1,e2⟩:=r4 (k + i) j e x he hx
  refine ⟨v,?_,e2⟩
  rw [← e1]
  congr 1
  rw [Nat.add_mul]
  simp only
  omega
 ·have hg:=Env.get_put E i j _ hc
  rw [hg] at hc ⊢
  by_cases hj:j = i
  ·subst hj
   rw [iP rfl]
   have:=hs.slot j (by rw [hE])
   rw [hE] at this
   obtain ⟨h1,oo,h2,h3⟩:=this
   rw [g1] at h2
   simp only [sJ] at h2
   subst h2
   obtain ⟨q1,q2⟩:=h3 o rfl
   obtain ⟨q3,ad,q4,q5⟩:=q2 g2.symm
   refine ⟨h1,_,ki g1 _,fun o' e=>?_⟩
   simp only [sJ] at e;subst e
   refine ⟨by simp;omega,fun _=>⟨by simp;omega,ad,by rw [q4];simp,fun hh=>?_⟩⟩
   obtain ⟨a',e1,e2⟩:=q5 hh
   refine ⟨a',e1,fun hlt=>?_⟩
   simp only at hlt
   rw [e2 (by omega),g3]
   simp
  ·rw [iN hj] at hc ⊢
   exact aX.mono (G:=G) (G':={ G with own:=G.own.set b (some { o with ver:=o.ver + 1,off:=o.off + k * s,cap:=o.cap - k }) }) (fun _ _ h=>h) hle (hs.slot j hc)
def dK:List (Int×Int)→Int→Option Int
 | [],_=>none
 | (a,c) :: r,n=>if a = n then some c else dK r n
def mII (p:Int×Int):Lit×CV:=(.int .i64 p.1,.int .i64 p.2)
theorem zt:∀ (M:List (Int×Int)) (n:Int),lk (M.map mII) (.int .i64 n) = (dK M n).map (CV.int .i64)
 | [],n=>rfl
 | (a,c) :: r,n=>by
  rw [List.map_cons]
  unfold lk dK mII
  simp only [Lit.int.injEq,true_and]
  by_cases e:a = n
  ·rw [iP e,iP e];rfl
  ·rw [iN e,iN e,← zt r n];rfl
def pZ (P:Program) (t k e:TypeId):Bool:=(match P.underlying t with | some (.map k' e')=>k' == k && e' == e | _=>false) && (match P.underlying k with | some (.int .i64)=>true | _=>false)
theorem sm {t k e:TypeId} (h:pZ P t k e = true):P.underlying t = some (.map k e)∧P.underlying k = some (.int .i64):=by
 unfold pZ at h
 rw [Bool.and_eq_true] at h
 obtain ⟨h1,h2⟩:=h
 constructor
 ·split at h1
  ·rename_i k' e' hu
   simp only [Bool.and_eq_true,beq_iff_eq] at h1
   rw [hu,h1.1,h1.2]
  ·cases h1
 ·split at h2
  ·assumption
  ·cases h2
theorem CL {n:Int} (h:-9223372036854775808 ≤ n∧n ≤ 9223372036854775807):(Lit.int .i64 n).wf = true:=by
 have e1:IntKind.i64.min = -9223372036854775808:=by decide
 have e2:IntKind.i64.max = 9223372036854775807:=by decide
 simp [Lit.wf,e1,e2,h.1,h.2]
theorem ym {o:Oper} {t k e:TypeId} (ho:o.op = .makeMap t none) (ht:pZ P t k e = true):pd P E σ o (.c (.optr σ.length 0)) (σ ++ [.mp P k (([]:List (Int×Int)).map mII)]):=fun G a w hs=>by
 have hi:=hs.inv
 have hle:bD G.own (G.own ++ [some ⟨w.heap.size,1,0,0,true,0⟩]):=bD.append _ _
 have hlast:(G.own ++ [some (⟨w.heap.size,1,0,0,true,0⟩:OG)])[σ.length]? = some (some ⟨w.heap.size,1,0,0,true,0⟩):=by rw [← hi.len];simp
 refine ⟨_,.map (some w.heap.size),w.alloc (.map #[] 0),{ G with own:=G.own ++ [some ⟨w.heap.size,1,0,0,true,0⟩] },?_,.inl rfl,⟨fun _ _ h=>h,rfl,rfl,rfl⟩,hle,?_,?_⟩
 ·simp only [execOp,ho]
  rfl
 ·refine hi.push (.mp P k []) _ (by simp) (fun b hb=>heap_alloc_old w _ hb) (fun _=>rfl) rfl rfl rfl ?_
  exact ⟨_,hlast,rfl,rfl,rfl,.map [],World.ownsMap_made w P k _,fun kl=>by simp [lk,DataW.atKey]⟩
 ·exact ⟨rfl,_,hlast,fun o e _=>by simp only [sJ] at e;subst e;rfl⟩
theorem xy {G:Gh} {w:World} {b:Nat} {k:TypeId} {m:List (Lit×CV)} {v:Value} (hi:Inv G σ w) (hσ:σ[b]? = some (.mp P k m)) (hr:aX G (.c (.optr b 0)) v):∃ o,G.own[b]? = some (some o)∧o.has = true∧o.ver = 0∧o.sz = 1∧yT G.H w P k m o.blk∧v = .map (some o.blk):=by
 obtain ⟨o,h1,h2,h3,h4,h5⟩:=hi.own b _ hσ
 obtain ⟨_,oo,q1,q2⟩:=hr
 rw [h1] at q1
 simp only [sJ] at q1
 exact ⟨o,h1,h2,h3,h4,h5,(q2 o q1.symm h3).trans (iN (by omega))⟩
theorem yn {o:Oper} {t k e:TypeId} {m x:Operand} {M:List (Int×Int)} {b:Nat} {n:Int} (ho:o.op = .lookup t m x true) (hm:ev E m = ⟨true,.c (.optr b 0)⟩) (hx:ev E x = ⟨true,.c (.int .i64 n)⟩)
  (hσ:σ[b]? = some (.mp P k (M.map mII))) (ht:pZ P t k e = true) (hz:(P.info? e).map (·.zero) = some (some (.int .i64 0))) (hn:-9223372036854775808 ≤ n∧n ≤ 9223372036854775807) :
  pd P E σ o (.t [.c (.int .i64 ((dK M n).getD 0)),.c (.bool (dK M n).isSome)]) σ:=.quiet fun G a w hs=>by
 obtain ⟨ht1,hk⟩:=sm ht
 obtain ⟨og,g1,g2,g3,g4,⟨D,⟨es,clock,hb,F,hsz,hD⟩,hlk⟩,hv⟩:=xy hs.inv hσ (tL hs hm)
 have ex:=de (tL hs hx)
 have hz':(zeroValue e).run P w = .ok (.int .i64 0) w:=by
  cases hi:P.info? e with
  | none=>rw [hi] at hz;cases hz
  | some q =>
   rw [hi] at hz
   simp only [Option.map_some,sJ] at hz
   exact fT hi hz
 have hkey:=Maps.keyOf_int_mk hk (CL hn)
 have hl:=hlk (.int .i64 n)
 rw [zt] at hl
 have fin:∀ (val:Value) (c:Int) (f:Bool),(Instr.lookup t (.map (some og.blk)) (.int .i64 n) true).run P w = .ok (.tuple #[val,.bool f]) w→val = .int .i64 c→(dK M n).getD 0 = c→(dK M n).isSome = f →
   ∃ vv,(execOp a.eval o).run P w = .ok (.value vv) w∧aX G (.t [.c (.int .i64 ((dK M n).getD 0)),.c (.bool (dK M n).isSome)]) vv:=by
  intro val c f hrun h1 h2 h3
  refine ⟨.tuple #[val,.bool f],?_,⟨[val,.bool f],rfl,?_,?_,trivial⟩⟩
  ·simp only [execOp,ho,hv,ex]
   exact j7 hrun
  ·rw [h1,h2];exact eM _ _
  ·rw [h3];exact oA _
 rcases Maps.fit_look true (Maps.int_keyed hk) ht1 hz' hb F hkey with ⟨hrun,_,hat⟩ | ⟨e0,y,_,_,hrun,hRv,hat,_⟩
 ·cases hg:dK M n with
  | none=>rw [← hg];exact fin _ 0 false hrun rfl (by rw [hg];rfl) (by rw [hg];rfl)
  | some c =>
   rw [hg] at hl
   obtain ⟨v,h1,_⟩:=hl
   have e1:=h1 (.held (.bool true))
   have e2:=h1 (.held (.bool false))
   rw [hD,hat] at e1 e2
   rw [← e1] at e2
   simp at e2
 ·simp only [sJ] at hRv
  cases hg:dK M n with
  | none =>
   rw [hg] at hl
   have e1:=hl (.lit (.bool true))
   rw [hD,hat,← hRv] at e1
   cases e1
  | some c =>
   rw [hg] at hl
   obtain ⟨v,h1,h2⟩:=hl
   have e1:=h1 (.lit (.bool true))
   rw [hD,hat,← hRv] at e1
   simp only [DataW.held.injEq] at e1
   rw [← hg]
   refine fin _ c true hrun ?_ (by rw [hg];rfl) (by rw [hg];rfl)
   rw [e1]
   cases h2
   rfl
theorem zv {o:Oper} {t k e:TypeId} {m x y:Operand} {M:List (Int×Int)} {b:Nat} {n c:Int} (ho:o.op = .mapUpdate t m x y) (hm:ev E m = ⟨true,.c (.optr b 0)⟩) (hx:ev E x = ⟨true,.c (.int .i64 n)⟩) (hy:ev E y = ⟨true,.c (.int .i64 c)⟩)
  (hσ:σ[b]? = some (.mp P k (M.map mII))) (ht:pZ P t k e = true) (hn:-9223372036854775808 ≤ n∧n ≤ 9223372036854775807) (hl:M.length < 1000000) :
  pd P E σ o .x (σ.set b (.mp P k (((n,c) :: M).map mII))):=fun G a w hs=>by
 obtain ⟨ht1,hk⟩:=sm ht
 have hi:=hs.inv
 obtain ⟨og,g1,g2,g3,g4,⟨D,hown,hlk⟩,hv⟩:=xy hi hσ (tL hs hm)
 have ex:=de (tL hs hx)
 have ey:=de (tL hs hy)
 have hkey:=Maps.keyOf_int_mk hk (CL hn)
 have K:=Maps.int_keyed hk
 have hDm:Maps.IsMap D:=by obtain ⟨es,clock,_,_,_,hD⟩:=hown;exact ⟨_,hD⟩
 obtain ⟨w',hrun,hown',hg⟩:=hown.update (val:=.int .i64 c) (d:=.held (.int .i64 c)) (ps:=[]) K ht1 (by simp [maxLen];omega) hkey rfl
 have hG:({ G with own:=G.own.set b (some og) }:Gh) = G:=by
  have:G.own.set b (some og) = G.own:=by
   apply List.ext_getElem?
   intro k
   by_cases e:b = k
   ·subst e;rw [g1];simp [(List.getElem?_eq_some_iff.1 g1).1]
   ·rw [List.getElem?_set_ne e]
  cases G;simp_all
 refine ⟨.skip,undef,w',G,?_,.inr ⟨rfl,rfl⟩,mn.refl G,bD.refl _,?_,trivial⟩
 ·simp only [execOp,ho,hv,ex,ey,Sem.run_bind,hrun,Result.andThen_ok,Sem.run_pure]
 ·have key:=hi.change (w':=w') b (.mp P k (((n,c) :: M).map mII)) og og g1 (.inl rfl) hg.size (fun q hq hne=>hg.block q hq (fun e=>hne g2 (by simpa using e))) (fun hh'=>.inl ⟨rfl,hh'⟩) hg.os hg.tape hg.output (by
   rw [hG]
   refine ⟨og,g1,g2,g3,g4,D.put (.int .i64 n) (.held (.int .i64 c)),by simpa using hown',fun kl=>?_⟩
   rw [List.map_cons]
   unfold lk mII
   simp only
   by_cases ek:Lit.int .i64 n = kl
   ·rw [iP ek,← ek]
    exact ⟨.int .i64 c,fun z=>Maps.atKey_put_same hDm (K.key hkey) _ z,.int _ _⟩
   ·rw [iN ek]
    have:=hlk kl
    simp only [Maps.atKey_put_other (fun e=>ek e.symm)]
    exact this)
  rw [hG] at key
  exact key
end
end Pam
namespace Pam
open Go
def nN {α:Type} (s:Nat) (e:α→List CV):List α→CV
 | []=>.nils
 | a :: l=>.tree s ((a :: l).map e)
def eN {α:Type} (s:Nat) (e:α→List CV) (o:List α):List CV:=[nN s e o]
theorem vu {α:Type} {l:List α} [Decidable (l = [])] (h:decide (l = []) = true) (s:Nat) (e:α→List CV):nN s e l = .nils:=by rw [of_decide_eq_true h];rfl
theorem so {α:Type} {l:List α} (h:l ≠ []) (s:Nat) (e:α→List CV):nN s e l = .tree s (l.map e):=by cases l with | nil=>exact absurd rfl h | cons a l=>rfl
theorem vw {α:Type} {l:List α} [Decidable (l = [])] (h:decide (l = []) = false) (s:Nat) (e:α→List CV):nN s e l = .tree s (l.map e):=so (of_decide_eq_false h) s e
section
variable {P:Program} {E:Env} {σ σ':List OB}
theorem xC {K:Kt} {x:PX} (h:σ = σ') (hk:K x E σ'):K x E σ:=h ▸ hk
end
end Pam
