/- Regions whose order is open, with memory set aside that nothing looks at ahead of the region's last operation. -/
import Derived.Test.YtiennljikiipoaaSBase2
set_option linter.all false
namespace Pam
open Go
def sQ (o : Oper) : Bool := match o.op with | .alloc _ => true | _ => false
def lR (o : Oper) : Oper := { dst := none, op := .move (.const (.bool true)), type := o.type, pos := o.pos, after := o.after, guard := o.guard }
def nF (o : Oper) : Oper := match o.op with | .alloc _ => lR o | _ => o
def eq : List Oper → List Oper
 | [] => []
 | [q] => [lR q]
 | o :: o2 :: r => nF o :: eq (o2 :: r)
def jW : List Oper → List Oper
 | [] => []
 | [q] => [q]
 | o :: o2 :: r => match o.op with | .alloc _ => o :: jW (o2 :: r) | _ => jW (o2 :: r)
def uS (l : List Oper) (ts : List Nat) (bs : List Bool) : Bool :=
 bs.getD (l.length - 1) false && decide (0 < l.length) &&
 l.zipIdx.all fun (o, i) =>
  (if i + 1 < l.length then !sQ o || (o.guard.isNone && (match o.dst with | some t => decide (t < 512) && ts.contains t && (l.zipIdx.all fun (y, j) => j == i || y.dst != some t) | none => false)) else o.dst.isNone && o.guard.isNone && !sQ o) &&
  (match o.guard with | some (g, _) => (match l[g]? with | some y => !sQ y | none => true) | none => true)
def uT (l : List Oper) (ts masks : List Nat) (bs : List Bool) : Bool := chk (eq l).toArray (eq l) masks bs && uS l ts bs
structure tO (l : List Oper) (ts : List Nat) (bs : List Bool) : Prop where
 bar : bs.getD (l.length - 1) false = true
 pos : 0 < l.length
 al : ∀ (i : Nat) (o : Oper) (T : TypeId), l[i]? = some o → i + 1 < l.length → o.op = .alloc T → o.guard = none ∧ ∃ t, o.dst = some t ∧ t < 512 ∧ t ∈ ts ∧ ∀ (j : Nat) (y : Oper), l[j]? = some y → j ≠ i → y.dst ≠ some t
 last : ∀ (i : Nat) (o : Oper), l[i]? = some o → i + 1 = l.length → o.dst = none ∧ o.guard = none
 ref : ∀ (i : Nat) (o : Oper) (g : Nat) (b : Bool) (y : Oper), l[i]? = some o → o.guard = some (g, b) → l[g]? = some y → ∀ T, y.op ≠ .alloc T
theorem tP {l : List Oper} {ts : List Nat} {bs : List Bool} (h : uS l ts bs = true) : tO l ts bs := by
 unfold uS at h
 simp only [Bool.and_eq_true, List.all_eq_true, decide_eq_true_eq] at h
 obtain ⟨⟨h1, h2⟩, h3⟩ := h
 have m : ∀ (i : Nat) (o : Oper), l[i]? = some o → (o, i) ∈ l.zipIdx := fun i o ho => by
  rw [List.mem_zipIdx_iff_getElem?]; simpa using ho
 refine ⟨h1, h2, ?_, ?_, ?_⟩
 ·intro i o T ho hi hop
  have := (h3 _ (m i o ho)).1
  simp only [iP hi, sQ, hop, Bool.not_true, Bool.false_or, Bool.and_eq_true, Option.isNone_iff_eq_none] at this
  obtain ⟨g, h⟩ := this
  refine ⟨g, ?_⟩
  cases hd : o.dst with
  | none => rw [hd] at h; simp at h
  | some t =>
   rw [hd] at h
   simp only [Bool.and_eq_true, decide_eq_true_eq, List.contains_eq_mem, List.all_eq_true, Bool.or_eq_true, beq_iff_eq, bne_iff_ne] at h
   refine ⟨t, rfl, h.1.1, h.1.2, fun j y hy hji => ?_⟩
   rcases h.2 _ (m j y hy) with h | h
   ·exact (hji h).elim
   ·exact h
 ·intro i o ho hi
  have := (h3 _ (m i o ho)).1
  simp only [iN (by omega : ¬ i + 1 < l.length), Bool.and_eq_true, Option.isNone_iff_eq_none] at this
  exact this.1
 ·intro i o g b y ho hg hy T hop
  have := (h3 _ (m i o ho)).2
  simp [hg, hy, sQ, hop] at this
theorem iv : ∀ l : List Oper, (eq l).length = l.length
 | [] => rfl
 | [q] => rfl
 | o :: o2 :: r => by simp only [eq, List.length_cons]; rw [iv (o2 :: r)]; rfl
theorem jc : ∀ (l : List Oper) (i : Nat) (o : Oper), l[i]? = some o → (eq l)[i]? = some (if i + 1 < l.length then nF o else lR o)
 | [], i, o, h => by simp at h
 | [q], 0, o, h => by simp at h; subst h; rfl
 | [q], i + 1, o, h => by simp at h
 | a :: o2 :: r, 0, o, h => by simp at h; subst h; simp [eq]
 | a :: o2 :: r, i + 1, o, h => by
  have := jc (o2 :: r) i o (by simpa using h)
  simp only [eq, List.getElem?_cons_succ, this, List.length_cons]
  congr 1
  by_cases e : i + 1 < r.length + 1
  ·rw [iP e, iP (by omega)]
  ·rw [iN e, iN (by omega)]
theorem lA {o : Oper} (h : ∀ T, o.op ≠ .alloc T) : nF o = o := by
 unfold nF
 split
 ·rename_i T e; exact (h T e).elim
 ·rfl
theorem rf {o : Oper} {T : TypeId} (h : o.op = .alloc T) : nF o = lR o := by unfold nF; rw [h]
theorem qF (o : Oper) : (nF o).after = o.after ∧ (nF o).guard = o.guard := by
 unfold nF
 split <;> exact ⟨rfl, rfl⟩
theorem mn {l : List Oper} {i : Nat} {o' : Oper} (h : (eq l)[i]? = some o') : ∃ o, l[i]? = some o ∧ o' = (if i + 1 < l.length then nF o else lR o) ∧ o'.after = o.after ∧ o'.guard = o.guard := by
 have hlt : i < l.length := by rw [← iv]; exact (List.getElem?_eq_some_iff.1 h).1
 have e := jc l i l[i] (List.getElem?_eq_getElem hlt)
 rw [h] at e
 simp only [sJ] at e
 refine ⟨l[i], List.getElem?_eq_getElem hlt, e, ?_⟩
 rw [e]
 split
 ·exact qF _
 ·exact ⟨rfl, rfl⟩
theorem nG {l : List Oper} {listed : Array Bool} {i : Nat} (h : i ∈ Region.ready .any l.toArray listed) : i ∈ Region.ready .any (eq l).toArray listed := by
 obtain ⟨h1, o, ho, h2⟩ := mem_ready.1 h
 have ho' : l[i]? = some o := by simpa using ho
 have e := jc l i o ho'
 obtain ⟨o2, q1, q2, q3, q4⟩ := mn e
 rw [ho'] at q1
 simp only [sJ] at q1
 subst q1
 refine mem_ready.2 ⟨h1, _, by simpa using e, fun x hx => ?_⟩
 rw [q3] at hx
 exact h2 x hx
section
variable {P : Program}
theorem Oper.wp_put {o : Oper} {a : Act} {w : World} {K : Act → World → Prop} {Q : Exit → Act → World → Prop} (h : o.wp P a w K Q) :
  o.wp P a w (fun a' w' => K a' w' ∧ ∀ t, o.dst ≠ some t → a'.tmps.getD t undef = a.tmps.getD t undef) Q := by
 have key : ∀ (a1 : Act) (v : Value) (t : Nat), a1.tmps = a.tmps → o.dst ≠ some t → (a1.put o.dst v).tmps.getD t undef = a.tmps.getD t undef := by
  intro a1 v t h1 ht
  cases hd : o.dst with
  | none => simp [Act.put, h1]
  | some d =>
   have hne : d ≠ t := fun e => ht (by rw [hd, e])
   simp only [Act.put, Array.getD_eq_getD_getElem?, h1]
   rw [Array.getElem?_setIfInBounds_ne hne]
 unfold Oper.wp at *
 generalize (execOp a.eval o).run P w = r at *
 cases r with
 | ok n w' =>
  cases n <;> simp only [Oper.upon] at h ⊢ <;>
   first
    | exact ⟨h, fun t ht => key _ _ t rfl ht⟩
    | exact Calls.mono h (fun e w'' he => by cases e <;> first | exact ⟨he, fun t ht => key _ _ t rfl ht⟩ | exact he)
    | exact Rows.mono h (fun _ _ he => ⟨he, fun t ht => key _ _ t rfl ht⟩)
 | halt x w' => cases x <;> simp only [Oper.upon] at h ⊢ <;> exact h
theorem sR {ops : Array Oper} {Q : Exit → Act → World → Prop} {i : Nat} {o : Oper} {K : Act → World → Prop} {a : Act} {w : World} (ho : ops[i]? = some o) (h : wpOp P ops Q i K a w) :
  wpOp P ops Q i (fun a' w' => K a' w' ∧ ∀ t, o.dst ≠ some t → a'.tmps.getD t undef = a.tmps.getD t undef) a w := by
 unfold wpOp at *
 simp only [ho] at h ⊢
 split
 ·rename_i hw; simp only [hw, if_true] at h; exact h.imp Oper.wp_put id
 ·rename_i hw
  simp only [hw] at h
  refine ⟨h, fun t ht => ?_⟩
  cases hd : o.dst with
  | none => simp [Act.put]
  | some d =>
   have hne : d ≠ t := fun e => ht (by rw [hd, e])
   simp only [Act.put, Array.getD_eq_getD_getElem?]
   rw [Array.getElem?_setIfInBounds_ne hne]
theorem pK {l : List Oper} {ts : List Nat} {bs : List Bool} (v : tO l ts bs) {i : Nat} {o : Oper} (ho : l[i]? = some o) (tmps : Array Value) :
  Region.wanted o (yielded (eq l).toArray tmps) = Region.wanted o (yielded l.toArray tmps) := by
 unfold Region.wanted
 cases hg : o.guard with
 | none => rfl
 | some gb =>
  obtain ⟨g, b⟩ := gb
  simp only
  have : yielded (eq l).toArray tmps g = yielded l.toArray tmps g := by
   unfold yielded
   simp only [List.getElem?_toArray]
   cases hy : l[g]? with
   | none =>
    have : (eq l)[g]? = none := by
     rw [List.getElem?_eq_none_iff] at hy ⊢
     rw [iv]; exact hy
    rw [this]
   | some y =>
    rw [jc l g y hy]
    by_cases e : g + 1 < l.length
    ·rw [iP e, lA (v.ref i o g b y ho hg hy)]
    ·rw [iN e]
     have := (v.last g y hy (by have := (List.getElem?_eq_some_iff.1 hy).1; omega)).1
     simp [lR, this]
  rw [this]
theorem rP {l : List Oper} {ts : List Nat} {bs : List Bool} (v : tO l ts bs) {Q : Exit → Act → World → Prop} {i : Nat} {o : Oper} {K : Act → World → Prop} {a : Act} {w : World} (ho : l[i]? = some o) (hi : i + 1 < l.length) (hn : ∀ T, o.op ≠ .alloc T)
  (h : wpOp P (eq l).toArray Q i K a w) : wpOp P l.toArray Q i (fun a' w' => K a' w' ∧ ∀ t, o.dst ≠ some t → a'.tmps.getD t undef = a.tmps.getD t undef) a w := by
 have e := jc l i o ho
 rw [iP hi, lA hn] at e
 have h' := sR (o := o) (by simpa using e) h
 unfold wpOp at h' ⊢
 simp only [List.getElem?_toArray, e, ho, pK v ho] at h' ⊢
 exact h'
theorem Inv.aside {G : Gh} {σ : List OB} {w : World} (hi : Inv G σ w) (x : Obj) : Inv { G with F := fun b => if b = w.heap.size then some x else G.F b } σ (w.alloc x) := by
 have old : ∀ b, b < w.heap.size → (w.alloc x).heap[b]? = w.heap[b]? := fun b hb => heap_alloc_old w _ hb
 constructor
 ·intro b y h; rw [old b (cb (hi.hH b y h))]; exact hi.hH b y h
 ·intro b y h
  simp only at h
  by_cases e : b = w.heap.size
  ·rw [iP e] at h; rw [e, ← h]; exact heap_alloc_new w _
  ·rw [iN e] at h; rw [old b (cb (hi.hF b y h))]; exact hi.hF b y h
 ·intro b y h
  simp only at h ⊢
  by_cases e : b = w.heap.size
  ·cases hx : G.H b with
   | none => rfl
   | some z => have := cb (hi.hH _ _ hx); omega
  ·rw [iN e] at h; exact hi.HF b y h
 ·exact hi.len
 ·intro b ob h
  exact (hi.own b ob h).keep (fun _ _ h => h) (a8.refl _) rfl fun o ho hh => old _ (jI hi ho hh)
 ·exact hi.inj
 ·intro b o h hh
  have := jI hi h hh
  refine ⟨(hi.sep b o h hh).1, ?_⟩
  simp only
  rw [iN (by omega)]
  exact (hi.sep b o h hh).2
 ·exact hi.os
 ·exact hi.tape
 ·exact hi.output
 ·exact Nat.le_trans hi.grow (by simp)
theorem Inv.gain {G : Gh} {σ : List OB} {w : World} (hi : Inv G σ w) {blk : Nat} {cs : List CV} {c : Array Value} {T : TypeId} (hA : w.heap[blk]? = some (.cells c T)) (hB : G.H blk = none) (hC : G.F blk = none)
  (hD : ∀ (b : Nat) (o : OG), G.own[b]? = some (some o) → o.has = true → o.blk ≠ blk) (h : aG (Rep G) cs c.toList) : Inv { G with own := G.own ++ [some ⟨blk, 0, 0, 0, true⟩] } (σ ++ [.box cs]) w := by
 have hle : a8 G.own (G.own ++ [some ⟨blk, 0, 0, 0, true⟩]) := a8.append _ _
 have split : ∀ (b : Nat) (o' : OG), (G.own ++ [some (⟨blk, 0, 0, 0, true⟩ : OG)])[b]? = some (some o') → (b < G.own.length ∧ G.own[b]? = some (some o')) ∨ (b = G.own.length ∧ o' = ⟨blk, 0, 0, 0, true⟩) := by
  intro b o' h
  rcases Nat.lt_or_ge b G.own.length with hb | hb
  ·rw [List.getElem?_append_left hb] at h; exact .inl ⟨hb, h⟩
  ·rw [List.getElem?_append_right hb] at h
   rcases Nat.eq_zero_or_pos (b - G.own.length) with e | e
   ·rw [e] at h; simp at h; exact .inr ⟨by omega, h.symm⟩
   ·rw [List.getElem?_eq_none (by simp; omega)] at h; cases h
 constructor
 ·exact hi.hH
 ·exact hi.hF
 ·exact hi.HF
 ·simp [hi.len]
 ·intro b ob' h'
  rcases Nat.lt_or_ge b σ.length with hb | hb
  ·rw [List.getElem?_append_left hb] at h'
   refine (hi.own b ob' h').keep (fun _ _ h => h) hle ?_ fun o' ho' hh => rfl
   exact List.getElem?_append_left (by rw [hi.len]; exact hb)
  ·rw [List.getElem?_append_right hb] at h'
   rcases Nat.eq_zero_or_pos (b - σ.length) with e | e
   ·rw [e] at h'; simp at h'
    have : b = σ.length := by omega
    subst this; subst h'
    refine ⟨⟨blk, 0, 0, 0, true⟩, c, T, ?_, rfl, rfl, hA, aG.mono (R := Rep G) (fun _ _ hr => Rep.mono (G := G) (G' := { G with own := G.own ++ [some ⟨blk, 0, 0, 0, true⟩] }) (fun _ _ h => h) hle hr) h⟩
    show (G.own ++ _)[σ.length]? = _
    rw [← hi.len]; simp
   ·rw [List.getElem?_eq_none (by simp; omega)] at h'; cases h'
 ·intro b b' o1 o2 h1 h2 hh1 hh2 he
  rcases split b o1 h1 with ⟨hb, g1⟩ | ⟨hb, g1⟩ <;> rcases split b' o2 h2 with ⟨hb', g2⟩ | ⟨hb', g2⟩
  ·exact hi.inj b b' o1 o2 g1 g2 hh1 hh2 he
  ·exact (hD b o1 g1 hh1 (by rw [he, g2])).elim
  ·exact (hD b' o2 g2 hh2 (by rw [← he, g1])).elim
  ·omega
 ·intro b o1 h1 hh1
  rcases split b o1 h1 with ⟨hb, h1⟩ | ⟨hb, rfl⟩
  ·exact hi.sep b o1 h1 hh1
  ·exact ⟨hB, hC⟩
 ·exact hi.os
 ·exact hi.tape
 ·exact hi.output
 ·exact hi.grow
theorem Inv.less {G : Gh} {σ : List OB} {w : World} (hi : Inv G σ w) (F : Nat → Option Obj) (h : ∀ b x, F b = some x → G.F b = some x) : Inv { G with F := F } σ w := by
 constructor
 ·exact hi.hH
 ·exact fun b x e => hi.hF b x (h b x e)
 ·exact fun b x e => hi.HF b x (h b x e)
 ·exact hi.len
 ·exact fun b ob e => (hi.own b ob e).keep (fun _ _ h => h) (a8.refl _) rfl fun _ _ _ => rfl
 ·exact hi.inj
 ·intro b o e hh
  refine ⟨(hi.sep b o e hh).1, ?_⟩
  show F o.blk = none
  cases hx : F o.blk with
  | none => rfl
  | some x => have := h _ _ hx; rw [(hi.sep b o e hh).2] at this; cases this
 ·exact hi.os
 ·exact hi.tape
 ·exact hi.output
 ·exact hi.grow
def ws (P : Program) (l : List Oper) (G0 G1 : Gh) (listed : Array Bool) (a : Act) : Prop :=
 G1.H = G0.H ∧ G1.own = G0.own ∧ G1.w0 = G0.w0 ∧ G1.na = G0.na ∧ (∀ b x, G0.F b = some x → G1.F b = some x) ∧
 ∃ pb : Nat → Nat,
  (∀ (i j : Nat) (o o' : Oper) (T T' : TypeId), l[i]? = some o → l[j]? = some o' → i + 1 < l.length → j + 1 < l.length → o.op = .alloc T → o'.op = .alloc T' → listed.getD i false = true → listed.getD j false = true → pb i = pb j → i = j) ∧
  ∀ (i : Nat) (o : Oper) (T : TypeId) (t : Nat), l[i]? = some o → i + 1 < l.length → o.op = .alloc T → o.dst = some t → listed.getD i false = true →
   a.tmps.getD t undef = .pointer (some ⟨pb i, 0, none⟩) ∧ G0.F (pb i) = none ∧ ∃ inf u, P.info? T = some inf ∧ inf.zero = some u ∧ G1.F (pb i) = some (.cells u.cells T)
def StA (P : Program) (l : List Oper) (tr : List TS) (E : Env) (σ : List OB) (G0 : Gh) (listed : Array Bool) (a : Act) (w : World) : Prop :=
 ∃ G1, ws P l G0 G1 listed a ∧ StJ (eq l) tr E σ G1 listed a w
theorem jX {l : List Oper} {listed : Array Bool} (hsz : listed.size = l.length) {i : Nat} (hi : i ∈ Region.ready .any l.toArray listed) : listed.getD i false = false ∧ i < l.length ∧ ∃ o, l[i]? = some o ∧ ∀ j ∈ dz o, listed.getD j false = true := by
 obtain ⟨hun, o, ho', hdeps⟩ := mem_ready.1 hi
 have ho : l[i]? = some o := by simpa using ho'
 have hil : i < l.length := (List.getElem?_eq_some_iff.1 ho).1
 refine ⟨?_, hil, o, ho, fun j hj => ?_⟩
 ·rw [Array.getD_eq_getD_getElem?] at hun ⊢
  rw [Array.getElem?_eq_getElem (by omega)] at hun ⊢
  simpa using hun
 ·simp only [dz, List.mem_map, List.mem_filter] at hj
  obtain ⟨e, ⟨h1, h2⟩, rfl⟩ := hj
  exact hdeps e (by simpa using h1) h2
theorem StA.step {l : List Oper} {ts : List Nat} {bs : List Bool} {masks : List Nat} {E : Env} {σ : List OB} {tr : List TS} (c : Chk (eq l).toArray (eq l) masks bs) (v : tO l ts bs) (ht : kk P (eq l).toArray (eq l) bs E σ tr)
  (hE : ∀ t ∈ ts, (E.get t).cond = false) (hz : ∀ (i : Nat) (o : Oper) (T : TypeId), l[i]? = some o → i + 1 < l.length → o.op = .alloc T → (∃ z, hQ P T = some z) ∧ cL E o.dst) (G0 : Gh) {Q : Exit → Act → World → Prop} (listed : Array Bool) (a : Act) (w : World) (i : Nat)
  (hJ : StA P l tr E σ G0 listed a w) (hi : i ∈ Region.ready .any l.toArray listed) (hlt : i + 1 < l.length) : wpOp P l.toArray Q i (StA P l tr E σ G0 (listed.setIfInBounds i true)) a w := by
 obtain ⟨G1, ⟨p1, p2, p3, p4, p5, pb, p6, p7⟩, hS⟩ := hJ
 have hsz : listed.size = l.length := by rw [hS.1, iv]
 obtain ⟨hi0, hil, o, ho, hr⟩ := jX hsz hi
 have hset : ∀ j, (listed.setIfInBounds i true).getD j false = if j = i then true else listed.getD j false := fun j => rF _ _ _ (by omega)
 by_cases hn : ∀ T, o.op ≠ .alloc T
 ·have h1 := StJ.step (Q := Q) c ht G1 listed a w i hS (nG hi)
  refine wpOp_mono (fun a' w' h => ?_) (rP v ho hlt hn h1)
  obtain ⟨h2, h3⟩ := h
  refine ⟨G1, ⟨p1, p2, p3, p4, p5, pb, ?_, ?_⟩, h2⟩
  ·intro j k y y' T T' hy hy' hj hk hop hop' hl hl'
   rw [hset] at hl hl'
   have nj : j ≠ i := fun e => by subst e; rw [ho] at hy; simp only [sJ] at hy; subst hy; exact hn T hop
   have nk : k ≠ i := fun e => by subst e; rw [ho] at hy'; simp only [sJ] at hy'; subst hy'; exact hn T' hop'
   rw [iN nj] at hl
   rw [iN nk] at hl'
   exact p6 j k y y' T T' hy hy' hj hk hop hop' hl hl'
  ·intro j y T t hy hj hop hd hl
   rw [hset] at hl
   have nj : j ≠ i := fun e => by subst e; rw [ho] at hy; simp only [sJ] at hy; subst hy; exact hn T hop
   rw [iN nj] at hl
   obtain ⟨q1, q2⟩ := p7 j y T t hy hj hop hd hl
   obtain ⟨_, t', g1, _, _, g4⟩ := v.al j y T hy hj hop
   rw [hd] at g1
   simp only [sJ] at g1
   subst g1
   exact ⟨(h3 t (g4 i o ho (fun e => nj e.symm))).trans q1, q2⟩
 ·obtain ⟨T, hop⟩ : ∃ T, o.op = .alloc T := Classical.byContradiction fun h => hn fun T e => h ⟨T, e⟩
  obtain ⟨hg, t, hd, ht512, hts, huniq⟩ := v.al i o T ho hlt hop
  obtain ⟨⟨z, hzT⟩, hdok⟩ := hz i o T ho hlt hop
  obtain ⟨hsz', hcl, G, p, hG, hp, hloud, hinv, hdef, htm, hna, hslot⟩ := hS
  obtain ⟨inf, u, e1, e2, e3, e4, _, e5⟩ := gM G hzT
  have hFG : G.F = G1.F := hG.le.F
  have hvi := jc l i o ho
  rw [iP hlt, rf hop] at hvi
  have hrun : (execOp a.eval o).run P w = .ok (.value (.pointer (some ⟨w.heap.size, 0, none⟩))) (w.alloc (.cells u.cells T)) := by
   simp [execOp, hop, Instr.alloc, gq e1 e2, newVar, newRow]
  unfold wpOp
  simp only [List.getElem?_toArray, ho]
  rw [iP (by unfold Region.wanted; rw [hg])]
  left
  unfold Oper.wp
  rw [hrun]
  show StA P l tr E σ G0 (listed.setIfInBounds i true) (a.put o.dst _) _
  rw [hd]
  have hfree : ∀ j y, l[j]? = some y → j + 1 < l.length → (∃ T, y.op = .alloc T) → listed.getD j false = true → pb j ≠ w.heap.size := by
   intro j y hy hj ⟨T', hop'⟩ hl e
   obtain ⟨_, t', g1, _⟩ := v.al j y T' hy hj hop'
   obtain ⟨_, _, _, _, _, _, q⟩ := p7 j y T' t' hy hj hop' g1 hl
   rw [← hFG] at q
   have := cb (hinv.hF _ _ q)
   omega
  have hput : ∀ t', t' ≠ t → (a.put (some t) (.pointer (some ⟨w.heap.size, 0, none⟩))).tmps.getD t' undef = a.tmps.getD t' undef := by
   intro t' hne
   simp only [Act.put, Array.getD_eq_getD_getElem?]
   rw [Array.getElem?_setIfInBounds_ne (Ne.symm hne)]
  refine ⟨{ G1 with F := fun b => if b = w.heap.size then some (.cells u.cells T) else G1.F b }, ⟨p1, p2, p3, p4, ?_, fun j => if j = i then w.heap.size else pb j, ?_, ?_⟩, ?_⟩
  ·intro b x hb
   have h1 := p5 b x hb
   simp only
   rw [iN]
   ·exact h1
   ·intro e
    rw [← hFG] at h1
    have := cb (hinv.hF _ _ h1)
    omega
  ·intro j k y y' T1 T2 hy hy' hj hk hop1 hop2 hl hl' he
   rw [hset] at hl hl'
   simp only at he
   by_cases nj : j = i <;> by_cases nk : k = i
   ·omega
   ·rw [iP nj, iN nk] at he; rw [iN nk] at hl'
    exact (hfree k y' hy' hk ⟨T2, hop2⟩ hl' he.symm).elim
   ·rw [iN nj, iP nk] at he; rw [iN nj] at hl
    exact (hfree j y hy hj ⟨T1, hop1⟩ hl he).elim
   ·rw [iN nj, iN nk] at he; rw [iN nj] at hl; rw [iN nk] at hl'
    exact p6 j k y y' T1 T2 hy hy' hj hk hop1 hop2 hl hl' he
  ·intro j y T' t' hy hj hop' hd' hl
   rw [hset] at hl
   by_cases nj : j = i
   ·subst nj
    rw [ho] at hy
    simp only [sJ] at hy
    subst hy
    rw [hd] at hd'
    simp only [sJ] at hd'
    subst hd'
    rw [hop] at hop'
    simp only [Op.alloc.injEq] at hop'
    subst hop'
    simp only [if_true]
    refine ⟨?_, ?_, inf, u, e1, e2, ?_⟩
    ·have : t < a.tmps.size := by
      rw [htm]
      rw [hd] at hdok
      exact hdok
     simp [Act.put, Array.getD, this]
    ·cases hx : G0.F w.heap.size with
     | none => rfl
     | some x =>
      have h1 := p5 _ _ hx
      rw [← hFG] at h1
      have := cb (hinv.hF _ _ h1)
      omega
    ·simp
   ·rw [iN nj] at hl
    obtain ⟨q1, q2, inf', u', q3, q4, q5⟩ := p7 j y T' t' hy hj hop' hd' hl
    simp only [iN nj]
    have hne : t' ≠ t := fun e => huniq j y hy nj (by rw [hd', e])
    refine ⟨(hput t' hne).trans q1, q2, inf', u', q3, q4, ?_⟩
    rw [iN (hfree j y hy hj ⟨T', hop'⟩ hl)]
    exact q5
  ·refine ⟨by simpa using hsz', ?_, { G with F := fun b => if b = w.heap.size then some (.cells u.cells T) else G1.F b }, p, ⟨⟨hG.le.H, rfl, hG.le.w0, hG.le.na⟩, hG.own⟩, hp, ?_, ?_, hdef, by simpa [Act.put] using htm, hna, ?_⟩
   ·intro k ok hk hdn j hj
    simp only at hdn ⊢
    rw [hset] at hdn ⊢
    by_cases e : k = i
    ·subst e; rw [hvi] at hk; simp only [sJ] at hk; subst hk
     by_cases e' : j = k
     ·rw [iP e']
     ·rw [iN e']; exact hr j hj
    ·rw [iN e] at hdn
     by_cases e' : j = i
     ·rw [iP e']
     ·rw [iN e']; exact hcl k ok hk hdn j hj
   ·intro j y hy hly
    rw [hset]
    by_cases e : j = i
    ·subst e; rw [hvi] at hy; simp only [sJ] at hy; subst hy; simp [eY, lR] at hly
    ·rw [iN e]; exact hloud j y hy hly
   ·have := hinv.aside (.cells u.cells T)
    rw [hFG] at this
    exact this
   ·intro t' ht' hc
    have hfun : (fun k => (listed.setIfInBounds i true).getD k false) = (fun k => if k = i then true else listed.getD k false) := by
     funext k; exact hset k
    rw [hfun] at hc ⊢
    rw [mJ t' (eq l) tr _ _ i _ hvi (by simp [lR])] at hc ⊢
    by_cases e : t' = t
    ·subst e
     have hno : ∀ (j : Nat) (y : Oper), (eq l)[j]? = some y → y.dst = some t' → False := by
      intro j y hy hyd
      obtain ⟨y0, g1, g2, _⟩ := mn hy
      by_cases ej : j + 1 < l.length
      ·rw [iP ej] at g2
       by_cases ha : ∀ T, y0.op ≠ .alloc T
       ·rw [lA ha] at g2
        subst g2
        by_cases eji : j = i
        ·subst eji; rw [ho] at g1; simp only [sJ] at g1; subst g1; exact ha T hop
        ·exact huniq j y g1 eji hyd
       ·obtain ⟨T', ha⟩ : ∃ T, y0.op = .alloc T := Classical.byContradiction fun h => ha fun T e => h ⟨T, e⟩
        rw [rf ha] at g2
        subst g2
        cases hyd
      ·rw [iN ej] at g2
       subst g2
       cases hyd
     have hk : eC t' (eq l) tr (fun k => listed.getD k false) (E.get t') = E.get t' := by
      rw [fO t' (eq l) tr _ (fun _ => false) _ (fun j y hy hyd => (hno j y hy hyd).elim)]
      exact iS t' (eq l) tr _ _ fun _ _ _ _ => rfl
     rw [hk, hE t' hts] at hc
     cases hc
    ·rw [hput t' e]
     exact aJ.mono (fun _ _ h => h) (a8.refl _) (hslot t' ht' hc)
theorem qG : ∀ (ts : List Nat) (E : Env) (t : Nat), (∀ x ∈ ts, x < 512) → t ∈ ts → ((E.forget ts).get t).cond = false := by
 have keep : ∀ (ts : List Nat) (E : Env) (t : Nat), (E.get t).cond = false → ((E.forget ts).get t).cond = false := by
  intro ts
  induction ts with
  | nil => intro E t h; exact h
  | cons i r ih =>
   intro E t h
   refine ih (E.erase i) t ?_
   cases hc : ((E.erase i).get t).cond with
   | false => rfl
   | true => have := Env.erase_get E i t hc; rw [this, h] at hc; cases hc
 have zap : ∀ (E : Env) (i : Nat), i < 512 → ((E.erase i).get i).cond = false := by
  intro E i h
  unfold Env.erase Env.get
  simp only
  have hb : i / 64 < 8 := by omega
  rw [Tr.get_put _ _ _ _ hb, iP rfl, Tr.get_put _ _ _ _ (Nat.mod_lt _ (by decide)), iP rfl, Tr.get_put _ _ _ _ (Nat.mod_lt _ (by decide)), iP rfl]
  simp [Tr.ent]
 intro ts
 induction ts with
 | nil => intro E t _ h; simp at h
 | cons i r ih =>
  intro E t hx h
  by_cases e : t ∈ r
  ·exact ih (E.erase i) t (fun x hx' => hx x (by simp [hx'])) e
  ·have : t = i := by simpa [e] using h
   subst this
   exact keep r _ t (zap E t (hx t (by simp)))
theorem uU (E : Env) (d : Option Tmp) (e : Ent) : (E.putD d e).n = E.n := by cases d <;> rfl
theorem rh {E E' : Env} (h : E.n = E'.n) {d : Option Tmp} (hd : cL E d) : cL E' d := by
 cases d with
 | none => trivial
 | some d => show d < E'.n; rw [← h]; exact hd
theorem mo {ops : Array Oper} {kp : PV → Env → List OB → Prop} {k : Env → List OB → Prop} : ∀ (r : List Oper) (E : Env) (σ : List OB), dW P ops (jW r) E σ k kp →
  ∀ (i : Nat) (o : Oper) (T : TypeId), (∀ (i : Nat) (o : Oper) (T : TypeId), r[i]? = some o → i + 1 < r.length → o.op = .alloc T → o.guard = none) → r[i]? = some o → i + 1 < r.length → o.op = .alloc T → (∃ z, hQ P T = some z) ∧ cL E o.dst
 | [], E, σ, h, i, o, T, hg, ho, hi, hop => by simp at ho
 | [q], E, σ, h, i, o, T, hg, ho, hi, hop => by simp at hi
 | x :: o2 :: r, E, σ, h, i, o, T, hg, ho, hi, hop => by
  have hg' : ∀ (i : Nat) (o : Oper) (T : TypeId), (o2 :: r)[i]? = some o → i + 1 < (o2 :: r).length → o.op = .alloc T → o.guard = none := fun i o T h1 h2 h3 => hg (i + 1) o T (by simpa using h1) (by simp at h2 ⊢; omega) h3
  by_cases hx : ∀ T, x.op ≠ .alloc T
  ·have e : jW (x :: o2 :: r) = jW (o2 :: r) := by
    unfold jW
    split
    ·rename_i T' e; exact (hx T' e).elim
    ·cases r <;> rfl
   rw [e] at h
   cases i with
   | zero => simp at ho; subst ho; exact (hx T hop).elim
   | succ i => exact mo (o2 :: r) E σ h i o T hg' (by simpa using ho) (by simp at hi ⊢; omega) hop
  ·obtain ⟨Tx, hx⟩ : ∃ T, x.op = .alloc T := Classical.byContradiction fun h => hx fun T e => h ⟨T, e⟩
   have e : jW (x :: o2 :: r) = x :: jW (o2 :: r) := by
    simp only [jW, hx]
   rw [e] at h
   have hgx := hg 0 x Tx rfl (by simp) hx
   unfold dW at h
   simp only [db, hgx, a9, hx, iM] at h
   split at h
   ·rename_i z hz
    simp only [kX] at h
    obtain ⟨hd, _, hr⟩ := h
    cases i with
    | zero => simp at ho; subst ho; rw [hx] at hop; simp only [Op.alloc.injEq] at hop; subst hop; exact ⟨⟨z, hz⟩, hd⟩
    | succ i =>
     obtain ⟨q1, q2⟩ := mo (o2 :: r) _ _ hr i o T hg' (by simpa using ho) (by simp at hi ⊢; omega) hop
     exact ⟨q1, rh (uU _ _ _) q2⟩
   ·simp only [kX] at h
theorem mat {ops : Array Oper} {pb : Nat → Nat} {kp : PV → Env → List OB → Prop} {k : Env → List OB → Prop} {a : Act} {w : World} : ∀ (r : List Oper) (m : Nat) (G : Gh) (E : Env) (σ : List OB), Sim G E σ a w →
  (∀ (i : Nat) (o : Oper) (T : TypeId), r[i]? = some o → i + 1 < r.length → o.op = .alloc T → o.guard = none ∧ ∃ t, o.dst = some t ∧ a.tmps.getD t undef = .pointer (some ⟨pb (m + i), 0, none⟩) ∧ G.F (pb (m + i)) = none ∧ G.H (pb (m + i)) = none ∧
   (∀ (b : Nat) (og : OG), G.own[b]? = some (some og) → og.has = true → og.blk ≠ pb (m + i)) ∧ ∃ inf u, P.info? T = some inf ∧ inf.zero = some u ∧ w.heap[pb (m + i)]? = some (.cells u.cells T)) →
  (∀ (i j : Nat) (o o' : Oper) (T T' : TypeId), r[i]? = some o → r[j]? = some o' → i + 1 < r.length → j + 1 < r.length → o.op = .alloc T → o'.op = .alloc T' → pb (m + i) = pb (m + j) → i = j) →
  dW P ops (jW r) E σ k kp → ∀ q, r.getLast? = some q → ∃ G' E' σ', Gle G G' ∧ Sim G' E' σ' a w ∧ dW P ops [q] E' σ' k kp
 | [], m, G, E, σ, hs, hf, hdist, h, q, hq => by simp at hq
 | [x], m, G, E, σ, hs, hf, hdist, h, q, hq => by simp at hq; subst hq; exact ⟨G, E, σ, Gle.refl G, hs, h⟩
 | x :: o2 :: r, m, G, E, σ, hs, hf, hdist, h, q, hq => by
  have hq' : (o2 :: r).getLast? = some q := by simpa [List.getLast?_cons_cons] using hq
  have hdist' : ∀ (i j : Nat) (o o' : Oper) (T T' : TypeId), (o2 :: r)[i]? = some o → (o2 :: r)[j]? = some o' → i + 1 < (o2 :: r).length → j + 1 < (o2 :: r).length → o.op = .alloc T → o'.op = .alloc T' → pb (m + 1 + i) = pb (m + 1 + j) → i = j := by
   intro i j o o' T T' h1 h2 h3 h4 h5 h6 h7
   have := hdist (i + 1) (j + 1) o o' T T' (by simpa using h1) (by simpa using h2) (by simp at h3 ⊢; omega) (by simp at h4 ⊢; omega) h5 h6 (by rw [show m + (i + 1) = m + 1 + i by omega, show m + (j + 1) = m + 1 + j by omega]; exact h7)
   omega
  by_cases hx : ∀ T, x.op ≠ .alloc T
  ·have e : jW (x :: o2 :: r) = jW (o2 :: r) := by
    unfold jW
    split
    ·rename_i T' e; exact (hx T' e).elim
    ·cases r <;> rfl
   rw [e] at h
   refine mat (o2 :: r) (m + 1) G E σ hs (fun i o T h1 h2 h3 => ?_) hdist' h q hq'
   have := hf (i + 1) o T (by simpa using h1) (by simp at h2 ⊢; omega) h3
   rw [show m + (i + 1) = m + 1 + i by omega] at this
   exact this
  ·obtain ⟨Tx, hx⟩ : ∃ T, x.op = .alloc T := Classical.byContradiction fun h => hx fun T e => h ⟨T, e⟩
   have e : jW (x :: o2 :: r) = x :: jW (o2 :: r) := by
    simp only [jW, hx]
   rw [e] at h
   obtain ⟨hgx, t, hd, g1, g2, g3, g4, inf, u, g5, g6, g7⟩ := hf 0 x Tx rfl (by simp) hx
   simp only [Nat.add_zero] at g1 g2 g3 g4 g7
   unfold dW at h
   simp only [db, hgx, a9, hx, iM] at h
   split at h
   ·rename_i z hz
    simp only [kX] at h
    obtain ⟨hdk, _, hr⟩ := h
    obtain ⟨inf', u', k1, k2, _, _, _, k5⟩ := gM G hz
    rw [g5] at k1; simp only [sJ] at k1; subst k1
    rw [g6] at k2; simp only [sJ] at k2; subst k2
    have hinv := hs.inv.gain (cs := z) g7 g3 g2 g4 (aG.mono (fun _ _ hr => aT.rep hr) k5)
    have hle : a8 G.own (G.own ++ [some (⟨pb m, 0, 0, 0, true⟩ : OG)]) := a8.append _ _
    rw [hd] at hr
    have hsim : Sim { G with own := G.own ++ [some ⟨pb m, 0, 0, 0, true⟩] } (E.putD (some t) ⟨true, .c (.optr σ.length 0)⟩) (σ ++ [.box z]) a w := by
     refine ⟨hinv, hs.defers, hs.size, hs.na, fun i hc => ?_⟩
     have hg := Env.get_put E t i _ hc
     show aJ _ ((E.put t _).get i).v _
     rw [hg]
     by_cases ei : i = t
     ·rw [iP ei, ei, g1]
      refine ⟨rfl, some ⟨pb m, 0, 0, 0, true⟩, ?_, fun og e _ => by simp only [sJ] at e; subst e; rfl⟩
      show (G.own ++ _)[σ.length]? = _
      rw [← hs.inv.len]; simp
     ·rw [iN ei]
      have hc' : (E.get i).cond = true := by
       have : ((E.put t ⟨true, .c (.optr σ.length 0)⟩).get i).cond = true := hc
       rw [hg, iN ei] at this; exact this
      exact aJ.mono (G := G) (G' := { G with own := G.own ++ [some ⟨pb m, 0, 0, 0, true⟩] }) (fun _ _ h => h) hle (hs.slot i hc')
    obtain ⟨G', E', σ', q1, q2, q3⟩ := mat (o2 :: r) (m + 1) _ _ _ hsim (fun i o T h1 h2 h3 => by
     obtain ⟨f1, t', f2, f3, f4, f5, f6, f7⟩ := hf (i + 1) o T (by simpa using h1) (by simp at h2 ⊢; omega) h3
     rw [show m + (i + 1) = m + 1 + i by omega] at f3 f4 f5 f6 f7
     refine ⟨f1, t', f2, f3, f4, f5, fun b og hb hh => ?_, f7⟩
     rcases Nat.lt_or_ge b G.own.length with hb' | hb'
     ·rw [List.getElem?_append_left hb'] at hb; exact f6 b og hb hh
     ·rw [List.getElem?_append_right hb'] at hb
      rcases Nat.eq_zero_or_pos (b - G.own.length) with e0 | e0
      ·rw [e0] at hb
       simp only [List.getElem?_cons_zero, sJ] at hb
       subst hb
       intro e1
       have := hdist 0 (i + 1) x o Tx T rfl (by simpa using h1) (by simp) (by simp at h2 ⊢; omega) hx h3 (by rw [Nat.add_zero, show m + (i + 1) = m + 1 + i by omega]; exact e1)
       omega
      ·rw [List.getElem?_eq_none (by simp; omega)] at hb; cases hb) hdist' hr q hq'
    have hGle : Gle G { G with own := G.own ++ [some ⟨pb m, 0, 0, 0, true⟩] } := ⟨⟨fun _ _ h => h, rfl, rfl, rfl⟩, iO.of_le hle⟩
    exact ⟨G', E', σ', hGle.trans q1, q2, q3⟩
   ·simp only [kX] at h
theorem pL {l : List Oper} {listed : Array Bool} {i : Nat} (h : i ∈ Region.ready .any (eq l).toArray listed) : i ∈ Region.ready .any l.toArray listed := by
 obtain ⟨h1, o, ho, h2⟩ := mem_ready.1 h
 obtain ⟨o2, q1, q2, q3, q4⟩ := mn (show (eq l)[i]? = some o by simpa using ho)
 exact mem_ready.2 ⟨h1, o2, by simpa using q1, fun x hx => h2 x (by rw [q3]; exact hx)⟩
theorem rQ {l : List Oper} {i : Nat} {q : Oper} {K : Act → World → Prop} {a : Act} {w : World} (ho : (eq l)[i]? = some (lR q)) (hg : q.guard = none) (h : wpOp P (eq l).toArray (fun _ _ _ => False) i K a w) : K a w := by
 unfold wpOp at h
 simp only [List.getElem?_toArray, ho] at h
 rw [iP (by unfold Region.wanted; simp [lR, hg])] at h
 rcases h with h | ⟨_, _, _, h⟩
 ·unfold Oper.wp at h
  have : (execOp a.eval (lR q)).run P w = .ok (.value (.bool true)) w := by simp [execOp, lR, Act.eval]
  rw [this] at h
  exact h
 ·exact h.elim
theorem rR {ops : Array Oper} {Q : Exit → Act → World → Prop} {listed : Array Bool} (hr : Region.ready .any ops listed = []) : ∀ (fuel : Nat) (a : Act) (w : World), Q .normal a w → wpAny P .any ops Q fuel listed a w
 | 0, a, w, h => ⟨hr, h⟩
 | fuel + 1, a, w, h => ⟨fun _ => h, fun i hi => by rw [hr] at hi; simp at hi⟩
theorem uV {id : Nat} {l : List Oper} {K : Kt} {E : Env} {σ : List OB} (hm : P.follows .mixedOrders = true) (ts : List Nat) (masks : List Nat) (bs : List Bool) (hc : uT l ts masks bs = true) (hts : ∀ t ∈ ts, t < 512) {k : Env → List OB → Prop} {kp : PV → Env → List OB → Prop} (hkn : ∀ E σ, k E σ → K .normal E σ) (hkp : ∀ p E σ, kp p E σ → K (.panic p) E σ)
  (h : TR P (eq l).toArray (eq l) bs (E.forget ts) σ (fun E σ => dW P l.toArray (jW l) E σ k kp)) : W P (.region id l.toArray true) K E σ := fun G a w hs0 => by
 have hs := Env.forget_sim ts hs0
 have hE := fun t ht => qG ts E t hts ht
 generalize E.forget ts = E1 at hs hE h
 obtain ⟨tr, ht, hk⟩ := h
 unfold uT at hc
 simp only [Bool.and_eq_true] at hc
 have c := uN hc.1
 have v := tP hc.2
 have hz : ∀ (i : Nat) (o : Oper) (T : TypeId), l[i]? = some o → i + 1 < l.length → o.op = .alloc T → (∃ z, hQ P T = some z) ∧ cL E1 o.dst := fun i o T h1 h2 h3 => by
  obtain ⟨q1, q2⟩ := mo l _ _ hk i o T (fun i o T h1 h2 h3 => (v.al i o T h1 h2 h3).1) h1 h2 h3
  exact ⟨q1, rh (mV (eq l) tr E1 (eq l).length).1 q2⟩
 have hpos := v.pos
 obtain ⟨q, hq⟩ : ∃ q, l[l.length - 1]? = some q := ⟨_, List.getElem?_eq_getElem (by omega)⟩
 obtain ⟨hqd, hqg⟩ := v.last _ q hq (by omega)
 have hvq := jc l _ q hq
 rw [iN (by omega)] at hvq
 refine wp_region_any hm ?_
 have key : ∀ (fuel : Nat) (listed : Array Bool) (a : Act) (w : World), listed.toList.count false ≤ fuel → listed.getD (l.length - 1) false = false → StA P l tr E1 σ G listed a w → wpAny P .any l.toArray (da G K) fuel listed a w := by
  have some_ready : ∀ (listed : Array Bool) (a : Act) (w : World), listed.getD (l.length - 1) false = false → StA P l tr E1 σ G listed a w → Region.ready .any l.toArray listed ≠ [] := by
   intro listed a w h1 ⟨G1, _, hS⟩ hr
   have hr' : Region.ready .any (eq l).toArray listed = [] := by
    rw [List.eq_nil_iff_forall_not_mem] at hr ⊢
    exact fun i hi => hr i (pL hi)
   have := rG c hS.1 hr' (l.length - 1) (by rw [iv]; omega)
   rw [h1] at this; cases this
  intro fuel
  induction fuel with
  | zero =>
   intro listed a w hf hl hJ
   exfalso
   have hsz : listed.size = l.length := by obtain ⟨_, _, hS⟩ := hJ; rw [hS.1, iv]
   have : listed.toList[l.length - 1]? = some false := by
    rw [Array.getD_eq_getD_getElem?, Array.getElem?_eq_getElem (by omega)] at hl
    rw [Array.getElem?_toList, Array.getElem?_eq_getElem (by omega)]
    simpa using hl
   have hpos := List.count_pos_iff.2 (List.mem_of_getElem? this)
   omega
  | succ fuel ih =>
   intro listed a w hf hl hJ
   refine ⟨fun hr => (some_ready listed a w hl hJ hr).elim, fun i hi => ?_⟩
   have hsz : listed.size = l.length := by obtain ⟨_, _, hS⟩ := hJ; rw [hS.1, iv]
   obtain ⟨hi0, hil, o, ho, hr⟩ := jX hsz hi
   have hset : ∀ j, (listed.setIfInBounds i true).getD j false = if j = i then true else listed.getD j false := fun j => rF _ _ _ (by omega)
   by_cases hlt : i + 1 < l.length
   ·refine wpOp_mono (fun a' w' hJ' => ih _ a' w' ?_ ?_ hJ') (StA.step c v ht hE hz G listed a w i hJ hi hlt)
    ·have : listed.toList[i]? = some false := by
      rw [Array.getD_eq_getD_getElem?, Array.getElem?_eq_getElem (by omega)] at hi0
      rw [Array.getElem?_toList, Array.getElem?_eq_getElem (by omega)]
      simpa using hi0
     have hc := mj _ _ this
     simp only [Array.toList_setIfInBounds]
     omega
    ·rw [hset, iN (by omega)]; exact hl
   ·have hie : i = l.length - 1 := by omega
    subst hie
    rw [hq] at ho
    simp only [sJ] at ho
    subst ho
    obtain ⟨G1, ⟨p1, p2, p3, p4, p5, pb, p6, p7⟩, hS⟩ := hJ
    have hdone : ∀ (j : Nat), j < l.length - 1 → listed.getD j false = true := by
     intro j hj
     have hy := jc l j l[j] (List.getElem?_eq_getElem (by omega))
     have := c.done hS.2.1 hvq hl (fun k hk => by
      have : dz (lR q) = dz q := rfl
      rw [this] at hk; exact hr k hk) hy (.inl (c.bar (l.length - 1) j _ _ hvq hy v.bar))
     rw [this]; simp; omega
    have hst := rQ hvq hqg (StJ.step (Q := fun _ _ _ => False) c ht G1 listed a w (l.length - 1) hS (nG hi))
    have hall : ∀ j, j < l.length → (listed.setIfInBounds (l.length - 1) true).getD j false = true := by
     intro j hj
     rw [hset]
     by_cases e : j = l.length - 1
     ·rw [iP e]
     ·rw [iN e]; exact hdone j (by omega)
    obtain ⟨G2, hG2, hsim⟩ := (su (Q := fun _ a' w' => ∃ G2, Gle G1 G2 ∧ Sim G2 (ci E1 (eq l) tr (eq l).length) (aK σ tr (eq l).length) a' w') c ht G1 (fun G2 a' w' h1 h2 => ⟨G2, h1, h2⟩) 0 (listed.setIfInBounds (l.length - 1) true) a w (by
     refine Nat.le_of_eq (List.count_eq_zero.2 fun hm => ?_)
     obtain ⟨j, hj, he⟩ := List.getElem_of_mem hm
     have hj' : j < l.length := by simpa [hsz] using hj
     have := hall j hj'
     rw [Array.getD_eq_getD_getElem?, Array.getElem?_eq_getElem (by simpa [hsz] using hj')] at this
     rw [Array.getElem_toList] at he
     simp only [Option.getD_some] at this
     rw [he] at this; cases this) hst).2
    have hF2 : G2.F = G1.F := hG2.le.F
    have hsim' : Sim { G2 with F := G.F } (ci E1 (eq l) tr (eq l).length) (aK σ tr (eq l).length) a w :=
     ⟨hsim.inv.less G.F (fun b x hb => by rw [hF2]; exact p5 b x hb), hsim.defers, hsim.size, hsim.na, fun i hc => aJ.mono (G := G2) (G' := { G2 with F := G.F }) (fun _ _ h => h) (a8.refl _) (hsim.slot i hc)⟩
    obtain ⟨G3, E3, σ3, r1, r2, r3⟩ := mat (pb := pb) l 0 _ _ _ hsim' (fun j y T h1 h2 h3 => by
     obtain ⟨e1, t, e2, _, _, _⟩ := v.al j y T h1 h2 h3
     obtain ⟨f1, f2, inf, u, f3, f4, f5⟩ := p7 j y T t h1 h2 h3 e2 (hdone j (by omega))
     rw [← hF2] at f5
     simp only [Nat.zero_add]
     refine ⟨e1, t, e2, f1, f2, hsim.inv.HF _ _ f5, fun b og hb hh he => ?_, inf, u, f3, f4, hsim.inv.hF _ _ f5⟩
     have := (hsim.inv.sep b og hb hh).2
     rw [he, f5] at this; cases this)
     (fun j k y y' T T' h1 h2 h3 h4 h5 h6 h7 => p6 j k y y' T T' h1 h2 h3 h4 h5 h6 (hdone j (by omega)) (hdone k (by omega)) (by simpa using h7)) hk q (by rw [List.getLast?_eq_getElem?]; exact hq)
    have hGle : Gle G { G2 with F := G.F } := by
     refine ⟨⟨fun b x hb => hG2.le.H b x (by rw [p1]; exact hb), rfl, hG2.le.w0.trans p3, hG2.le.na.trans p4⟩, ?_⟩
     have := hG2.own
     rw [p2, p4] at this
     exact this
    have hw := f9 [q] E3 σ3 _ _ r3 G3 a w r2
    have hw' : wpList P l.toArray (da G K) [q] a w := cp (fun e a' w' hp => da.back (hGle.trans r1) (da.mono (fun x E σ hx => by
     cases x with
     | normal => exact hkn E σ hx
     | exit id => exact hx.elim
     | ret => exact hx.elim
     | panic p => exact hkp p E σ hx) hp)) _ _ _ hw
    have hnil : Region.ready .any l.toArray (listed.setIfInBounds (l.length - 1) true) = [] := by
     rw [List.eq_nil_iff_forall_not_mem]
     intro j hj
     obtain ⟨g1, g2, _⟩ := jX (by simpa using hsz) hj
     rw [hall j g2] at g1; cases g1
    have hop : wpOp P l.toArray (da G K) (l.length - 1) (fun a' w' => da G K .normal a' w') a w := by
     unfold wpOp
     simp only [List.getElem?_toArray, hq]
     unfold wpList at hw'
     exact hw'
    exact wpOp_mono (fun a' w' hn => rR hnil fuel a' w' hn) hop
 refine key _ _ a _ (Nat.le_refl _) ?_ ?_ |> fun h => by
  have e : (Array.replicate l.toArray.size false).toList.count false = l.toArray.size := by simp
  rw [e] at h; exact h
 ·rw [Array.getD_eq_getD_getElem?, Array.getElem?_replicate]; split <;> rfl
 ·have hfalse : ∀ i, (Array.replicate l.toArray.size false).getD i false = false := by
   intro i
   rw [Array.getD_eq_getD_getElem?, Array.getElem?_replicate]
   split <;> rfl
  refine ⟨G, ⟨rfl, rfl, rfl, rfl, fun _ _ h => h, fun _ => 0, (fun i j o o' T T' _ _ _ _ _ _ h _ _ => by rw [hfalse] at h; cases h), (fun i o T t _ _ _ _ h => by rw [hfalse] at h; cases h)⟩, ?_⟩
  refine ⟨by simp [iv], (fun i o ho hd => by simp only [hfalse] at hd; cases hd), G, 0, Gle.refl G, by omega, (fun j o ho hl => by rw [hfalse]; simp), ?_, hs.defers, hs.size, hs.na, fun t ht hc => ?_⟩
  ·have : aK σ tr 0 = σ := by cases tr <;> rfl
   rw [this]; exact hs.inv.drawn
  ·have : eC t (eq l) tr (fun i => (Array.replicate l.toArray.size false).getD i false) (E1.get t) = E1.get t := iS t (eq l) tr _ _ fun j o _ _ => hfalse j
   rw [this] at hc ⊢
   exact hs.slot t hc
theorem tQ {id : Nat} {l : List Oper} {y : Code} {K : Kt} {E : Env} {σ : List OB} (ms : List Nat) (ts : List Nat) (masks : List Nat) (bs : List Bool) (hm : P.follows .mixedOrders = true) (hc : uT l ts masks bs = true) (hts : ∀ t ∈ ts, t < 512)
  (h : ∀ (k : Env → List OB → Prop) (kp : PV → Env → List OB → Prop), (∀ E σ, W P y K E σ → k E σ) → fa P (eq l).toArray (eq l) bs (E.forget ts) σ (fun E σ => dW P l.toArray (jW l) E σ (fun E σ => k (E.forget ms) σ) kp)) : W P (.seq (.region id l.toArray true) y) K E σ :=
 mH (uV (k := fun E σ => W P y K (E.forget ms) σ) (kp := fun _ _ _ => False) hm ts masks bs hc hts (fun _ _ h => jr ms h) (fun _ _ _ h => h.elim) (fw _ bs _ σ _ (h (fun E σ => W P y K E σ) (fun _ _ _ => False) fun _ _ h => h)))
end
def sN (ops : Array Oper) (l : List Oper) (masks : List Nat) (bar prv : List Bool) (rd : List (List Nat)) : Bool :=
  chk ops l masks bar &&
  (l.zipIdx.all fun (x, i) => eY x || (x.looksAt ops).all (fun t => (rd.getD i []).contains t) || l.zipIdx.all fun (_, j) => !(prv.getD j false) || iD masks i j)
def sO (P : Program) (ops : Array Oper) (pv : List Nat) (E : Env) (σ : List OB) (o : Oper) (bar prv : Bool) (rd : List Nat) (ts : TS) : Prop :=
  db ops E o.guard = some ts.γ ∧ cL E o.dst ∧
  ((∃ C v, a9 P ts.γ E σ o.op = .ok C v ∧ C ∧ (rd.all fun t => qR pv (E.get t).v) = true ∧ ts.e = ⟨ts.γ, v⟩ ∧ ts.σ = σ) ∨
   (ts.γ = true ∧ ∃ C v, a9 P ts.γ E σ o.op = .upd C v ts.σ ∧ C ∧ ts.e = ⟨true, v⟩ ∧ (bar = true ∨ Ext σ ts.σ ∨ (prv = true ∧ hZ pv σ ts.σ))) ∨
   (∃ C f args r, a9 P ts.γ E σ o.op = .call C f args ∧ (ts.γ = true → C ∧ cr P f args r) ∧ args.all PV.noOwn = true ∧ (∀ n, r.ren (cG n []) = r) ∧ ts.e = ⟨ts.γ, r⟩ ∧ ts.σ = σ) ∨
   (ts.γ = false ∧ ts.e = ⟨true, .t []⟩ ∧ ts.σ = σ) ∨
   (ts.γ = true ∧ ∃ C f args p, a9 P ts.γ E σ o.op = .call C f args ∧ C ∧ iR P σ f args p ts.σ ∧ ts.e = ⟨true, p⟩ ∧ (bar = true ∨ Ext σ ts.σ)) ∨
   (ts.γ = true ∧ eY o = true ∧ ∃ v, (∀ E', (∀ x ∈ o.op.operands, ev E' x = ev E x) → ∀ G a w, Sim G E' σ a w → oR P G (execOp a.eval o) w v ts.σ) ∧ ts.e = ⟨true, v⟩ ∧ (bar = true ∨ Ext σ ts.σ)))
def qE (P : Program) (ops : Array Oper) (pv : List Nat) : List Oper → List Bool → List Bool → List (List Nat) → Env → List OB → List TS → Prop
  | [], _, _, _, _, _, tr => tr = []
  | o :: l, bs, ps, rd, E, σ, tr => ∃ ts r, tr = ts :: r ∧ sO P ops pv E σ o (bs.headD false) (ps.headD false) (rd.headD []) ts ∧ qE P ops pv l bs.tail ps.tail rd.tail (E.putD o.dst ts.e) ts.σ r
section
variable {P : Program} {ops : Array Oper} {pv : List Nat}
theorem et.ofP : ∀ {l : List Oper} {bs ps : List Bool} {rd : List (List Nat)} {E : Env} {σ : List OB} {tr : List TS}, qE P ops pv l bs ps rd E σ tr → et P ops pv l bs ps rd [] E σ tr
  | [], _, _, _, _, _, _, h => h
  | o :: l, _, _, _, _, _, _, ⟨ts, r, h1, ⟨h2, h3, h4⟩, h5⟩ => ⟨ts, r, h1, ⟨h2, h3, .inl ⟨rfl, h4⟩⟩, et.ofP h5⟩
theorem sP {ops : Array Oper} {l : List Oper} {masks : List Nat} {bs ps : List Bool} {rd : List (List Nat)} (h : sN ops l masks bs ps rd = true) : qr ops l masks bs ps rd [] = true := by
  unfold sN chk at h
  unfold qr
  rw [show ld ([] : List Bool) = fun _ o => eY o from by funext i o; exact ns i o]
  exact h
def TRP (P : Program) (ops : Array Oper) (pv : List Nat) (l : List Oper) (bs ps : List Bool) (rd : List (List Nat)) (E : Env) (σ : List OB) (k : Env → List OB → Prop) : Prop :=
  ∃ tr, qE P ops pv l bs ps rd E σ tr ∧ k (ci E l tr l.length) (aK σ tr l.length)
def pH (pv : List Nat) : Nat → List OB → List OB → Prop
  | _, [], _ => True
  | i, a :: as_, b :: bs => (pv.contains i = true ∨ a = b) ∧ pH pv (i + 1) as_ bs
  | _, _ :: _, [] => False
theorem pI : ∀ {i : Nat} {σ σ' : List OB}, pH pv i σ σ' → σ.length ≤ σ'.length ∧ ∀ b, b + i ∉ pv → b < σ.length → σ'[b]? = σ[b]?
  | _, [], _, _ => ⟨by simp, fun b _ h => by simp at h⟩
  | i, a :: as_, b :: bs, ⟨h1, h2⟩ => by
    obtain ⟨k1, k2⟩ := pI h2
    refine ⟨by simpa using k1, fun c hc hl => ?_⟩
    cases c with
    | zero =>
      rcases h1 with h | h
      · simp at hc; simp at h; exact (hc h).elim
      · simp [h]
    | succ c => simpa using k2 c (by simpa [Nat.add_assoc, Nat.add_comm 1] using hc) (by simpa using hl)
def nD (P : Program) (ops : Array Oper) (pv : List Nat) (γ : Bool) (C : Prop) (f : FuncId) (args : List PV) (o : Oper) (r : List Oper) (bs ps : List Bool) (rd : List (List Nat)) (E : Env) (σ : List OB) (k : Env → List OB → Prop) : Prop :=
  a9 P γ E σ o.op = .call C f args → db ops E o.guard = some γ → TRP P ops pv (o :: r) bs ps rd E σ k
def mm (P : Program) (ops : Array Oper) (pv : List Nat) (γ : Bool) (o : Oper) (r : List Oper) (bs ps : List Bool) (rd : List (List Nat)) (E : Env) (σ : List OB) (k : Env → List OB → Prop) (run : Env → List OB → Prop) : R → Prop
  | .ok C v => cL E o.dst ∧ C ∧ ((rd.headD []).all fun t => qR pv (E.get t).v) = true ∧ run (E.putD o.dst ⟨γ, v⟩) σ
  | .upd C v σ' => cL E o.dst ∧ γ = true ∧ C ∧ (bs.headD false = true ∨ j8 σ σ' ∨ (ps.headD false = true ∧ pH pv 0 σ σ')) ∧ run (E.putD o.dst ⟨true, v⟩) σ'
  | .call C f args => nD P ops pv γ C f args o r bs ps rd E σ k
  | .bad => False
def hK (P : Program) (ops : Array Oper) (pv : List Nat) : List Oper → List Bool → List Bool → List (List Nat) → Env → List OB → (Env → List OB → Prop) → Prop
  | [], _, _, _, E, σ, k => k E σ
  | o :: r, bs, ps, rd, E, σ, k =>
    match db ops E o.guard with
    | none => False
    | some false => cL E o.dst ∧ hK P ops pv r bs.tail ps.tail rd.tail (E.putD o.dst ⟨true, .t []⟩) σ k
    | some true => mm P ops pv true o r bs ps rd E σ k (fun E' σ' => hK P ops pv r bs.tail ps.tail rd.tail E' σ' k) (a9 P true E σ o.op)
theorem TRP.cons {o : Oper} {r : List Oper} {bs ps : List Bool} {rd : List (List Nat)} {E : Env} {σ : List OB} {k : Env → List OB → Prop} {ts : TS} (h : sO P ops pv E σ o (bs.headD false) (ps.headD false) (rd.headD []) ts) (ht : TRP P ops pv r bs.tail ps.tail rd.tail (E.putD o.dst ts.e) ts.σ k) : TRP P ops pv (o :: r) bs ps rd E σ k := by
  obtain ⟨tr, h1, h2⟩ := ht
  refine ⟨ts :: tr, ⟨ts, tr, rfl, h, h1⟩, ?_⟩
  simpa [ci, aK] using h2
theorem ia : ∀ (l : List Oper) (bs ps : List Bool) (rd : List (List Nat)) (E : Env) (σ : List OB) (k : Env → List OB → Prop), hK P ops pv l bs ps rd E σ k → TRP P ops pv l bs ps rd E σ k
  | [], bs, ps, rd, E, σ, k, h => ⟨[], rfl, by unfold hK at h; simpa [ci, aK] using h⟩
  | o :: r, bs, ps, rd, E, σ, k, h => by
    unfold hK at h
    split at h
    · exact h.elim
    · rename_i hγ
      exact TRP.cons (ts := ⟨false, ⟨true, .t []⟩, σ⟩) ⟨hγ, h.1, .inr (.inr (.inr (.inl ⟨rfl, rfl, rfl⟩)))⟩ (ia r _ _ _ _ _ _ h.2)
    · rename_i hγ
      unfold mm at h
      split at h
      · rename_i C v hrun
        obtain ⟨hd, hC, hrd, hr⟩ := h
        exact TRP.cons (ts := ⟨true, ⟨true, v⟩, σ⟩) ⟨hγ, hd, .inl ⟨C, v, hrun, hC, hrd, rfl, rfl⟩⟩ (ia r _ _ _ _ _ _ hr)
      · rename_i C v σ' hrun
        obtain ⟨hd, hg, hC, hb, hr⟩ := h
        refine TRP.cons (ts := ⟨true, ⟨true, v⟩, σ'⟩) ⟨hγ, hd, .inr (.inl ⟨rfl, C, v, hrun, hC, rfl, ?_⟩)⟩ (ia r _ _ _ _ _ _ hr)
        rcases hb with h | h | ⟨h, h'⟩
        · exact .inl h
        · exact .inr (.inl (kE h))
        · exact .inr (.inr ⟨h, by have := pI h'; exact ⟨this.1, fun b hb hl => this.2 b hb hl⟩⟩)
      · rename_i C f args hrun
        exact h hrun hγ
      · exact h.elim
theorem pJ {C : Prop} {f : FuncId} {args : List PV} {o : Oper} {r : List Oper} {bs ps : List Bool} {rd : List (List Nat)} {E : Env} {σ σ2 : List OB} {k : Env → List OB → Prop} {res : PV}
    (hs : iR P σ f args res σ2) (hd : cL E o.dst) (hC : C) (hb : bs.headD false = true ∨ j8 σ σ2)
    (next : hK P ops pv r bs.tail ps.tail rd.tail (E.putD o.dst ⟨true, res⟩) σ2 k) : nD P ops pv true C f args o r bs ps rd E σ k := fun hrun hγ =>
  TRP.cons (ts := ⟨true, ⟨true, res⟩, σ2⟩) ⟨hγ, hd, .inr (.inr (.inr (.inr (.inl ⟨rfl, C, f, args, res, hrun, hC, hs, rfl, hb.imp id kE⟩))))⟩ (ia r _ _ _ _ _ _ next)
theorem q9 {id : Nat} {l : List Oper} {K : Kt} {E : Env} {σ : List OB} (hm : P.follows .mixedOrders = true) (pv masks : List Nat) (bs ps : List Bool) (rd : List (List Nat)) (hc : sN l.toArray l masks bs ps rd = true)
    (h : TRP P l.toArray pv l bs ps rd E σ (K .normal)) : W P (.region id l.toArray true) K E σ := by
  obtain ⟨tr, ht, hk⟩ := h
  exact qS hm pv masks bs ps rd [] (sP hc) ⟨tr, et.ofP ht, hk⟩
theorem uR {id : Nat} {l : List Oper} {K : Kt} {E : Env} {σ : List OB} (hm : P.follows .mixedOrders = true) (pv masks : List Nat) (bs ps : List Bool) (rd : List (List Nat)) (hc : sN l.toArray l masks bs ps rd = true)
    (h : ∀ (k : Env → List OB → Prop), (∀ E σ, K .normal E σ → k E σ) → hK P l.toArray pv l bs ps rd E σ k) : W P (.region id l.toArray true) K E σ :=
  q9 hm pv masks bs ps rd hc (ia l bs ps rd E σ _ (h (K .normal) fun _ _ h => h))
theorem re {id : Nat} {l : List Oper} {y : Code} {K : Kt} {E : Env} {σ : List OB} (ms : List Nat) (hm : P.follows .mixedOrders = true) (pv masks : List Nat) (bs ps : List Bool) (rd : List (List Nat)) (hc : sN l.toArray l masks bs ps rd = true)
    (h : ∀ (k : Env → List OB → Prop), (∀ E σ, W P y K E σ → k E σ) → hK P l.toArray pv l bs ps rd E σ (fun E σ => k (E.forget ms) σ)) : W P (.seq (.region id l.toArray true) y) K E σ :=
  mH (q9 hm pv masks bs ps rd hc (by
    obtain ⟨tr, h1, h2⟩ := ia l bs ps rd E σ _ (h (W P y K) fun _ _ h => h)
    exact ⟨tr, h1, jr ms h2⟩))
end
def bAP := And.intro (And.intro (And.intro @hK.eq_1 @hK.eq_2) bL) (And.intro bM (And.intro (And.intro @mm.eq_1 @mm.eq_2) (And.intro @mm.eq_3 @mm.eq_4)))
section
variable {P : Program} {ops : Array Oper}
theorem dX {l : List Oper} {bs : List Bool} {E : Env} {σ : List OB} {k : Env → List OB → Prop} (h : fa P ops l bs E σ k) : TR P ops l bs E σ k := fw l bs E σ k h
theorem q8 : ∀ {l l' : List Oper} {bs bs' : List Bool} {E : Env} {σ : List OB} {k : Env → List OB → Prop}, bs.length = l.length → TR P ops l bs E σ (fun E' σ' => TR P ops l' bs' E' σ' k) → TR P ops (l ++ l') (bs ++ bs') E σ k
 | [], l', bs, bs', E, σ, k, hl, ⟨tr, h1, h2⟩ => by
  have : bs = [] := List.eq_nil_of_length_eq_zero (by simpa using hl)
  subst this
  simp only [kk] at h1
  subst h1
  simpa [ci, aK] using h2
 | o :: l, l', bs, bs', E, σ, k, hl, ⟨tr, h1, h2⟩ => by
  obtain ⟨ts, r, rfl, h3, h4⟩ := h1
  match bs, hl with
  | b :: bs, hl =>
   refine TR.cons (bs := b :: bs ++ bs') (ts := ts) ?_ ?_
   ·simpa using h3
   ·exact q8 (by simpa using hl) ⟨r, h4, by simpa [ci, aK] using h2⟩
theorem kq (n : Nat) {l : List Oper} {bs : List Bool} {E : Env} {σ : List OB} {k : Env → List OB → Prop} (hn : bs.length = l.length) (h : fa P ops (l.take n) (bs.take n) E σ (fun E' σ' => TR P ops (l.drop n) (bs.drop n) E' σ' k)) : TR P ops l bs E σ k := by
 have := q8 (by simp [hn]) (fw _ _ _ _ _ h)
 rwa [List.take_append_drop, List.take_append_drop] at this
theorem n7 {γ : Bool} {C : Prop} {f : FuncId} {args : List PV} {o : Oper} {r : List Oper} {bs : List Bool} {E : Env} {σ : List OB} {k : Env → List OB → Prop} {res : PV}
  (hs : γ = true → cr P f args res) (hd : cL E o.dst) (hC : γ = true → C) (hargs : args.all PV.noOwn = true) (hres : ∀ n, res.ren (cG n []) = res)
  (next : TR P ops r bs.tail (E.putD o.dst ⟨γ, res⟩) σ k) : iE P ops γ C f args o r bs E σ k := fun hrun hγ =>
 TR.cons (ts := ⟨γ, ⟨γ, res⟩, σ⟩) ⟨hγ, hd, .inr (.inr (.inl ⟨C, f, args, res, hrun, fun h => ⟨hC h, hs h⟩, hargs, hres, rfl, rfl⟩))⟩ next
theorem pG {C : Prop} {f : FuncId} {args : List PV} {o : Oper} {r : List Oper} {bs : List Bool} {E : Env} {σ σ2 : List OB} {k : Env → List OB → Prop} {res : PV}
  (hs : iR P σ f args res σ2) (hd : cL E o.dst) (hC : C) (hb : bs.headD false = true ∨ j8 σ σ2)
  (next : TR P ops r bs.tail (E.putD o.dst ⟨true, res⟩) σ2 k) : iE P ops true C f args o r bs E σ k := fun hrun hγ =>
 TR.cons (ts := ⟨true, ⟨true, res⟩, σ2⟩) ⟨hγ, hd, .inr (.inr (.inr (.inr (.inl ⟨rfl, C, f, args, res, hrun, hC, hs, rfl, hb.imp id kE⟩))))⟩ next
theorem jb {id : Nat} {l : List Oper} {y : Code} {K : Kt} {E : Env} {σ : List OB} (ms : List Nat) (hm : P.follows .mixedOrders = true) (masks : List Nat) (bs : List Bool) (hc : chk l.toArray l masks bs = true)
  (h : ∀ (k : Env → List OB → Prop), (∀ E σ, W P y K E σ → k E σ) → TR P l.toArray l bs E σ (fun E σ => k (E.forget ms) σ)) : W P (.seq (.region id l.toArray true) y) K E σ :=
 mH (qw hm masks bs hc (by
  obtain ⟨tr, h1, h2⟩ := h (W P y K) fun _ _ h => h
  exact ⟨tr, h1, jr ms h2⟩))
end
section
variable {P : Program} {ops : Array Oper}
variable {pv : List Nat}
end
section
variable {P : Program} {ops : Array Oper} {pv : List Nat}
theorem TRQ.cons {o : Oper} {r : List Oper} {bs ps : List Bool} {rd : List (List Nat)} {lt : List Bool} {E : Env} {σ : List OB} {k : Env → List OB → Prop} {ts : TS} (h : qs P ops pv E σ o (bs.headD false) (ps.headD false) (rd.headD []) (lt.headD false) ts) (ht : TRQ P ops pv r bs.tail ps.tail rd.tail lt.tail (E.putD o.dst ts.e) ts.σ k) : TRQ P ops pv (o :: r) bs ps rd lt E σ k := by
 obtain ⟨tr, h1, h2⟩ := ht
 refine ⟨ts :: tr, ⟨ts, tr, rfl, h, h1⟩, ?_⟩
 simpa [ci, aK] using h2
end
section
variable {P : Program} {ops : Array Oper}
end
section
variable {P : Program} {ops : Array Oper} {pv : List Nat} {E E' : Env} {σ σ' σ2 : List OB} {k : Env → List OB → Prop} {kp : PV → Env → List OB → Prop}
theorem kr {rs : List ResultVar} {n : Nat} {post pp : PV → List OB → Prop} (N : Nat)
  (h : match fN P E σ rs with | some (C, ps) => C ∧ ps.all PV.isV = true ∧ (js (σ.take N) σ ∧ n ≤ (σ.take N).length ∧ br (σ.take N).length (σ.take N) ∧ (fK ps).underP (σ.take N).length ∧ post (fK ps) (σ.take N)) | none => False := by
   simp only [List.take_succ_cons, List.take_zero, List.take_nil, bF, bT, tab, bX, Sum.elim_inl, Sum.elim_inr, reduceIte, ↓reduceIte, reduceCtorEq, Int.reduceToNat, Nat.reduceDiv, Nat.reduceMod, Nat.reduceLT, Nat.reduceLeDiff, Nat.reduceAdd, Nat.reduceSub, Nat.reduceMul, Nat.reduceEqDiff, Nat.reduceBEq, Nat.reduceBNe, Nat.reduceGT] <;> first | done | rfl | (and_intros <;> first | rfl | omega | (simp; done) | (simp [eK, eB, eS, eL]; done) | (simp [lit, bX, eK, eB, eS, eL]; done) | (simp [CV.under, cq]; done))) : kh P rs (rI n post) pp .ret E σ := rJ (σ.take N) h
theorem kn {rs : List ResultVar} {n : Nat} {post pp : PV → List OB → Prop} (N : Nat)
  (h : match fN P E σ rs with | some (C, ps) => C ∧ ps.all PV.isV = true ∧ (js (σ.take N) σ ∧ n ≤ (σ.take N).length ∧ br (σ.take N).length (σ.take N) ∧ (fK ps).underP (σ.take N).length ∧ post (fK ps) (σ.take N)) | none => False := by
   simp only [List.take_succ_cons, List.take_zero, List.take_nil, bF, bT, tab, bX, Sum.elim_inl, Sum.elim_inr, reduceIte, ↓reduceIte, reduceCtorEq, Int.reduceToNat, Nat.reduceDiv, Nat.reduceMod, Nat.reduceLT, Nat.reduceLeDiff, Nat.reduceAdd, Nat.reduceSub, Nat.reduceMul, Nat.reduceEqDiff, Nat.reduceBEq, Nat.reduceBNe, Nat.reduceGT] <;> first | done | rfl | (and_intros <;> first | rfl | omega | (simp; done) | (simp [eK, eB, eS, eL]; done) | (simp [lit, bX, eK, eB, eS, eL]; done) | (simp [CV.under, cq]; done))) : kh P rs (rI n post) pp .normal E σ := rK (σ.take N) h
theorem sp {p q : Prop} (hq : q) (hp : p := by first | omega | assumption | decide | exact gJ fun _ => rfl | (intro _; omega) | rfl | exact fun e => absurd (List.map_eq_nil_iff.1 e) (by assumption) | (and_intros <;> first | omega | assumption | decide | exact gJ fun _ => rfl) | (refine .inl ?_; simp only [j8]; and_intros <;> first | rfl | trivial) | (refine .inr (.inl ?_); simp only [j8]; and_intros <;> first | rfl | trivial) | (refine .inr ?_; simp only [pH]; and_intros <;> first | exact .inl rfl | exact .inr rfl | trivial) | (refine .inr (.inr ⟨rfl, ?_⟩); simp only [pH]; and_intros <;> first | exact .inl rfl | exact .inr rfl | trivial) | exact .inl rfl) : p ∧ q := ⟨hp, hq⟩
theorem gp {p q : Prop} (hq : q) (h : Bx q → p := by
  intro hq
  simp only [bAP, bT, tab, bX, reduceIte, ↓reduceIte, reduceCtorEq, Int.reduceToNat, Nat.reduceDiv, Nat.reduceMod, Nat.reduceLT, Nat.reduceLeDiff, Nat.reduceAdd, Nat.reduceSub, Nat.reduceMul, Nat.reduceEqDiff, Nat.reduceBEq, Nat.reduceBNe, Nat.reduceGT, List.replicate, List.foldr]
  repeat refine sp ?_
  exact hq.1) : p := h ⟨hq⟩
theorem gt {p q : Prop} (hq : q) (h : Bx q → p := by
  intro hq
  simp only [bR, bT, tab, bX, reduceIte, ↓reduceIte, reduceCtorEq, Int.reduceToNat, Nat.reduceDiv, Nat.reduceMod, Nat.reduceLT, Nat.reduceLeDiff, Nat.reduceAdd, Nat.reduceSub, Nat.reduceMul, Nat.reduceEqDiff, Nat.reduceBEq, Nat.reduceBNe, Nat.reduceGT, bZ]
  repeat refine sd ?_
  exact hq.1) : p := h ⟨hq⟩
theorem gl {p q : Prop} (hq : q) (h : Bx q → p := by
  intro hq
  simp only [bAP, bT, tab, bX, reduceIte, ↓reduceIte, reduceCtorEq, Int.reduceToNat, Nat.reduceDiv, Nat.reduceMod, Nat.reduceLT, Nat.reduceLeDiff, Nat.reduceAdd, Nat.reduceSub, Nat.reduceMul, Nat.reduceEqDiff, Nat.reduceBEq, Nat.reduceBNe, Nat.reduceGT, List.tail_cons]
  exact hq.1) : p := h ⟨hq⟩
theorem la {p : Prop} (h : p := by first | (simp only [bS, bX, reduceIte, ↓reduceIte, reduceCtorEq, Int.reduceToNat, Nat.reduceDiv, Nat.reduceMod, Nat.reduceLT, Nat.reduceLeDiff, Nat.reduceAdd, Nat.reduceSub, Nat.reduceMul, Nat.reduceEqDiff, Nat.reduceBEq, Nat.reduceBNe, Nat.reduceGT] <;> first | done | (and_intros <;> first | rfl | (simp; done) | omega | (simp [lit, bX, eK, eB, eS, eL]; done) | (simp only [jT, List.length_cons, List.length_nil, List.length_append, List.length_set, List.length_replicate, List.length_map, List.length_take, List.length_drop]; omega))) | (simp only [bS, bX, reduceIte, ↓reduceIte, reduceCtorEq, Int.reduceToNat, Nat.reduceDiv, Nat.reduceMod, Nat.reduceLT, Nat.reduceLeDiff, Nat.reduceAdd, Nat.reduceSub, Nat.reduceMul, Nat.reduceEqDiff, Nat.reduceBEq, Nat.reduceBNe, Nat.reduceGT, *] <;> first | done | (and_intros <;> first | rfl | (simp; done) | omega | (simp [lit, bX, eK, eB, eS, eL]; done) | (simp only [jT, List.length_cons, List.length_nil, List.length_append, List.length_set, List.length_replicate, List.length_map, List.length_take, List.length_drop]; omega)))) : p := h
theorem ct {f : FuncId} {args : List PV} {p : PV} (ρ : List Nat) {args' : List PV} {σc : List OB} {post pp : PV → List OB → Prop} (hs : fJ P f args' σc post pp)
  (h1 : ρ.Nodup := by simp) (h2 : ∀ b ∈ ρ, b < σ.length := by simp) (h3 : args = args'.map (PV.ren (cG σ.length ρ)) := by exact rfl) (h4 : ρ.map (fun b => σ[b]?) = σc.map (fun ob => some (ob.ren (cG σ.length ρ))) := by exact rfl)
  (h5 : e9 ρ.length args' := by first | trivial | (simp [bX, eK, eB, eS, eL, nv, e9, PV.under, CV.under, br, OB.under, cq]; done)) (h6 : br ρ.length σc := by first | trivial | (simp [bX, eK, eB, eS, eL, nv, e9, PV.under, CV.under, br, OB.under, cq]; done))
  (h7 : ∀ q τ, post q τ → ρ.length ≤ τ.length → q.ren (cG σ.length ρ) = p ∧ cg σ ρ (τ.map (OB.ren (cG σ.length ρ))) = σ2 := by intro q τ hq _; obtain ⟨rfl, rfl⟩ := hq; exact ⟨rfl, rfl⟩) (h8 : ∀ q τ, pp q τ → False := by exact fun _ _ h => h.elim) : iR P σ f args p σ2 := ⟨args', σc, post, pp, ρ, hs, h1, h2, h3, h4, h5, h6, h7, h8⟩
theorem ca {C : Prop} {f : FuncId} {args : List PV} {o : Oper} {r : List Oper} {bs : List Bool} {res : PV} {ops : Array Oper} (hs : iR P σ f args res σ2) (next : fa P ops r bs.tail (E.putD o.dst ⟨true, res⟩) σ2 k)
  (hd : cL E o.dst := by first | trivial | exact jR rfl) (hC : C := by first | trivial | (intro _; first | trivial | simp [need]) | simp [need]) (hb : bs.headD false = true ∨ j8 σ σ2 := by first | exact .inl rfl | exact .inr (by simp only [j8]; and_intros <;> first | rfl | trivial)) : iE P ops true C f args o r bs E σ k := qv hs hd hC hb next
theorem cat {C : Prop} {f : FuncId} {args : List PV} {o : Oper} {r : List Oper} {bs : List Bool} {res : PV} {ops : Array Oper} (hs : iR P σ f args res σ2) (next : TR P ops r bs.tail (E.putD o.dst ⟨true, res⟩) σ2 k)
  (hd : cL E o.dst := by first | trivial | exact jR rfl) (hC : C := by first | trivial | (intro _; first | trivial | simp [need]) | simp [need]) (hb : bs.headD false = true ∨ j8 σ σ2 := by first | exact .inl rfl | exact .inr (by simp only [j8]; and_intros <;> first | rfl | trivial)) : iE P ops true C f args o r bs E σ k := pG hs hd hC hb next
theorem cap {C : Prop} {f : FuncId} {args : List PV} {o : Oper} {r : List Oper} {bs ps : List Bool} {rd : List (List Nat)} {res : PV} {ops : Array Oper} (hs : iR P σ f args res σ2) (next : hK P ops pv r bs.tail ps.tail rd.tail (E.putD o.dst ⟨true, res⟩) σ2 k)
  (hd : cL E o.dst := by first | trivial | exact jR rfl) (hC : C := by first | trivial | (intro _; first | trivial | simp [need]) | simp [need]) (hb : bs.headD false = true ∨ j8 σ σ2 := by first | exact .inl rfl | exact .inr (by simp only [j8]; and_intros <;> first | rfl | trivial)) : nD P ops pv true C f args o r bs ps rd E σ k := pJ hs hd hC hb next
theorem pat {γ : Bool} {C : Prop} {f : FuncId} {args : List PV} {o : Oper} {r : List Oper} {bs : List Bool} {res : PV} (hs : γ = true → cr P f args res) (next : TR P ops r bs.tail (E.putD o.dst ⟨γ, res⟩) σ k)
  (hd : cL E o.dst := by first | trivial | exact jR rfl) (hC : γ = true → C := by first | trivial | (intro _; first | trivial | simp [need]) | simp [need]) (hargs : args.all PV.noOwn = true := by exact rfl) (hres : ∀ n, res.ren (cG n []) = res := by exact fun _ => rfl) : iE P ops γ C f args o r bs E σ k := n7 hs hd hC hargs hres next
end
end Pam
