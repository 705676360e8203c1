/- Regions whose order is open, with memory set aside that nothing looks at ahead of the region's last operation. -/
import Derived.Test.YtphpneddmkickaaHBase2
import Derived.Laws.CopyRow
import Derived.Laws.BytesArg
import Derived.Lib.ConvBytes
set_option linter.all false
namespace Pam
open Go
def rD (o : Oper) : Bool := match o.op with | .alloc _ => true | _ => false
def iK (o : Oper) : Oper := { dst := none, op := .move (.const (.bool true)), type := o.type, pos := o.pos, after := o.after, guard := o.guard }
def l6 (o : Oper) : Oper := match o.op with | .alloc _ => iK o | _ => o
def dH : List Oper → List Oper
 | [] => []
 | [q] => [iK q]
 | o :: o2 :: r => l6 o :: dH (o2 :: r)
def jl : List Oper → List Oper
 | [] => []
 | [q] => [q]
 | o :: o2 :: r => match o.op with | .alloc _ => o :: jl (o2 :: r) | _ => jl (o2 :: r)
def tk (l : List Oper) (ts : List Nat) (bs : List Bool) : Bool :=
 bs.getD (l.length - 1) false && decide (0 < l.length) &&
 l.zipIdx.all fun (o, i) =>
  (if i + 1 < l.length then !rD o || (o.guard.isNone && (match o.dst with | some t => decide (t < 512) && ts.contains t && (l.zipIdx.all fun (y, j) => j == i || y.dst != some t) | none => false)) else o.dst.isNone && o.guard.isNone && !rD o) &&
  (match o.guard with | some (g, _) => (match l[g]? with | some y => !rD y | none => true) | none => true)
def tn (l : List Oper) (ts masks : List Nat) (bs : List Bool) : Bool := chk (dH l).toArray (dH l) masks bs && tk l ts bs
structure sC (l : List Oper) (ts : List Nat) (bs : List Bool) : Prop where
 bar : bs.getD (l.length - 1) false = true
 pos : 0 < l.length
 al : ∀ (i : Nat) (o : Oper) (T : TypeId), l[i]? = some o → i + 1 < l.length → o.op = .alloc T → o.guard = none ∧ ∃ t, o.dst = some t ∧ t < 512 ∧ t ∈ ts ∧ ∀ (j : Nat) (y : Oper), l[j]? = some y → j ≠ i → y.dst ≠ some t
 last : ∀ (i : Nat) (o : Oper), l[i]? = some o → i + 1 = l.length → o.dst = none ∧ o.guard = none
 ref : ∀ (i : Nat) (o : Oper) (g : Nat) (b : Bool) (y : Oper), l[i]? = some o → o.guard = some (g, b) → l[g]? = some y → ∀ T, y.op ≠ .alloc T
theorem sD {l : List Oper} {ts : List Nat} {bs : List Bool} (h : tk l ts bs = true) : sC l ts bs := by
 unfold tk at h
 simp only [Bool.and_eq_true, List.all_eq_true, decide_eq_true_eq] at h
 obtain ⟨⟨h1, h2⟩, h3⟩ := h
 have m : ∀ (i : Nat) (o : Oper), l[i]? = some o → (o, i) ∈ l.zipIdx := fun i o ho => by
  rw [List.mem_zipIdx_iff_getElem?]; simpa using ho
 refine ⟨h1, h2, ?_, ?_, ?_⟩
 ·intro i o T ho hi hop
  have := (h3 _ (m i o ho)).1
  simp only [iP hi, rD, hop, Bool.not_true, Bool.false_or, Bool.and_eq_true, Option.isNone_iff_eq_none] at this
  obtain ⟨g, h⟩ := this
  refine ⟨g, ?_⟩
  cases hd : o.dst with
  | none => rw [hd] at h; simp at h
  | some t =>
   rw [hd] at h
   simp only [Bool.and_eq_true, decide_eq_true_eq, List.contains_eq_mem, List.all_eq_true, Bool.or_eq_true, beq_iff_eq, bne_iff_ne] at h
   refine ⟨t, rfl, h.1.1, h.1.2, fun j y hy hji => ?_⟩
   rcases h.2 _ (m j y hy) with h | h
   ·exact (hji h).elim
   ·exact h
 ·intro i o ho hi
  have := (h3 _ (m i o ho)).1
  simp only [iN (by omega : ¬ i + 1 < l.length), Bool.and_eq_true, Option.isNone_iff_eq_none] at this
  exact this.1
 ·intro i o g b y ho hg hy T hop
  have := (h3 _ (m i o ho)).2
  simp [hg, hy, rD, hop] at this
theorem ii : ∀ l : List Oper, (dH l).length = l.length
 | [] => rfl
 | [q] => rfl
 | o :: o2 :: r => by simp only [dH, List.length_cons]; rw [ii (o2 :: r)]; rfl
theorem iY : ∀ (l : List Oper) (i : Nat) (o : Oper), l[i]? = some o → (dH l)[i]? = some (if i + 1 < l.length then l6 o else iK o)
 | [], i, o, h => by simp at h
 | [q], 0, o, h => by simp at h; subst h; rfl
 | [q], i + 1, o, h => by simp at h
 | a :: o2 :: r, 0, o, h => by simp at h; subst h; simp [dH]
 | a :: o2 :: r, i + 1, o, h => by
  have := iY (o2 :: r) i o (by simpa using h)
  simp only [dH, List.getElem?_cons_succ, this, List.length_cons]
  congr 1
  by_cases e : i + 1 < r.length + 1
  ·rw [iP e, iP (by omega)]
  ·rw [iN e, iN (by omega)]
theorem kL {o : Oper} (h : ∀ T, o.op ≠ .alloc T) : l6 o = o := by
 unfold l6
 split
 ·rename_i T e; exact (h T e).elim
 ·rfl
theorem p9 {o : Oper} {T : TypeId} (h : o.op = .alloc T) : l6 o = iK o := by unfold l6; rw [h]
theorem pE (o : Oper) : (l6 o).after = o.after ∧ (l6 o).guard = o.guard := by
 unfold l6
 split <;> exact ⟨rfl, rfl⟩
theorem lE {l : List Oper} {i : Nat} {o' : Oper} (h : (dH l)[i]? = some o') : ∃ o, l[i]? = some o ∧ o' = (if i + 1 < l.length then l6 o else iK o) ∧ o'.after = o.after ∧ o'.guard = o.guard := by
 have hlt : i < l.length := by rw [← ii]; exact (List.getElem?_eq_some_iff.1 h).1
 have e := iY l i l[i] (List.getElem?_eq_getElem hlt)
 rw [h] at e
 simp only [sJ] at e
 refine ⟨l[i], List.getElem?_eq_getElem hlt, e, ?_⟩
 rw [e]
 split
 ·exact pE _
 ·exact ⟨rfl, rfl⟩
theorem mS {l : List Oper} {listed : Array Bool} {i : Nat} (h : i ∈ Region.ready .any l.toArray listed) : i ∈ Region.ready .any (dH l).toArray listed := by
 obtain ⟨h1, o, ho, h2⟩ := mem_ready.1 h
 have ho' : l[i]? = some o := by simpa using ho
 have e := iY l i o ho'
 obtain ⟨o2, q1, q2, q3, q4⟩ := lE e
 rw [ho'] at q1
 simp only [sJ] at q1
 subst q1
 refine mem_ready.2 ⟨h1, _, by simpa using e, fun x hx => ?_⟩
 rw [q3] at hx
 exact h2 x hx
section
variable {P : Program}
theorem Oper.wp_put {o : Oper} {a : Act} {w : World} {K : Act → World → Prop} {Q : Exit → Act → World → Prop} (h : o.wp P a w K Q) :
  o.wp P a w (fun a' w' => K a' w' ∧ ∀ t, o.dst ≠ some t → a'.tmps.getD t undef = a.tmps.getD t undef) Q := by
 have key : ∀ (a1 : Act) (v : Value) (t : Nat), a1.tmps = a.tmps → o.dst ≠ some t → (a1.put o.dst v).tmps.getD t undef = a.tmps.getD t undef := by
  intro a1 v t h1 ht
  cases hd : o.dst with
  | none => simp [Act.put, h1]
  | some d =>
   have hne : d ≠ t := fun e => ht (by rw [hd, e])
   simp only [Act.put, Array.getD_eq_getD_getElem?, h1]
   rw [Array.getElem?_setIfInBounds_ne hne]
 unfold Oper.wp at *
 generalize (execOp a.eval o).run P w = r at *
 cases r with
 | ok n w' =>
  cases n <;> simp only [Oper.upon] at h ⊢ <;>
   first
    | exact ⟨h, fun t ht => key _ _ t rfl ht⟩
    | exact Calls.mono h (fun e w'' he => by cases e <;> first | exact ⟨he, fun t ht => key _ _ t rfl ht⟩ | exact he)
    | exact Rows.mono h (fun _ _ he => ⟨he, fun t ht => key _ _ t rfl ht⟩)
 | halt x w' => cases x <;> simp only [Oper.upon] at h ⊢ <;> exact h
theorem oN {ops : Array Oper} {Q : Exit → Act → World → Prop} {i : Nat} {o : Oper} {K : Act → World → Prop} {a : Act} {w : World} (ho : ops[i]? = some o) (h : wpOp P ops Q i K a w) :
  wpOp P ops Q i (fun a' w' => K a' w' ∧ ∀ t, o.dst ≠ some t → a'.tmps.getD t undef = a.tmps.getD t undef) a w := by
 unfold wpOp at *
 simp only [ho] at h ⊢
 split
 ·rename_i hw; simp only [hw, if_true] at h; exact h.imp Oper.wp_put id
 ·rename_i hw
  simp only [hw] at h
  refine ⟨h, fun t ht => ?_⟩
  cases hd : o.dst with
  | none => simp [Act.put]
  | some d =>
   have hne : d ≠ t := fun e => ht (by rw [hd, e])
   simp only [Act.put, Array.getD_eq_getD_getElem?]
   rw [Array.getElem?_setIfInBounds_ne hne]
theorem oO {l : List Oper} {ts : List Nat} {bs : List Bool} (v : sC l ts bs) {i : Nat} {o : Oper} (ho : l[i]? = some o) (tmps : Array Value) :
  Region.wanted o (yielded (dH l).toArray tmps) = Region.wanted o (yielded l.toArray tmps) := by
 unfold Region.wanted
 cases hg : o.guard with
 | none => rfl
 | some gb =>
  obtain ⟨g, b⟩ := gb
  simp only
  have : yielded (dH l).toArray tmps g = yielded l.toArray tmps g := by
   unfold yielded
   simp only [List.getElem?_toArray]
   cases hy : l[g]? with
   | none =>
    have : (dH l)[g]? = none := by
     rw [List.getElem?_eq_none_iff] at hy ⊢
     rw [ii]; exact hy
    rw [this]
   | some y =>
    rw [iY l g y hy]
    by_cases e : g + 1 < l.length
    ·rw [iP e, kL (v.ref i o g b y ho hg hy)]
    ·rw [iN e]
     have := (v.last g y hy (by have := (List.getElem?_eq_some_iff.1 hy).1; omega)).1
     simp [iK, this]
  rw [this]
theorem qI {l : List Oper} {ts : List Nat} {bs : List Bool} (v : sC l ts bs) {Q : Exit → Act → World → Prop} {i : Nat} {o : Oper} {K : Act → World → Prop} {a : Act} {w : World} (ho : l[i]? = some o) (hi : i + 1 < l.length) (hn : ∀ T, o.op ≠ .alloc T)
  (h : wpOp P (dH l).toArray Q i K a w) : wpOp P l.toArray Q i (fun a' w' => K a' w' ∧ ∀ t, o.dst ≠ some t → a'.tmps.getD t undef = a.tmps.getD t undef) a w := by
 have e := iY l i o ho
 rw [iP hi, kL hn] at e
 have h' := oN (o := o) (by simpa using e) h
 unfold wpOp at h' ⊢
 simp only [List.getElem?_toArray, e, ho, oO v ho] at h' ⊢
 exact h'
theorem Inv.aside {G : Gh} {σ : List OB} {w : World} (hi : Inv G σ w) (x : Obj) : Inv { G with F := fun b => if b = w.heap.size then some x else G.F b } σ (w.alloc x) := by
 have old : ∀ b, b < w.heap.size → (w.alloc x).heap[b]? = w.heap[b]? := fun b hb => heap_alloc_old w _ hb
 constructor
 ·intro b y h; rw [old b (cm (hi.hH b y h))]; exact hi.hH b y h
 ·intro b y h
  simp only at h
  by_cases e : b = w.heap.size
  ·rw [iP e] at h; rw [e, ← h]; exact heap_alloc_new w _
  ·rw [iN e] at h; rw [old b (cm (hi.hF b y h))]; exact hi.hF b y h
 ·intro b y h
  simp only at h ⊢
  by_cases e : b = w.heap.size
  ·cases hx : G.H b with
   | none => rfl
   | some z => have := cm (hi.hH _ _ hx); omega
  ·rw [iN e] at h; exact hi.HF b y h
 ·exact hi.len
 ·intro b ob h
  exact (hi.own b ob h).keep (fun _ _ h => h) (bt.refl _) rfl fun o ho hh => old _ (jo hi ho hh)
 ·exact hi.inj
 ·intro b o h hh
  have := jo hi h hh
  refine ⟨(hi.sep b o h hh).1, ?_⟩
  simp only
  rw [iN (by omega)]
  exact (hi.sep b o h hh).2
 ·exact hi.os
 ·exact hi.tape
 ·exact hi.output
 ·exact Nat.le_trans hi.grow (by simp)
theorem Inv.gain {G : Gh} {σ : List OB} {w : World} (hi : Inv G σ w) {blk : Nat} {cs : List CV} {c : Array Value} {T : TypeId} (hA : w.heap[blk]? = some (.cells c T)) (hB : G.H blk = none) (hC : G.F blk = none)
  (hD : ∀ (b : Nat) (o : OG), G.own[b]? = some (some o) → o.has = true → o.blk ≠ blk) (h : aI (Rep G) cs c.toList) : Inv { G with own := G.own ++ [some ⟨blk, 0, 0, 0, true⟩] } (σ ++ [.box cs]) w := by
 have hle : bt G.own (G.own ++ [some ⟨blk, 0, 0, 0, true⟩]) := bt.append _ _
 have split : ∀ (b : Nat) (o' : OG), (G.own ++ [some (⟨blk, 0, 0, 0, true⟩ : OG)])[b]? = some (some o') → (b < G.own.length ∧ G.own[b]? = some (some o')) ∨ (b = G.own.length ∧ o' = ⟨blk, 0, 0, 0, true⟩) := by
  intro b o' h
  rcases Nat.lt_or_ge b G.own.length with hb | hb
  ·rw [List.getElem?_append_left hb] at h; exact .inl ⟨hb, h⟩
  ·rw [List.getElem?_append_right hb] at h
   rcases Nat.eq_zero_or_pos (b - G.own.length) with e | e
   ·rw [e] at h; simp at h; exact .inr ⟨by omega, h.symm⟩
   ·rw [List.getElem?_eq_none (by simp; omega)] at h; cases h
 constructor
 ·exact hi.hH
 ·exact hi.hF
 ·exact hi.HF
 ·simp [hi.len]
 ·intro b ob' h'
  rcases Nat.lt_or_ge b σ.length with hb | hb
  ·rw [List.getElem?_append_left hb] at h'
   refine (hi.own b ob' h').keep (fun _ _ h => h) hle ?_ fun o' ho' hh => rfl
   exact List.getElem?_append_left (by rw [hi.len]; exact hb)
  ·rw [List.getElem?_append_right hb] at h'
   rcases Nat.eq_zero_or_pos (b - σ.length) with e | e
   ·rw [e] at h'; simp at h'
    have : b = σ.length := by omega
    subst this; subst h'
    refine ⟨⟨blk, 0, 0, 0, true⟩, c, T, ?_, rfl, rfl, hA, aI.mono (R := Rep G) (fun _ _ hr => Rep.mono (G := G) (G' := { G with own := G.own ++ [some ⟨blk, 0, 0, 0, true⟩] }) (fun _ _ h => h) hle hr) h⟩
    show (G.own ++ _)[σ.length]? = _
    rw [← hi.len]; simp
   ·rw [List.getElem?_eq_none (by simp; omega)] at h'; cases h'
 ·intro b b' o1 o2 h1 h2 hh1 hh2 he
  rcases split b o1 h1 with ⟨hb, g1⟩ | ⟨hb, g1⟩ <;> rcases split b' o2 h2 with ⟨hb', g2⟩ | ⟨hb', g2⟩
  ·exact hi.inj b b' o1 o2 g1 g2 hh1 hh2 he
  ·exact (hD b o1 g1 hh1 (by rw [he, g2])).elim
  ·exact (hD b' o2 g2 hh2 (by rw [← he, g1])).elim
  ·omega
 ·intro b o1 h1 hh1
  rcases split b o1 h1 with ⟨hb, h1⟩ | ⟨hb, rfl⟩
  ·exact hi.sep b o1 h1 hh1
  ·exact ⟨hB, hC⟩
 ·exact hi.os
 ·exact hi.tape
 ·exact hi.output
 ·exact hi.grow
theorem Inv.less {G : Gh} {σ : List OB} {w : World} (hi : Inv G σ w) (F : Nat → Option Obj) (h : ∀ b x, F b = some x → G.F b = some x) : Inv { G with F := F } σ w := by
 constructor
 ·exact hi.hH
 ·exact fun b x e => hi.hF b x (h b x e)
 ·exact fun b x e => hi.HF b x (h b x e)
 ·exact hi.len
 ·exact fun b ob e => (hi.own b ob e).keep (fun _ _ h => h) (bt.refl _) rfl fun _ _ _ => rfl
 ·exact hi.inj
 ·intro b o e hh
  refine ⟨(hi.sep b o e hh).1, ?_⟩
  show F o.blk = none
  cases hx : F o.blk with
  | none => rfl
  | some x => have := h _ _ hx; rw [(hi.sep b o e hh).2] at this; cases this
 ·exact hi.os
 ·exact hi.tape
 ·exact hi.output
 ·exact hi.grow
def ux (P : Program) (l : List Oper) (G0 G1 : Gh) (listed : Array Bool) (a : Act) : Prop :=
 G1.H = G0.H ∧ G1.own = G0.own ∧ G1.w0 = G0.w0 ∧ G1.na = G0.na ∧ (∀ b x, G0.F b = some x → G1.F b = some x) ∧
 ∃ pb : Nat → Nat,
  (∀ (i j : Nat) (o o' : Oper) (T T' : TypeId), l[i]? = some o → l[j]? = some o' → i + 1 < l.length → j + 1 < l.length → o.op = .alloc T → o'.op = .alloc T' → listed.getD i false = true → listed.getD j false = true → pb i = pb j → i = j) ∧
  ∀ (i : Nat) (o : Oper) (T : TypeId) (t : Nat), l[i]? = some o → i + 1 < l.length → o.op = .alloc T → o.dst = some t → listed.getD i false = true →
   a.tmps.getD t undef = .pointer (some ⟨pb i, 0, none⟩) ∧ G0.F (pb i) = none ∧ ∃ inf u, P.info? T = some inf ∧ inf.zero = some u ∧ G1.F (pb i) = some (.cells u.cells T)
def StA (P : Program) (l : List Oper) (tr : List TS) (E : Env) (σ : List OB) (G0 : Gh) (listed : Array Bool) (a : Act) (w : World) : Prop :=
 ∃ G1, ux P l G0 G1 listed a ∧ StJ (dH l) tr E σ G1 listed a w
theorem iu {l : List Oper} {listed : Array Bool} (hsz : listed.size = l.length) {i : Nat} (hi : i ∈ Region.ready .any l.toArray listed) : listed.getD i false = false ∧ i < l.length ∧ ∃ o, l[i]? = some o ∧ ∀ j ∈ cT o, listed.getD j false = true := by
 obtain ⟨hun, o, ho', hdeps⟩ := mem_ready.1 hi
 have ho : l[i]? = some o := by simpa using ho'
 have hil : i < l.length := (List.getElem?_eq_some_iff.1 ho).1
 refine ⟨?_, hil, o, ho, fun j hj => ?_⟩
 ·rw [Array.getD_eq_getD_getElem?] at hun ⊢
  rw [Array.getElem?_eq_getElem (by omega)] at hun ⊢
  simpa using hun
 ·simp only [cT, List.mem_map, List.mem_filter] at hj
  obtain ⟨e, ⟨h1, h2⟩, rfl⟩ := hj
  exact hdeps e (by simpa using h1) h2
theorem StA.step {l : List Oper} {ts : List Nat} {bs : List Bool} {masks : List Nat} {E : Env} {σ : List OB} {tr : List TS} (c : Chk (dH l).toArray (dH l) masks bs) (v : sC l ts bs) (ht : jG P (dH l).toArray (dH l) bs E σ tr)
  (hE : ∀ t ∈ ts, (E.get t).cond = false) (hz : ∀ (i : Nat) (o : Oper) (T : TypeId), l[i]? = some o → i + 1 < l.length → o.op = .alloc T → (∃ z, gH P T = some z) ∧ cR E o.dst) (G0 : Gh) {Q : Exit → Act → World → Prop} (listed : Array Bool) (a : Act) (w : World) (i : Nat)
  (hJ : StA P l tr E σ G0 listed a w) (hi : i ∈ Region.ready .any l.toArray listed) (hlt : i + 1 < l.length) : wpOp P l.toArray Q i (StA P l tr E σ G0 (listed.setIfInBounds i true)) a w := by
 obtain ⟨G1, ⟨p1, p2, p3, p4, p5, pb, p6, p7⟩, hS⟩ := hJ
 have hsz : listed.size = l.length := by rw [hS.1, ii]
 obtain ⟨hi0, hil, o, ho, hr⟩ := iu hsz hi
 have hset : ∀ j, (listed.setIfInBounds i true).getD j false = if j = i then true else listed.getD j false := fun j => pm _ _ _ (by omega)
 by_cases hn : ∀ T, o.op ≠ .alloc T
 ·have h1 := StJ.step (Q := Q) c ht G1 listed a w i hS (mS hi)
  refine wpOp_mono (fun a' w' h => ?_) (qI v ho hlt hn h1)
  obtain ⟨h2, h3⟩ := h
  refine ⟨G1, ⟨p1, p2, p3, p4, p5, pb, ?_, ?_⟩, h2⟩
  ·intro j k y y' T T' hy hy' hj hk hop hop' hl hl'
   rw [hset] at hl hl'
   have nj : j ≠ i := fun e => by subst e; rw [ho] at hy; simp only [sJ] at hy; subst hy; exact hn T hop
   have nk : k ≠ i := fun e => by subst e; rw [ho] at hy'; simp only [sJ] at hy'; subst hy'; exact hn T' hop'
   rw [iN nj] at hl
   rw [iN nk] at hl'
   exact p6 j k y y' T T' hy hy' hj hk hop hop' hl hl'
  ·intro j y T t hy hj hop hd hl
   rw [hset] at hl
   have nj : j ≠ i := fun e => by subst e; rw [ho] at hy; simp only [sJ] at hy; subst hy; exact hn T hop
   rw [iN nj] at hl
   obtain ⟨q1, q2⟩ := p7 j y T t hy hj hop hd hl
   obtain ⟨_, t', g1, _, _, g4⟩ := v.al j y T hy hj hop
   rw [hd] at g1
   simp only [sJ] at g1
   subst g1
   exact ⟨(h3 t (g4 i o ho (fun e => nj e.symm))).trans q1, q2⟩
 ·obtain ⟨T, hop⟩ : ∃ T, o.op = .alloc T := Classical.byContradiction fun h => hn fun T e => h ⟨T, e⟩
  obtain ⟨hg, t, hd, ht512, hts, huniq⟩ := v.al i o T ho hlt hop
  obtain ⟨⟨z, hzT⟩, hdok⟩ := hz i o T ho hlt hop
  obtain ⟨hsz', hcl, G, p, hG, hp, hloud, hinv, hdef, htm, hna, hslot⟩ := hS
  obtain ⟨inf, u, e1, e2, e3, e4, _, e5⟩ := fg G hzT
  have hFG : G.F = G1.F := hG.le.F
  have hvi := iY l i o ho
  rw [iP hlt, p9 hop] at hvi
  have hrun : (execOp a.eval o).run P w = .ok (.value (.pointer (some ⟨w.heap.size, 0, none⟩))) (w.alloc (.cells u.cells T)) := by
   simp [execOp, hop, Instr.alloc, d6 e1 e2, newVar, newRow]
  unfold wpOp
  simp only [List.getElem?_toArray, ho]
  rw [iP (by unfold Region.wanted; rw [hg])]
  left
  unfold Oper.wp
  rw [hrun]
  show StA P l tr E σ G0 (listed.setIfInBounds i true) (a.put o.dst _) _
  rw [hd]
  have hfree : ∀ j y, l[j]? = some y → j + 1 < l.length → (∃ T, y.op = .alloc T) → listed.getD j false = true → pb j ≠ w.heap.size := by
   intro j y hy hj ⟨T', hop'⟩ hl e
   obtain ⟨_, t', g1, _⟩ := v.al j y T' hy hj hop'
   obtain ⟨_, _, _, _, _, _, q⟩ := p7 j y T' t' hy hj hop' g1 hl
   rw [← hFG] at q
   have := cm (hinv.hF _ _ q)
   omega
  have hput : ∀ t', t' ≠ t → (a.put (some t) (.pointer (some ⟨w.heap.size, 0, none⟩))).tmps.getD t' undef = a.tmps.getD t' undef := by
   intro t' hne
   simp only [Act.put, Array.getD_eq_getD_getElem?]
   rw [Array.getElem?_setIfInBounds_ne (Ne.symm hne)]
  refine ⟨{ G1 with F := fun b => if b = w.heap.size then some (.cells u.cells T) else G1.F b }, ⟨p1, p2, p3, p4, ?_, fun j => if j = i then w.heap.size else pb j, ?_, ?_⟩, ?_⟩
  ·intro b x hb
   have h1 := p5 b x hb
   simp only
   rw [iN]
   ·exact h1
   ·intro e
    rw [← hFG] at h1
    have := cm (hinv.hF _ _ h1)
    omega
  ·intro j k y y' T1 T2 hy hy' hj hk hop1 hop2 hl hl' he
   rw [hset] at hl hl'
   simp only at he
   by_cases nj : j = i <;> by_cases nk : k = i
   ·omega
   ·rw [iP nj, iN nk] at he; rw [iN nk] at hl'
    exact (hfree k y' hy' hk ⟨T2, hop2⟩ hl' he.symm).elim
   ·rw [iN nj, iP nk] at he; rw [iN nj] at hl
    exact (hfree j y hy hj ⟨T1, hop1⟩ hl he).elim
   ·rw [iN nj, iN nk] at he; rw [iN nj] at hl; rw [iN nk] at hl'
    exact p6 j k y y' T1 T2 hy hy' hj hk hop1 hop2 hl hl' he
  ·intro j y T' t' hy hj hop' hd' hl
   rw [hset] at hl
   by_cases nj : j = i
   ·subst nj
    rw [ho] at hy
    simp only [sJ] at hy
    subst hy
    rw [hd] at hd'
    simp only [sJ] at hd'
    subst hd'
    rw [hop] at hop'
    simp only [Op.alloc.injEq] at hop'
    subst hop'
    simp only [if_true]
    refine ⟨?_, ?_, inf, u, e1, e2, ?_⟩
    ·have : t < a.tmps.size := by
      rw [htm]
      rw [hd] at hdok
      exact hdok
     simp [Act.put, Array.getD, this]
    ·cases hx : G0.F w.heap.size with
     | none => rfl
     | some x =>
      have h1 := p5 _ _ hx
      rw [← hFG] at h1
      have := cm (hinv.hF _ _ h1)
      omega
    ·simp
   ·rw [iN nj] at hl
    obtain ⟨q1, q2, inf', u', q3, q4, q5⟩ := p7 j y T' t' hy hj hop' hd' hl
    simp only [iN nj]
    have hne : t' ≠ t := fun e => huniq j y hy nj (by rw [hd', e])
    refine ⟨(hput t' hne).trans q1, q2, inf', u', q3, q4, ?_⟩
    rw [iN (hfree j y hy hj ⟨T', hop'⟩ hl)]
    exact q5
  ·refine ⟨by simpa using hsz', ?_, { G with F := fun b => if b = w.heap.size then some (.cells u.cells T) else G1.F b }, p, ⟨⟨hG.le.H, rfl, hG.le.w0, hG.le.na⟩, hG.own⟩, hp, ?_, ?_, hdef, by simpa [Act.put] using htm, hna, ?_⟩
   ·intro k ok hk hdn j hj
    simp only at hdn ⊢
    rw [hset] at hdn ⊢
    by_cases e : k = i
    ·subst e; rw [hvi] at hk; simp only [sJ] at hk; subst hk
     by_cases e' : j = k
     ·rw [iP e']
     ·rw [iN e']; exact hr j hj
    ·rw [iN e] at hdn
     by_cases e' : j = i
     ·rw [iP e']
     ·rw [iN e']; exact hcl k ok hk hdn j hj
   ·intro j y hy hly
    rw [hset]
    by_cases e : j = i
    ·subst e; rw [hvi] at hy; simp only [sJ] at hy; subst hy; simp [eO, iK] at hly
    ·rw [iN e]; exact hloud j y hy hly
   ·have := hinv.aside (.cells u.cells T)
    rw [hFG] at this
    exact this
   ·intro t' ht' hc
    have hfun : (fun k => (listed.setIfInBounds i true).getD k false) = (fun k => if k = i then true else listed.getD k false) := by
     funext k; exact hset k
    rw [hfun] at hc ⊢
    rw [iW t' (dH l) tr _ _ i _ hvi (by simp [iK])] at hc ⊢
    by_cases e : t' = t
    ·subst e
     have hno : ∀ (j : Nat) (y : Oper), (dH l)[j]? = some y → y.dst = some t' → False := by
      intro j y hy hyd
      obtain ⟨y0, g1, g2, _⟩ := lE hy
      by_cases ej : j + 1 < l.length
      ·rw [iP ej] at g2
       by_cases ha : ∀ T, y0.op ≠ .alloc T
       ·rw [kL ha] at g2
        subst g2
        by_cases eji : j = i
        ·subst eji; rw [ho] at g1; simp only [sJ] at g1; subst g1; exact ha T hop
        ·exact huniq j y g1 eji hyd
       ·obtain ⟨T', ha⟩ : ∃ T, y0.op = .alloc T := Classical.byContradiction fun h => ha fun T e => h ⟨T, e⟩
        rw [p9 ha] at g2
        subst g2
        cases hyd
      ·rw [iN ej] at g2
       subst g2
       cases hyd
     have hk : dE t' (dH l) tr (fun k => listed.getD k false) (E.get t') = E.get t' := by
      rw [dU t' (dH l) tr _ (fun _ => false) _ (fun j y hy hyd => (hno j y hy hyd).elim)]
      exact gX t' (dH l) tr _ _ fun _ _ _ _ => rfl
     rw [hk, hE t' hts] at hc
     cases hc
    ·rw [hput t' e]
     exact aS.mono (fun _ _ h => h) (bt.refl _) (hslot t' ht' hc)
theorem pF : ∀ (ts : List Nat) (E : Env) (t : Nat), (∀ x ∈ ts, x < 512) → t ∈ ts → ((E.forget ts).get t).cond = false := by
 have keep : ∀ (ts : List Nat) (E : Env) (t : Nat), (E.get t).cond = false → ((E.forget ts).get t).cond = false := by
  intro ts
  induction ts with
  | nil => intro E t h; exact h
  | cons i r ih =>
   intro E t h
   refine ih (E.erase i) t ?_
   cases hc : ((E.erase i).get t).cond with
   | false => rfl
   | true => have := Env.erase_get E i t hc; rw [this, h] at hc; cases hc
 have zap : ∀ (E : Env) (i : Nat), i < 512 → ((E.erase i).get i).cond = false := by
  intro E i h
  unfold Env.erase Env.get
  simp only
  have hb : i / 64 < 8 := by omega
  rw [Tr.get_put _ _ _ _ hb, iP rfl, Tr.get_put _ _ _ _ (Nat.mod_lt _ (by decide)), iP rfl, Tr.get_put _ _ _ _ (Nat.mod_lt _ (by decide)), iP rfl]
  simp [Tr.ent]
 intro ts
 induction ts with
 | nil => intro E t _ h; simp at h
 | cons i r ih =>
  intro E t hx h
  by_cases e : t ∈ r
  ·exact ih (E.erase i) t (fun x hx' => hx x (by simp [hx'])) e
  ·have : t = i := by simpa [e] using h
   subst this
   exact keep r _ t (zap E t (hx t (by simp)))
theorem to (E : Env) (d : Option Tmp) (e : Ent) : (E.putD d e).n = E.n := by cases d <;> rfl
theorem qa {E E' : Env} (h : E.n = E'.n) {d : Option Tmp} (hd : cR E d) : cR E' d := by
 cases d with
 | none => trivial
 | some d => show d < E'.n; rw [← h]; exact hd
theorem lF {ops : Array Oper} {kp : PV → Env → List OB → Prop} {k : Env → List OB → Prop} : ∀ (r : List Oper) (E : Env) (σ : List OB), dG P ops (jl r) E σ k kp →
  ∀ (i : Nat) (o : Oper) (T : TypeId), (∀ (i : Nat) (o : Oper) (T : TypeId), r[i]? = some o → i + 1 < r.length → o.op = .alloc T → o.guard = none) → r[i]? = some o → i + 1 < r.length → o.op = .alloc T → (∃ z, gH P T = some z) ∧ cR E o.dst
 | [], E, σ, h, i, o, T, hg, ho, hi, hop => by simp at ho
 | [q], E, σ, h, i, o, T, hg, ho, hi, hop => by simp at hi
 | x :: o2 :: r, E, σ, h, i, o, T, hg, ho, hi, hop => by
  have hg' : ∀ (i : Nat) (o : Oper) (T : TypeId), (o2 :: r)[i]? = some o → i + 1 < (o2 :: r).length → o.op = .alloc T → o.guard = none := fun i o T h1 h2 h3 => hg (i + 1) o T (by simpa using h1) (by simp at h2 ⊢; omega) h3
  by_cases hx : ∀ T, x.op ≠ .alloc T
  ·have e : jl (x :: o2 :: r) = jl (o2 :: r) := by
    unfold jl
    split
    ·rename_i T' e; exact (hx T' e).elim
    ·cases r <;> rfl
   rw [e] at h
   cases i with
   | zero => simp at ho; subst ho; exact (hx T hop).elim
   | succ i => exact lF (o2 :: r) E σ h i o T hg' (by simpa using ho) (by simp at hi ⊢; omega) hop
  ·obtain ⟨Tx, hx⟩ : ∃ T, x.op = .alloc T := Classical.byContradiction fun h => hx fun T e => h ⟨T, e⟩
   have e : jl (x :: o2 :: r) = x :: jl (o2 :: r) := by
    simp only [jl, hx]
   rw [e] at h
   have hgx := hg 0 x Tx rfl (by simp) hx
   unfold dG at h
   simp only [cX, hgx, bx, hx, iD] at h
   split at h
   ·rename_i z hz
    simp only [kt] at h
    obtain ⟨hd, _, hr⟩ := h
    cases i with
    | zero => simp at ho; subst ho; rw [hx] at hop; simp only [Op.alloc.injEq] at hop; subst hop; exact ⟨⟨z, hz⟩, hd⟩
    | succ i =>
     obtain ⟨q1, q2⟩ := lF (o2 :: r) _ _ hr i o T hg' (by simpa using ho) (by simp at hi ⊢; omega) hop
     exact ⟨q1, qa (to _ _ _) q2⟩
   ·simp only [kt] at h
theorem mat {ops : Array Oper} {pb : Nat → Nat} {kp : PV → Env → List OB → Prop} {k : Env → List OB → Prop} {a : Act} {w : World} : ∀ (r : List Oper) (m : Nat) (G : Gh) (E : Env) (σ : List OB), Sim G E σ a w →
  (∀ (i : Nat) (o : Oper) (T : TypeId), r[i]? = some o → i + 1 < r.length → o.op = .alloc T → o.guard = none ∧ ∃ t, o.dst = some t ∧ a.tmps.getD t undef = .pointer (some ⟨pb (m + i), 0, none⟩) ∧ G.F (pb (m + i)) = none ∧ G.H (pb (m + i)) = none ∧
   (∀ (b : Nat) (og : OG), G.own[b]? = some (some og) → og.has = true → og.blk ≠ pb (m + i)) ∧ ∃ inf u, P.info? T = some inf ∧ inf.zero = some u ∧ w.heap[pb (m + i)]? = some (.cells u.cells T)) →
  (∀ (i j : Nat) (o o' : Oper) (T T' : TypeId), r[i]? = some o → r[j]? = some o' → i + 1 < r.length → j + 1 < r.length → o.op = .alloc T → o'.op = .alloc T' → pb (m + i) = pb (m + j) → i = j) →
  dG P ops (jl r) E σ k kp → ∀ q, r.getLast? = some q → ∃ G' E' σ', Gle G G' ∧ Sim G' E' σ' a w ∧ dG P ops [q] E' σ' k kp
 | [], m, G, E, σ, hs, hf, hdist, h, q, hq => by simp at hq
 | [x], m, G, E, σ, hs, hf, hdist, h, q, hq => by simp at hq; subst hq; exact ⟨G, E, σ, Gle.refl G, hs, h⟩
 | x :: o2 :: r, m, G, E, σ, hs, hf, hdist, h, q, hq => by
  have hq' : (o2 :: r).getLast? = some q := by simpa [List.getLast?_cons_cons] using hq
  have hdist' : ∀ (i j : Nat) (o o' : Oper) (T T' : TypeId), (o2 :: r)[i]? = some o → (o2 :: r)[j]? = some o' → i + 1 < (o2 :: r).length → j + 1 < (o2 :: r).length → o.op = .alloc T → o'.op = .alloc T' → pb (m + 1 + i) = pb (m + 1 + j) → i = j := by
   intro i j o o' T T' h1 h2 h3 h4 h5 h6 h7
   have := hdist (i + 1) (j + 1) o o' T T' (by simpa using h1) (by simpa using h2) (by simp at h3 ⊢; omega) (by simp at h4 ⊢; omega) h5 h6 (by rw [show m + (i + 1) = m + 1 + i by omega, show m + (j + 1) = m + 1 + j by omega]; exact h7)
   omega
  by_cases hx : ∀ T, x.op ≠ .alloc T
  ·have e : jl (x :: o2 :: r) = jl (o2 :: r) := by
    unfold jl
    split
    ·rename_i T' e; exact (hx T' e).elim
    ·cases r <;> rfl
   rw [e] at h
   refine mat (o2 :: r) (m + 1) G E σ hs (fun i o T h1 h2 h3 => ?_) hdist' h q hq'
   have := hf (i + 1) o T (by simpa using h1) (by simp at h2 ⊢; omega) h3
   rw [show m + (i + 1) = m + 1 + i by omega] at this
   exact this
  ·obtain ⟨Tx, hx⟩ : ∃ T, x.op = .alloc T := Classical.byContradiction fun h => hx fun T e => h ⟨T, e⟩
   have e : jl (x :: o2 :: r) = x :: jl (o2 :: r) := by
    simp only [jl, hx]
   rw [e] at h
   obtain ⟨hgx, t, hd, g1, g2, g3, g4, inf, u, g5, g6, g7⟩ := hf 0 x Tx rfl (by simp) hx
   simp only [Nat.add_zero] at g1 g2 g3 g4 g7
   unfold dG at h
   simp only [cX, hgx, bx, hx, iD] at h
   split at h
   ·rename_i z hz
    simp only [kt] at h
    obtain ⟨hdk, _, hr⟩ := h
    obtain ⟨inf', u', k1, k2, _, _, _, k5⟩ := fg G hz
    rw [g5] at k1; simp only [sJ] at k1; subst k1
    rw [g6] at k2; simp only [sJ] at k2; subst k2
    have hinv := hs.inv.gain (cs := z) g7 g3 g2 g4 (aI.mono (fun _ _ hr => be.rep hr) k5)
    have hle : bt G.own (G.own ++ [some (⟨pb m, 0, 0, 0, true⟩ : OG)]) := bt.append _ _
    rw [hd] at hr
    have hsim : Sim { G with own := G.own ++ [some ⟨pb m, 0, 0, 0, true⟩] } (E.putD (some t) ⟨true, .c (.optr σ.length 0)⟩) (σ ++ [.box z]) a w := by
     refine ⟨hinv, hs.defers, hs.size, hs.na, fun i hc => ?_⟩
     have hg := Env.get_put E t i _ hc
     show aS _ ((E.put t _).get i).v _
     rw [hg]
     by_cases ei : i = t
     ·rw [iP ei, ei, g1]
      refine ⟨rfl, some ⟨pb m, 0, 0, 0, true⟩, ?_, fun og e _ => by simp only [sJ] at e; subst e; rfl⟩
      show (G.own ++ _)[σ.length]? = _
      rw [← hs.inv.len]; simp
     ·rw [iN ei]
      have hc' : (E.get i).cond = true := by
       have : ((E.put t ⟨true, .c (.optr σ.length 0)⟩).get i).cond = true := hc
       rw [hg, iN ei] at this; exact this
      exact aS.mono (G := G) (G' := { G with own := G.own ++ [some ⟨pb m, 0, 0, 0, true⟩] }) (fun _ _ h => h) hle (hs.slot i hc')
    obtain ⟨G', E', σ', q1, q2, q3⟩ := mat (o2 :: r) (m + 1) _ _ _ hsim (fun i o T h1 h2 h3 => by
     obtain ⟨f1, t', f2, f3, f4, f5, f6, f7⟩ := hf (i + 1) o T (by simpa using h1) (by simp at h2 ⊢; omega) h3
     rw [show m + (i + 1) = m + 1 + i by omega] at f3 f4 f5 f6 f7
     refine ⟨f1, t', f2, f3, f4, f5, fun b og hb hh => ?_, f7⟩
     rcases Nat.lt_or_ge b G.own.length with hb' | hb'
     ·rw [List.getElem?_append_left hb'] at hb; exact f6 b og hb hh
     ·rw [List.getElem?_append_right hb'] at hb
      rcases Nat.eq_zero_or_pos (b - G.own.length) with e0 | e0
      ·rw [e0] at hb
       simp only [List.getElem?_cons_zero, sJ] at hb
       subst hb
       intro e1
       have := hdist 0 (i + 1) x o Tx T rfl (by simpa using h1) (by simp) (by simp at h2 ⊢; omega) hx h3 (by rw [Nat.add_zero, show m + (i + 1) = m + 1 + i by omega]; exact e1)
       omega
      ·rw [List.getElem?_eq_none (by simp; omega)] at hb; cases hb) hdist' hr q hq'
    have hGle : Gle G { G with own := G.own ++ [some ⟨pb m, 0, 0, 0, true⟩] } := ⟨⟨fun _ _ h => h, rfl, rfl, rfl⟩, iE.of_le hle⟩
    exact ⟨G', E', σ', hGle.trans q1, q2, q3⟩
   ·simp only [kt] at h
theorem oP {l : List Oper} {listed : Array Bool} {i : Nat} (h : i ∈ Region.ready .any (dH l).toArray listed) : i ∈ Region.ready .any l.toArray listed := by
 obtain ⟨h1, o, ho, h2⟩ := mem_ready.1 h
 obtain ⟨o2, q1, q2, q3, q4⟩ := lE (show (dH l)[i]? = some o by simpa using ho)
 exact mem_ready.2 ⟨h1, o2, by simpa using q1, fun x hx => h2 x (by rw [q3]; exact hx)⟩
theorem qJ {l : List Oper} {i : Nat} {q : Oper} {K : Act → World → Prop} {a : Act} {w : World} (ho : (dH l)[i]? = some (iK q)) (hg : q.guard = none) (h : wpOp P (dH l).toArray (fun _ _ _ => False) i K a w) : K a w := by
 unfold wpOp at h
 simp only [List.getElem?_toArray, ho] at h
 rw [iP (by unfold Region.wanted; simp [iK, hg])] at h
 rcases h with h | ⟨_, _, _, h⟩
 ·unfold Oper.wp at h
  have : (execOp a.eval (iK q)).run P w = .ok (.value (.bool true)) w := by simp [execOp, iK, Act.eval]
  rw [this] at h
  exact h
 ·exact h.elim
theorem qK {ops : Array Oper} {Q : Exit → Act → World → Prop} {listed : Array Bool} (hr : Region.ready .any ops listed = []) : ∀ (fuel : Nat) (a : Act) (w : World), Q .normal a w → wpAny P .any ops Q fuel listed a w
 | 0, a, w, h => ⟨hr, h⟩
 | fuel + 1, a, w, h => ⟨fun _ => h, fun i hi => by rw [hr] at hi; simp at hi⟩
theorem tp {id : Nat} {l : List Oper} {K : Kt} {E : Env} {σ : List OB} (hm : P.follows .mixedOrders = true) (ts : List Nat) (masks : List Nat) (bs : List Bool) (hc : tn l ts masks bs = true) (hts : ∀ t ∈ ts, t < 512) {k : Env → List OB → Prop} {kp : PV → Env → List OB → Prop} (hkn : ∀ E σ, k E σ → K .normal E σ) (hkp : ∀ p E σ, kp p E σ → K (.panic p) E σ)
  (h : TR P (dH l).toArray (dH l) bs (E.forget ts) σ (fun E σ => dG P l.toArray (jl l) E σ k kp)) : W P (.region id l.toArray true) K E σ := fun G a w hs0 => by
 have hs := Env.forget_sim ts hs0
 have hE := fun t ht => pF ts E t hts ht
 generalize E.forget ts = E1 at hs hE h
 obtain ⟨tr, ht, hk⟩ := h
 unfold tn at hc
 simp only [Bool.and_eq_true] at hc
 have c := th hc.1
 have v := sD hc.2
 have hz : ∀ (i : Nat) (o : Oper) (T : TypeId), l[i]? = some o → i + 1 < l.length → o.op = .alloc T → (∃ z, gH P T = some z) ∧ cR E1 o.dst := fun i o T h1 h2 h3 => by
  obtain ⟨q1, q2⟩ := lF l _ _ hk i o T (fun i o T h1 h2 h3 => (v.al i o T h1 h2 h3).1) h1 h2 h3
  exact ⟨q1, qa (mg (dH l) tr E1 (dH l).length).1 q2⟩
 have hpos := v.pos
 obtain ⟨q, hq⟩ : ∃ q, l[l.length - 1]? = some q := ⟨_, List.getElem?_eq_getElem (by omega)⟩
 obtain ⟨hqd, hqg⟩ := v.last _ q hq (by omega)
 have hvq := iY l _ q hq
 rw [iN (by omega)] at hvq
 refine wp_region_any hm ?_
 have key : ∀ (fuel : Nat) (listed : Array Bool) (a : Act) (w : World), listed.toList.count false ≤ fuel → listed.getD (l.length - 1) false = false → StA P l tr E1 σ G listed a w → wpAny P .any l.toArray (dg G K) fuel listed a w := by
  have some_ready : ∀ (listed : Array Bool) (a : Act) (w : World), listed.getD (l.length - 1) false = false → StA P l tr E1 σ G listed a w → Region.ready .any l.toArray listed ≠ [] := by
   intro listed a w h1 ⟨G1, _, hS⟩ hr
   have hr' : Region.ready .any (dH l).toArray listed = [] := by
    rw [List.eq_nil_iff_forall_not_mem] at hr ⊢
    exact fun i hi => hr i (oP hi)
   have := qB c hS.1 hr' (l.length - 1) (by rw [ii]; omega)
   rw [h1] at this; cases this
  intro fuel
  induction fuel with
  | zero =>
   intro listed a w hf hl hJ
   exfalso
   have hsz : listed.size = l.length := by obtain ⟨_, _, hS⟩ := hJ; rw [hS.1, ii]
   have : listed.toList[l.length - 1]? = some false := by
    rw [Array.getD_eq_getD_getElem?, Array.getElem?_eq_getElem (by omega)] at hl
    rw [Array.getElem?_toList, Array.getElem?_eq_getElem (by omega)]
    simpa using hl
   have hpos := List.count_pos_iff.2 (List.mem_of_getElem? this)
   omega
  | succ fuel ih =>
   intro listed a w hf hl hJ
   refine ⟨fun hr => (some_ready listed a w hl hJ hr).elim, fun i hi => ?_⟩
   have hsz : listed.size = l.length := by obtain ⟨_, _, hS⟩ := hJ; rw [hS.1, ii]
   obtain ⟨hi0, hil, o, ho, hr⟩ := iu hsz hi
   have hset : ∀ j, (listed.setIfInBounds i true).getD j false = if j = i then true else listed.getD j false := fun j => pm _ _ _ (by omega)
   by_cases hlt : i + 1 < l.length
   ·refine wpOp_mono (fun a' w' hJ' => ih _ a' w' ?_ ?_ hJ') (StA.step c v ht hE hz G listed a w i hJ hi hlt)
    ·have : listed.toList[i]? = some false := by
      rw [Array.getD_eq_getD_getElem?, Array.getElem?_eq_getElem (by omega)] at hi0
      rw [Array.getElem?_toList, Array.getElem?_eq_getElem (by omega)]
      simpa using hi0
     have hc := lB _ _ this
     simp only [Array.toList_setIfInBounds]
     omega
    ·rw [hset, iN (by omega)]; exact hl
   ·have hie : i = l.length - 1 := by omega
    subst hie
    rw [hq] at ho
    simp only [sJ] at ho
    subst ho
    obtain ⟨G1, ⟨p1, p2, p3, p4, p5, pb, p6, p7⟩, hS⟩ := hJ
    have hdone : ∀ (j : Nat), j < l.length - 1 → listed.getD j false = true := by
     intro j hj
     have hy := iY l j l[j] (List.getElem?_eq_getElem (by omega))
     have := c.done hS.2.1 hvq hl (fun k hk => by
      have : cT (iK q) = cT q := rfl
      rw [this] at hk; exact hr k hk) hy (.inl (c.bar (l.length - 1) j _ _ hvq hy v.bar))
     rw [this]; simp; omega
    have hst := qJ hvq hqg (StJ.step (Q := fun _ _ _ => False) c ht G1 listed a w (l.length - 1) hS (mS hi))
    have hall : ∀ j, j < l.length → (listed.setIfInBounds (l.length - 1) true).getD j false = true := by
     intro j hj
     rw [hset]
     by_cases e : j = l.length - 1
     ·rw [iP e]
     ·rw [iN e]; exact hdone j (by omega)
    obtain ⟨G2, hG2, hsim⟩ := (rg (Q := fun _ a' w' => ∃ G2, Gle G1 G2 ∧ Sim G2 (cx E1 (dH l) tr (dH l).length) (aK σ tr (dH l).length) a' w') c ht G1 (fun G2 a' w' h1 h2 => ⟨G2, h1, h2⟩) 0 (listed.setIfInBounds (l.length - 1) true) a w (by
     refine Nat.le_of_eq (List.count_eq_zero.2 fun hm => ?_)
     obtain ⟨j, hj, he⟩ := List.getElem_of_mem hm
     have hj' : j < l.length := by simpa [hsz] using hj
     have := hall j hj'
     rw [Array.getD_eq_getD_getElem?, Array.getElem?_eq_getElem (by simpa [hsz] using hj')] at this
     rw [Array.getElem_toList] at he
     simp only [Option.getD_some] at this
     rw [he] at this; cases this) hst).2
    have hF2 : G2.F = G1.F := hG2.le.F
    have hsim' : Sim { G2 with F := G.F } (cx E1 (dH l) tr (dH l).length) (aK σ tr (dH l).length) a w :=
     ⟨hsim.inv.less G.F (fun b x hb => by rw [hF2]; exact p5 b x hb), hsim.defers, hsim.size, hsim.na, fun i hc => aS.mono (G := G2) (G' := { G2 with F := G.F }) (fun _ _ h => h) (bt.refl _) (hsim.slot i hc)⟩
    obtain ⟨G3, E3, σ3, r1, r2, r3⟩ := mat (pb := pb) l 0 _ _ _ hsim' (fun j y T h1 h2 h3 => by
     obtain ⟨e1, t, e2, _, _, _⟩ := v.al j y T h1 h2 h3
     obtain ⟨f1, f2, inf, u, f3, f4, f5⟩ := p7 j y T t h1 h2 h3 e2 (hdone j (by omega))
     rw [← hF2] at f5
     simp only [Nat.zero_add]
     refine ⟨e1, t, e2, f1, f2, hsim.inv.HF _ _ f5, fun b og hb hh he => ?_, inf, u, f3, f4, hsim.inv.hF _ _ f5⟩
     have := (hsim.inv.sep b og hb hh).2
     rw [he, f5] at this; cases this)
     (fun j k y y' T T' h1 h2 h3 h4 h5 h6 h7 => p6 j k y y' T T' h1 h2 h3 h4 h5 h6 (hdone j (by omega)) (hdone k (by omega)) (by simpa using h7)) hk q (by rw [List.getLast?_eq_getElem?]; exact hq)
    have hGle : Gle G { G2 with F := G.F } := by
     refine ⟨⟨fun b x hb => hG2.le.H b x (by rw [p1]; exact hb), rfl, hG2.le.w0.trans p3, hG2.le.na.trans p4⟩, ?_⟩
     have := hG2.own
     rw [p2, p4] at this
     exact this
    have hw := fN [q] E3 σ3 _ _ r3 G3 a w r2
    have hw' : wpList P l.toArray (dg G K) [q] a w := de (fun e a' w' hp => dg.back (hGle.trans r1) (dg.mono (fun x E σ hx => by
     cases x with
     | normal => exact hkn E σ hx
     | exit id => exact hx.elim
     | ret => exact hx.elim
     | panic p => exact hkp p E σ hx) hp)) _ _ _ hw
    have hnil : Region.ready .any l.toArray (listed.setIfInBounds (l.length - 1) true) = [] := by
     rw [List.eq_nil_iff_forall_not_mem]
     intro j hj
     obtain ⟨g1, g2, _⟩ := iu (by simpa using hsz) hj
     rw [hall j g2] at g1; cases g1
    have hop : wpOp P l.toArray (dg G K) (l.length - 1) (fun a' w' => dg G K .normal a' w') a w := by
     unfold wpOp
     simp only [List.getElem?_toArray, hq]
     unfold wpList at hw'
     exact hw'
    exact wpOp_mono (fun a' w' hn => qK hnil fuel a' w' hn) hop
 refine key _ _ a _ (Nat.le_refl _) ?_ ?_ |> fun h => by
  have e : (Array.replicate l.toArray.size false).toList.count false = l.toArray.size := by simp
  rw [e] at h; exact h
 ·rw [Array.getD_eq_getD_getElem?, Array.getElem?_replicate]; split <;> rfl
 ·have hfalse : ∀ i, (Array.replicate l.toArray.size false).getD i false = false := by
   intro i
   rw [Array.getD_eq_getD_getElem?, Array.getElem?_replicate]
   split <;> rfl
  refine ⟨G, ⟨rfl, rfl, rfl, rfl, fun _ _ h => h, fun _ => 0, (fun i j o o' T T' _ _ _ _ _ _ h _ _ => by rw [hfalse] at h; cases h), (fun i o T t _ _ _ _ h => by rw [hfalse] at h; cases h)⟩, ?_⟩
  refine ⟨by simp [ii], (fun i o ho hd => by simp only [hfalse] at hd; cases hd), G, 0, Gle.refl G, by omega, (fun j o ho hl => by rw [hfalse]; simp), ?_, hs.defers, hs.size, hs.na, fun t ht hc => ?_⟩
  ·have : aK σ tr 0 = σ := by cases tr <;> rfl
   rw [this]; exact hs.inv.drawn
  ·have : dE t (dH l) tr (fun i => (Array.replicate l.toArray.size false).getD i false) (E1.get t) = E1.get t := gX t (dH l) tr _ _ fun j o _ _ => hfalse j
   rw [this] at hc ⊢
   exact hs.slot t hc
theorem qb {id : Nat} {l : List Oper} {y : Code} {K : Kt} {E : Env} {σ : List OB} (ms : List Nat) (ts : List Nat) (masks : List Nat) (bs : List Bool) (hm : P.follows .mixedOrders = true) (hc : tn l ts masks bs = true) (hts : ∀ t ∈ ts, t < 512)
  (h : ∀ (k : Env → List OB → Prop) (kp : PV → Env → List OB → Prop), (∀ E σ, W P y K E σ → k E σ) → eT P (dH l).toArray (dH l) bs (E.forget ts) σ (fun E σ => dG P l.toArray (jl l) E σ (fun E σ => k (E.forget ms) σ) kp)) : W P (.seq (.region id l.toArray true) y) K E σ :=
 mH (tp (k := fun E σ => W P y K (E.forget ms) σ) (kp := fun _ _ _ => False) hm ts masks bs hc hts (fun _ _ h => jX ms h) (fun _ _ _ h => h.elim) (fh _ bs _ σ _ (h (fun E σ => W P y K E σ) (fun _ _ _ => False) fun _ _ h => h)))
end
def inL (t : Nat) : List Nat → Bool
 | [] => false
 | x :: r => if t = x then true else inL t r
def mT (o : Oper) (x : Operand) : Oper := { dst := none, op := .move x, type := o.type, pos := o.pos, after := o.after, guard := o.guard }
def kM (ts : List Nat) (o : Oper) : Oper :=
 match o.op with
 | .alloc _ => iK o
 | .store _ (.tmp t) x => if inL t ts = true then mT o x else o
 | _ => o
def gE (ts : List Nat) : List Oper → List Oper
 | [] => []
 | [q] => [iK q]
 | o :: o2 :: r => kM ts o :: gE ts (o2 :: r)
def kN (ts : List Nat) (o : Oper) (T : TypeId) (t : Nat) (x : Operand) : Prop := o.op = .store T (.tmp t) x ∧ inL t ts = true
structure sE (l : List Oper) (ts masks : List Nat) (bs : List Bool) : Prop where
 bar : bs.getD (l.length - 1) false = true
 pos : 0 < l.length
 small : ∀ t ∈ ts, t < 512
 cov : ∀ t, inL t ts = true → ∃ (j : Nat) (y : Oper) (T : TypeId), l[j]? = some y ∧ j + 1 < l.length ∧ y.op = .alloc T ∧ y.dst = some t
 al : ∀ (i : Nat) (o : Oper) (T : TypeId), l[i]? = some o → i + 1 < l.length → o.op = .alloc T → o.guard = none ∧ ∃ t, o.dst = some t ∧ t < 512 ∧ inL t ts = true ∧ ∀ (j : Nat) (y : Oper), l[j]? = some y → j ≠ i → y.dst ≠ some t
 fl : ∀ (i : Nat) (o : Oper) (T : TypeId) (t : Nat) (x : Operand), l[i]? = some o → i + 1 < l.length → kN ts o T t x → o.guard = none ∧ o.dst = none ∧ ∃ s, x = .tmp s ∧ inL s ts = false ∧ s < 512 ∧
  (∀ (j : Nat) (y : Oper), l[j]? = some y → y.dst = some s → j < i) ∧
  (∃ (j : Nat) (y : Oper), l[j]? = some y ∧ j < i ∧ y.dst = some t ∧ y.op = .alloc T ∧ (masks.getD i 0).testBit j = true) ∧
  ∀ (j : Nat) (y : Oper) (T' : TypeId) (x' : Operand), l[j]? = some y → j ≠ i → j + 1 < l.length → y.op ≠ .store T' (.tmp t) x'
 last : ∀ (i : Nat) (o : Oper), l[i]? = some o → i + 1 = l.length → o.dst = none ∧ o.guard = none
 ref : ∀ (i : Nat) (o : Oper) (g : Nat) (b : Bool) (y : Oper), l[i]? = some o → o.guard = some (g, b) → l[g]? = some y → ∀ T, y.op ≠ .alloc T
theorem li (ts : List Nat) : ∀ l : List Oper, (gE ts l).length = l.length
 | [] => rfl
 | [q] => rfl
 | o :: o2 :: r => by simp only [gE, List.length_cons]; rw [li ts (o2 :: r)]; rfl
theorem hQ (ts : List Nat) : ∀ (l : List Oper) (i : Nat) (o : Oper), l[i]? = some o → (gE ts l)[i]? = some (if i + 1 < l.length then kM ts o else iK o)
 | [], i, o, h => by simp at h
 | [q], 0, o, h => by simp at h; subst h; rfl
 | [q], i + 1, o, h => by simp at h
 | a :: o2 :: r, 0, o, h => by simp at h; subst h; simp [gE]
 | a :: o2 :: r, i + 1, o, h => by
  have := hQ ts (o2 :: r) i o (by simpa using h)
  simp only [gE, List.getElem?_cons_succ, this, List.length_cons]
  congr 1
  by_cases e : i + 1 < r.length + 1
  ·rw [iP e, iP (by omega)]
  ·rw [iN e, iN (by omega)]
theorem qc {ts : List Nat} {o : Oper} {T : TypeId} (h : o.op = .alloc T) : kM ts o = iK o := by unfold kM; rw [h]
theorem ml {ts : List Nat} {o : Oper} {T : TypeId} {t : Nat} {x : Operand} (h : kN ts o T t x) : kM ts o = mT o x := by
 unfold kM; rw [h.1]; simp only; rw [iP h.2]
theorem jB {ts : List Nat} {o : Oper} (h : ∀ T, o.op ≠ .alloc T) (h2 : ∀ T t x, ¬ kN ts o T t x) : kM ts o = o := by
 unfold kM
 split
 ·rename_i T e; exact (h T e).elim
 ·rename_i T t x e
  split
  ·rename_i e2; exact (h2 T t x ⟨e, e2⟩).elim
  ·rfl
 ·rfl
theorem mU (ts : List Nat) (o : Oper) : (kM ts o).after = o.after ∧ (kM ts o).guard = o.guard := by
 unfold kM
 split
 ·exact ⟨rfl, rfl⟩
 ·split <;> exact ⟨rfl, rfl⟩
 ·exact ⟨rfl, rfl⟩
theorem lG {ts : List Nat} {l : List Oper} {i : Nat} {o' : Oper} (h : (gE ts l)[i]? = some o') : ∃ o, l[i]? = some o ∧ o' = (if i + 1 < l.length then kM ts o else iK o) ∧ o'.after = o.after ∧ o'.guard = o.guard := by
 have hlt : i < l.length := by rw [← li ts]; exact (List.getElem?_eq_some_iff.1 h).1
 have e := hQ ts l i l[i] (List.getElem?_eq_getElem hlt)
 rw [h] at e
 simp only [sJ] at e
 refine ⟨l[i], List.getElem?_eq_getElem hlt, e, ?_⟩
 rw [e]
 split
 ·exact mU _ _
 ·exact ⟨rfl, rfl⟩
theorem pG {ts : List Nat} {l : List Oper} {listed : Array Bool} {i : Nat} (h : i ∈ Region.ready .any l.toArray listed) : i ∈ Region.ready .any (gE ts l).toArray listed := by
 obtain ⟨h1, o, ho, h2⟩ := mem_ready.1 h
 have e := hQ ts l i o (by simpa using ho)
 obtain ⟨o2, q1, q2, q3, q4⟩ := lG e
 rw [show l[i]? = some o by simpa using ho] at q1
 simp only [sJ] at q1
 subst q1
 refine mem_ready.2 ⟨h1, _, by simpa using e, fun x hx => ?_⟩
 rw [q3] at hx
 exact h2 x hx
theorem mV {ts masks : List Nat} {bs : List Bool} {l : List Oper} (v : sE l ts masks bs) {i : Nat} {o o' : Oper} (ho : l[i]? = some o) (ho' : (gE ts l)[i]? = some o') {t : Nat} (h : o'.dst = some t) : o.dst = some t ∧ inL t ts = false := by
 have e := hQ ts l i o ho
 rw [ho'] at e
 simp only [sJ] at e
 by_cases hi : i + 1 < l.length
 ·rw [iP hi] at e
  by_cases ha : ∃ T, o.op = .alloc T
  ·obtain ⟨T, ha⟩ := ha
   rw [qc ha] at e; subst e; cases h
  ·by_cases hf : ∃ T t x, kN ts o T t x
   ·obtain ⟨T, t', x, hf⟩ := hf
    rw [ml hf] at e; subst e; cases h
   ·rw [jB (fun T e => ha ⟨T, e⟩) (fun T t x e => hf ⟨T, t, x, e⟩)] at e
    subst e
    refine ⟨h, ?_⟩
    cases hin : inL t ts with
    | false => rfl
    | true =>
     obtain ⟨j, y, T, hy, hj, hop, hd⟩ := v.cov t hin
     obtain ⟨_, t', g1, _, _, g2⟩ := v.al j y T hy hj hop
     rw [hd] at g1
     simp only [sJ] at g1
     subst g1
     by_cases e : i = j
     ·subst e; rw [ho] at hy; simp only [sJ] at hy; subst hy; exact (ha ⟨T, hop⟩).elim
     ·exact (g2 i _ ho e h).elim
 ·rw [iN hi] at e; subst e; cases h
section
variable {P : Program}
theorem oQ {ts masks : List Nat} {l : List Oper} {bs : List Bool} (v : sE l ts masks bs) {i : Nat} {o : Oper} (ho : l[i]? = some o) (tmps : Array Value) :
  Region.wanted o (yielded (gE ts l).toArray tmps) = Region.wanted o (yielded l.toArray tmps) := by
 unfold Region.wanted
 cases hg : o.guard with
 | none => rfl
 | some gb =>
  obtain ⟨g, b⟩ := gb
  simp only
  have : yielded (gE ts l).toArray tmps g = yielded l.toArray tmps g := by
   unfold yielded
   simp only [List.getElem?_toArray]
   cases hy : l[g]? with
   | none =>
    have : (gE ts l)[g]? = none := by
     rw [List.getElem?_eq_none_iff] at hy ⊢
     rw [li]; exact hy
    rw [this]
   | some y =>
    rw [hQ ts l g y hy]
    by_cases e : g + 1 < l.length
    ·rw [iP e]
     by_cases hf : ∃ T t x, kN ts y T t x
     ·obtain ⟨T, t, x, hf⟩ := hf
      have := (v.fl g y T t x hy e hf).2.1
      rw [ml hf]
      simp [mT, this]
     ·rw [jB (v.ref i o g b y ho hg hy) (fun T t x e => hf ⟨T, t, x, e⟩)]
    ·rw [iN e]
     have := (v.last g y hy (by have := (List.getElem?_eq_some_iff.1 hy).1; omega)).1
     simp [iK, this]
  rw [this]
theorem qL {ts masks : List Nat} {l : List Oper} {bs : List Bool} (v : sE l ts masks bs) {Q : Exit → Act → World → Prop} {i : Nat} {o : Oper} {K : Act → World → Prop} {a : Act} {w : World} (ho : l[i]? = some o) (hi : i + 1 < l.length) (hn : ∀ T, o.op ≠ .alloc T) (hf : ∀ T t x, ¬ kN ts o T t x)
  (h : wpOp P (gE ts l).toArray Q i K a w) : wpOp P l.toArray Q i (fun a' w' => K a' w' ∧ ∀ t, o.dst ≠ some t → a'.tmps.getD t undef = a.tmps.getD t undef) a w := by
 have e := hQ ts l i o ho
 rw [iP hi, jB hn hf] at e
 have h' := oN (o := o) (by simpa using e) h
 unfold wpOp at h' ⊢
 simp only [List.getElem?_toArray, e, ho, oQ v ho] at h' ⊢
 exact h'
def rE (P : Program) (ts : List Nat) (l : List Oper) (listed : Array Bool) (a : Act) (T : TypeId) (t : Nat) (x : Obj) : Prop :=
 ((∀ (j : Nat) (y : Oper) (T' : TypeId) (q : Operand), l[j]? = some y → j + 1 < l.length → kN ts y T' t q → listed.getD j false = false) → ∃ inf u, P.info? T = some inf ∧ inf.zero = some u ∧ x = .cells u.cells T) ∧
 ∀ (j : Nat) (y : Oper) (T' : TypeId) (s : Nat), l[j]? = some y → j + 1 < l.length → kN ts y T' t (.tmp s) → listed.getD j false = true → ∃ c, x = .cells c T ∧ c.toList = (a.tmps.getD s undef).cells.toList
def ud (P : Program) (ts : List Nat) (l : List Oper) (G0 G1 : Gh) (listed : Array Bool) (a : Act) : Prop :=
 G1.H = G0.H ∧ G1.own = G0.own ∧ G1.w0 = G0.w0 ∧ G1.na = G0.na ∧ (∀ b x, G0.F b = some x → G1.F b = some x) ∧
 ∃ pb : Nat → Nat,
  (∀ (i j : Nat) (o o' : Oper) (T T' : TypeId), l[i]? = some o → l[j]? = some o' → i + 1 < l.length → j + 1 < l.length → o.op = .alloc T → o'.op = .alloc T' → listed.getD i false = true → listed.getD j false = true → pb i = pb j → i = j) ∧
  ∀ (i : Nat) (o : Oper) (T : TypeId) (t : Nat), l[i]? = some o → i + 1 < l.length → o.op = .alloc T → o.dst = some t → listed.getD i false = true →
   a.tmps.getD t undef = .pointer (some ⟨pb i, 0, none⟩) ∧ G0.F (pb i) = none ∧ ∃ x, G1.F (pb i) = some x ∧ rE P ts l listed a T t x
def StB (P : Program) (ts : List Nat) (l : List Oper) (tr : List TS) (E : Env) (σ : List OB) (G0 : Gh) (listed : Array Bool) (a : Act) (w : World) : Prop :=
 ∃ G1, ud P ts l G0 G1 listed a ∧ StJ (gE ts l) tr E σ G1 listed a w
structure n9 (P : Program) (E : Env) (T : TypeId) (s : Nat) : Prop where
 cond : (E.get s).cond = true
 known : bw P T = true
 pos : 0 < P.cellsOf T
 len : (E.get s).v.cells.length = P.cellsOf T
theorem Inv.refill {G : Gh} {σ : List OB} {w : World} (hi : Inv G σ w) {blk : Nat} {c0 : Array Value} {T : TypeId} (c : Array Value) (hF : G.F blk = some (.cells c0 T)) :
  Inv { G with F := fun b => if b = blk then some (.cells c T) else G.F b } σ (w.setRow blk c) := by
 have old : ∀ b, b ≠ blk → (w.setRow blk c).heap[b]? = w.heap[b]? := fun b hb => dS w _ b _ hb
 have hH : G.H blk = none := hi.HF _ _ hF
 constructor
 ·intro b y h
  rw [old b (fun e => by subst e; rw [hH] at h; cases h)]; exact hi.hH b y h
 ·intro b y h
  simp only at h
  by_cases e : b = blk
  ·rw [iP e] at h; rw [e, ← h]; exact dq (hi.hF _ _ hF) c
  ·rw [iN e] at h; rw [old b e]; exact hi.hF b y h
 ·intro b y h
  simp only at h ⊢
  by_cases e : b = blk
  ·rw [e]; exact hH
  ·rw [iN e] at h; exact hi.HF b y h
 ·exact hi.len
 ·intro b ob h
  exact (hi.own b ob h).keep (fun _ _ h => h) (bt.refl _) rfl fun o ho hh => old _ (fun e => by have := (hi.sep b o ho hh).2; rw [e, hF] at this; cases this)
 ·exact hi.inj
 ·intro b o h hh
  have := (hi.sep b o h hh).2
  refine ⟨(hi.sep b o h hh).1, ?_⟩
  simp only
  rw [iN (fun e => by rw [e, hF] at this; cases this)]
  exact this
 ·exact hi.os
 ·exact hi.tape
 ·exact hi.output
 ·exact Nat.le_trans hi.grow (by simp [World.setRow])
theorem rF {listed : Array Bool} {l : List Oper} (hsz : listed.size = l.length) {i : Nat} (hil : i < l.length) (j : Nat) : (listed.setIfInBounds i true).getD j false = if j = i then true else listed.getD j false := pm _ _ _ (by omega)
theorem StB.step {ts : List Nat} {l : List Oper} {bs : List Bool} {masks : List Nat} {E : Env} {σ : List OB} {tr : List TS} (c : Chk (gE ts l).toArray (gE ts l) masks bs) (v : sE l ts masks bs) (ht : jG P (gE ts l).toArray (gE ts l) bs E σ tr)
  (hE : ∀ t, inL t ts = true → (E.get t).cond = false) (hz : ∀ (i : Nat) (o : Oper) (T : TypeId), l[i]? = some o → i + 1 < l.length → o.op = .alloc T → (∃ z, gH P T = some z) ∧ cR E o.dst)
  (hfl : ∀ (i : Nat) (o : Oper) (T : TypeId) (t s : Nat), l[i]? = some o → i + 1 < l.length → kN ts o T t (.tmp s) → n9 P (cx E (gE ts l) tr (gE ts l).length) T s)
  (G0 : Gh) {Q : Exit → Act → World → Prop} (listed : Array Bool) (a : Act) (w : World) (i : Nat)
  (hJ : StB P ts l tr E σ G0 listed a w) (hi : i ∈ Region.ready .any l.toArray listed) (hlt : i + 1 < l.length) : wpOp P l.toArray Q i (StB P ts l tr E σ G0 (listed.setIfInBounds i true)) a w := by
 obtain ⟨G1, ⟨p1, p2, p3, p4, p5, pb, p6, p7⟩, hS⟩ := hJ
 have hsz : listed.size = l.length := by rw [hS.1, li]
 obtain ⟨hi0, hil, o, ho, hr⟩ := iu hsz hi
 have hset := rF hsz hil
 have hcl := hS.2.1
 have hvi := hQ ts l i o ho
 rw [iP hlt] at hvi
 have hr' : ∀ j ∈ cT (kM ts o), listed.getD j false = true := by
  intro j hj
  have : cT (kM ts o) = cT o := by unfold cT; rw [(mU ts o).1]
  rw [this] at hj; exact hr j hj
 have hbehind : ∀ (j : Nat) (y : Oper) (T : TypeId) (t s : Nat), l[j]? = some y → j + 1 < l.length → kN ts y T t (.tmp s) → listed.getD j false = true → (kM ts o).dst ≠ some s := by
  intro j y T t s hy hj hf hl hd
  have hvj := hQ ts l j y hy
  rw [iP hj, ml hf] at hvj
  obtain ⟨_, _, s', e, _, _, g, _⟩ := v.fl j y T t _ hy hj hf
  simp only [Operand.tmp.injEq] at e
  subst e
  have hlt' : i < j := g i o ho (mV v ho hvi hd).1
  have hh := c.hit i j _ _ hvi hvj (by simp [oE, hd, Oper.looksAt, mT, Op.operands])
  simp only [il, Bool.or_eq_true, beq_iff_eq] at hh
  rcases hh with (h | h) | h
  ·omega
  ·have := (c.bit hcl i _ hvi j h).1; omega
  ·have := (c.bit hcl j _ hvj i h).2 hl
   rw [hi0] at this; cases this
 have keepH : ∀ (a' : Act) (T : TypeId) (t : Nat) (x : Obj), (∀ (j : Nat) (y : Oper) (T' : TypeId) (s : Nat), l[j]? = some y → j + 1 < l.length → kN ts y T' t (.tmp s) → listed.getD j false = true → a'.tmps.getD s undef = a.tmps.getD s undef) →
   (∀ (q : Operand) (T' : TypeId), ¬ kN ts o T' t q) → rE P ts l listed a T t x → rE P ts l (listed.setIfInBounds i true) a' T t x := by
  intro a' T t x h1 h2 ⟨k1, k2⟩
  refine ⟨fun h => k1 fun j y T' q hy hj hf => ?_, fun j y T' s hy hj hf hl => ?_⟩
  ·have := h j y T' q hy hj hf
   rw [hset] at this
   split at this
   ·cases this
   ·exact this
  ·rw [hset] at hl
   have nj : j ≠ i := fun e => by subst e; rw [ho] at hy; simp only [sJ] at hy; subst hy; exact h2 _ _ hf
   rw [iN nj] at hl
   obtain ⟨cc, e1, e2⟩ := k2 j y T' s hy hj hf hl
   exact ⟨cc, e1, by rw [e2, h1 j y T' s hy hj hf hl]⟩
 by_cases hn : ∀ T, o.op ≠ .alloc T
 ·by_cases hf : ∀ T t x, ¬ kN ts o T t x
  ·
   have h1 := StJ.step (Q := Q) c ht G1 listed a w i hS (pG hi)
   rw [jB hn hf] at hbehind
   refine wpOp_mono (fun a' w' h => ?_) (qL v ho hlt hn hf h1)
   obtain ⟨h2, h3⟩ := h
   refine ⟨G1, ⟨p1, p2, p3, p4, p5, pb, ?_, ?_⟩, h2⟩
   ·intro j k y y' T T' hy hy' hj hk hop hop' hl hl'
    rw [hset] at hl hl'
    have nj : j ≠ i := fun e => by subst e; rw [ho] at hy; simp only [sJ] at hy; subst hy; exact hn T hop
    have nk : k ≠ i := fun e => by subst e; rw [ho] at hy'; simp only [sJ] at hy'; subst hy'; exact hn T' hop'
    rw [iN nj] at hl
    rw [iN nk] at hl'
    exact p6 j k y y' T T' hy hy' hj hk hop hop' hl hl'
   ·intro j y T t hy hj hop hd hl
    rw [hset] at hl
    have nj : j ≠ i := fun e => by subst e; rw [ho] at hy; simp only [sJ] at hy; subst hy; exact hn T hop
    rw [iN nj] at hl
    obtain ⟨q1, q2, x, q3, q4⟩ := p7 j y T t hy hj hop hd hl
    obtain ⟨_, t', g1, _, _, g4⟩ := v.al j y T hy hj hop
    rw [hd] at g1
    simp only [sJ] at g1
    subst g1
    exact ⟨(h3 t (g4 i o ho (fun e => nj e.symm))).trans q1, q2, x, q3, keepH a' T t x (fun k z T' s hz' hk hfz hlz => h3 s (hbehind k z T' t s hz' hk hfz hlz)) (fun q T' => hf T' t q) q4⟩
  ·
   obtain ⟨T, t, q, hf⟩ : ∃ T t q, kN ts o T t q := Classical.byContradiction fun h => hf fun T t q e => h ⟨T, t, q, e⟩
   obtain ⟨hg, hd, s, rfl, hs1, hs2, hs3, ⟨i0, y0, hy0, hi0i, hd0, hop0, hbit⟩, huniq⟩ := v.fl i o T t q ho hlt hf
   rw [ml hf] at hvi hr'
   have hv0 := hQ ts l i0 y0 hy0
   have hl0 : listed.getD i0 false = true := by
    rw [c.done hcl hvi hi0 hr' hv0 (.inl (by simp only [il, Bool.or_eq_true]; exact .inl (.inr hbit)))]; simpa using hi0i
   obtain ⟨q1, q2, x, q3, q4, _⟩ := p7 i0 y0 T t hy0 (by omega) hop0 hd0 hl0
   obtain ⟨inf, u, e1, e2, rfl⟩ := q4 (fun j y T' x' hy hj hfy => by
    by_cases e : j = i
    ·subst e; exact hi0
    ·exact (huniq j y T' x' hy e hj hfy.1).elim)
   obtain ⟨⟨z, hzT⟩, _⟩ := hz i0 y0 T hy0 (by omega) hop0
   obtain ⟨hsz', _, G, p, hG, hp, hloud, hinv, hdef, htm, hna, hslot⟩ := hS
   obtain ⟨inf', u', e1', e2', e3, e4, _, _⟩ := fg G hzT
   rw [e1] at e1'; simp only [sJ] at e1'; subst e1'
   rw [e2] at e2'; simp only [sJ] at e2'; subst e2'
   have hFG : G.F = G1.F := hG.le.F
   have fo := hfl i o T t s ho hlt hf
   obtain ⟨htl, _⟩ := ht.at
   have hsl : (cx E (gE ts l) tr (gE ts l).length).get s = dE s (gE ts l) tr (fun j => listed.getD j false) (E.get s) := by
    rw [j9 s (gE ts l) tr E _ (fun j o x hj hd => c.dst j o hj x hd) htl]
    apply dU
    intro j y hy hyd
    have hjl := (List.getElem?_eq_some_iff.1 hy).1
    obtain ⟨y1, hy1, _⟩ := lG hy
    have hji := hs3 j y1 hy1 (mV v hy1 hy hyd).1
    have := c.done hcl hvi hi0 hr' hy (.inr (c.hit j i _ _ hy hvi (by simp [oE, hyd, Oper.looksAt, mT, Op.operands])))
    rw [this]; simp; omega
   have hrep := hslot s hs2 (by rw [← hsl]; exact fo.cond)
   rw [← hsl] at hrep
   have hcells := iy hrep (by rw [fo.len]; exact fo.pos)
   have hlen : (a.tmps.getD s undef).cells.size = P.cellsOf T := by have := hcells.length; rw [fo.len] at this; simpa using this.symm
   have hheap : w.heap[pb i0]? = some (.cells u.cells T) := hinv.hF _ _ (by rw [hFG]; exact q3)
   have hst := jN (P := P) (w := w) fo.known (pb i0) 0 T (0, 0) u.cells hheap (.inl rfl) (a.tmps.getD s undef) hlen (by omega) (ky hcells)
   have hrow : ((u.cells.toList.take 0 ++ (a.tmps.getD s undef).cells.toList ++ u.cells.toList.drop (0 + (a.tmps.getD s undef).cells.toList.length)).toArray) = (a.tmps.getD s undef).cells := by
    have : u.cells.toList.drop (0 + (a.tmps.getD s undef).cells.toList.length) = [] := by
     apply List.drop_eq_nil_of_le
     rw [Array.length_toList, Array.length_toList]; omega
    rw [this]; simp
   rw [hrow] at hst
   have hev : a.eval (.tmp t) = .pointer (some ⟨pb i0, 0, none⟩) := q1
   have hev2 : a.eval (.tmp s) = a.tmps.getD s undef := rfl
   have hrun : (execOp a.eval o).run P w = .ok .skip (w.setRow (pb i0) (a.tmps.getD s undef).cells) := by
    simp only [execOp, hf.1, hev, hev2, Sem.run_bind, hst, Result.andThen_ok, Sem.run_pure]
   unfold wpOp
   simp only [List.getElem?_toArray, ho]
   rw [iP (by unfold Region.wanted; rw [hg])]
   left
   unfold Oper.wp
   rw [hrun]
   show StB P ts l tr E σ G0 (listed.setIfInBounds i true) (a.put o.dst undef) _
   rw [hd]
   show StB P ts l tr E σ G0 (listed.setIfInBounds i true) a _
   have hneal : ∀ (j : Nat) (y : Oper) (T' : TypeId), l[j]? = some y → y.op = .alloc T' → j ≠ i := fun j y T' hy hop e => by
    subst e; rw [ho] at hy; simp only [sJ] at hy; subst hy; exact hn T' hop
   refine ⟨{ G1 with F := fun b => if b = pb i0 then some (.cells (a.tmps.getD s undef).cells T) else G1.F b }, ⟨p1, p2, p3, p4, ?_, pb, ?_, ?_⟩, ?_⟩
   ·intro b y hb
    simp only
    rw [iN (fun e => by rw [e, q2] at hb; cases hb)]
    exact p5 b y hb
   ·intro j k y y' T1 T2 hy hy' hj hk hop1 hop2 hl hl' he
    rw [hset, iN (hneal j y T1 hy hop1)] at hl
    rw [hset, iN (hneal k y' T2 hy' hop2)] at hl'
    exact p6 j k y y' T1 T2 hy hy' hj hk hop1 hop2 hl hl' he
   ·intro j y T' t' hy hj hop' hd' hl
    rw [hset, iN (hneal j y T' hy hop')] at hl
    by_cases ej : j = i0
    ·subst ej
     rw [hy0] at hy
     simp only [sJ] at hy
     subst hy
     rw [hd0] at hd'
     simp only [sJ] at hd'
     subst hd'
     rw [hop0] at hop'
     simp only [Op.alloc.injEq] at hop'
     subst hop'
     refine ⟨q1, q2, .cells (a.tmps.getD s undef).cells T, by simp, fun h => ?_, fun k z T' s' hz' hk hfz hlz => ?_⟩
     ·have := h i o T _ ho hlt hf
      rw [hset, iP rfl] at this; cases this
     ·by_cases ek : k = i
      ·subst ek
       rw [ho] at hz'
       simp only [sJ] at hz'
       subst hz'
       have := hf.1.symm.trans hfz.1
       simp only [Op.store.injEq, Operand.tmp.injEq, true_and] at this
       obtain ⟨_, rfl⟩ := this
       exact ⟨_, rfl, rfl⟩
      ·exact (huniq k z T' _ hz' ek hk hfz.1).elim
    ·obtain ⟨r1, r2, x', r3, r4⟩ := p7 j y T' t' hy hj hop' hd' hl
     have hpb : pb j ≠ pb i0 := fun e => ej (p6 j i0 y y0 T' T hy hy0 hj (by omega) hop' hop0 hl hl0 e)
     have htt : t' ≠ t := by
      intro e
      subst e
      obtain ⟨_, t2, g1, _, _, g4⟩ := v.al j y T' hy hj hop'
      rw [hd'] at g1
      simp only [sJ] at g1
      subst g1
      exact g4 i0 y0 hy0 (fun e => ej e.symm) hd0
     refine ⟨r1, r2, x', by simp only; rw [iN hpb]; exact r3, keepH a T' t' x' (fun _ _ _ _ _ _ _ _ => rfl) (fun q T2 hq => ?_) r4⟩
     have := hf.1.symm.trans hq.1
     simp only [Op.store.injEq, Operand.tmp.injEq] at this
     exact htt this.2.1.symm
   ·refine ⟨by simpa using hsz', ?_, { G with F := fun b => if b = pb i0 then some (.cells (a.tmps.getD s undef).cells T) else G.F b }, p, ⟨⟨hG.le.H, ?_, hG.le.w0, hG.le.na⟩, hG.own⟩, hp, ?_, hinv.refill _ (by rw [hFG]; exact q3), hdef, htm, hna, ?_⟩
    ·intro k ok hk hdn j hj
     simp only at hdn ⊢
     rw [hset] at hdn ⊢
     by_cases e : k = i
     ·subst e; rw [hvi] at hk; simp only [sJ] at hk; subst hk
      by_cases e' : j = k
      ·rw [iP e']
      ·rw [iN e']; exact hr' j hj
     ·rw [iN e] at hdn
      by_cases e' : j = i
      ·rw [iP e']
      ·rw [iN e']; exact hcl k ok hk hdn j hj
    ·funext b; simp only [hFG]
    ·intro j y hy hly
     rw [hset]
     by_cases e : j = i
     ·subst e; rw [hvi] at hy; simp only [sJ] at hy; subst hy; simp [eO, mT] at hly
     ·rw [iN e]; exact hloud j y hy hly
    ·intro t' ht' hc
     have hfun : (fun k => (listed.setIfInBounds i true).getD k false) = (fun k => if k = i then true else listed.getD k false) := by
      funext k; exact hset k
     rw [hfun] at hc ⊢
     rw [iW t' (gE ts l) tr _ _ i _ hvi (by simp [mT])] at hc ⊢
     exact aS.mono (G := G) (G' := { G with F := fun b => if b = pb i0 then some (.cells (a.tmps.getD s undef).cells T) else G.F b }) (fun _ _ h => h) (bt.refl _) (hslot t' ht' hc)
 ·
  obtain ⟨T, hop⟩ : ∃ T, o.op = .alloc T := Classical.byContradiction fun h => hn fun T e => h ⟨T, e⟩
  obtain ⟨hg, t, hd, ht512, hts, huniq⟩ := v.al i o T ho hlt hop
  obtain ⟨⟨z, hzT⟩, hdok⟩ := hz i o T ho hlt hop
  obtain ⟨hsz', _, G, p, hG, hp, hloud, hinv, hdef, htm, hna, hslot⟩ := hS
  obtain ⟨inf, u, e1, e2, e3, e4, _, e5⟩ := fg G hzT
  have hFG : G.F = G1.F := hG.le.F
  rw [qc hop] at hvi hr'
  have hrun : (execOp a.eval o).run P w = .ok (.value (.pointer (some ⟨w.heap.size, 0, none⟩))) (w.alloc (.cells u.cells T)) := by
   simp [execOp, hop, Instr.alloc, d6 e1 e2, newVar, newRow]
  have notf : ∀ (q : Operand) (T' : TypeId) (t' : Nat), ¬ kN ts o T' t' q := fun q T' t' h => by have := hop.symm.trans h.1; cases this
  unfold wpOp
  simp only [List.getElem?_toArray, ho]
  rw [iP (by unfold Region.wanted; rw [hg])]
  left
  unfold Oper.wp
  rw [hrun]
  show StB P ts l tr E σ G0 (listed.setIfInBounds i true) (a.put o.dst _) _
  rw [hd]
  have hfree : ∀ j y, l[j]? = some y → j + 1 < l.length → (∃ T, y.op = .alloc T) → listed.getD j false = true → pb j ≠ w.heap.size := by
   intro j y hy hj ⟨T', hop'⟩ hl e
   obtain ⟨_, t', g1, _⟩ := v.al j y T' hy hj hop'
   obtain ⟨_, _, _, q, _⟩ := p7 j y T' t' hy hj hop' g1 hl
   rw [← hFG] at q
   have := cm (hinv.hF _ _ q)
   omega
  have hput : ∀ t', t' ≠ t → (a.put (some t) (.pointer (some ⟨w.heap.size, 0, none⟩))).tmps.getD t' undef = a.tmps.getD t' undef := by
   intro t' hne
   simp only [Act.put, Array.getD_eq_getD_getElem?]
   rw [Array.getElem?_setIfInBounds_ne (Ne.symm hne)]
  refine ⟨{ G1 with F := fun b => if b = w.heap.size then some (.cells u.cells T) else G1.F b }, ⟨p1, p2, p3, p4, ?_, fun j => if j = i then w.heap.size else pb j, ?_, ?_⟩, ?_⟩
  ·intro b x hb
   have h1 := p5 b x hb
   simp only
   rw [iN]
   ·exact h1
   ·intro e
    rw [← hFG] at h1
    have := cm (hinv.hF _ _ h1)
    omega
  ·intro j k y y' T1 T2 hy hy' hj hk hop1 hop2 hl hl' he
   rw [hset] at hl hl'
   simp only at he
   by_cases nj : j = i <;> by_cases nk : k = i
   ·omega
   ·rw [iP nj, iN nk] at he; rw [iN nk] at hl'
    exact (hfree k y' hy' hk ⟨T2, hop2⟩ hl' he.symm).elim
   ·rw [iN nj, iP nk] at he; rw [iN nj] at hl
    exact (hfree j y hy hj ⟨T1, hop1⟩ hl he).elim
   ·rw [iN nj, iN nk] at he; rw [iN nj] at hl; rw [iN nk] at hl'
    exact p6 j k y y' T1 T2 hy hy' hj hk hop1 hop2 hl hl' he
  ·intro j y T' t' hy hj hop' hd' hl
   rw [hset] at hl
   by_cases nj : j = i
   ·subst nj
    rw [ho] at hy
    simp only [sJ] at hy
    subst hy
    rw [hd] at hd'
    simp only [sJ] at hd'
    subst hd'
    rw [hop] at hop'
    simp only [Op.alloc.injEq] at hop'
    subst hop'
    simp only [if_true]
    refine ⟨?_, ?_, _, rfl, fun _ => ⟨inf, u, e1, e2, rfl⟩, fun k z T' s' hz' hk hfz hlz => ?_⟩
    ·have : t < a.tmps.size := by
      rw [htm]
      rw [hd] at hdok
      exact hdok
     simp [Act.put, Array.getD, this]
    ·cases hx : G0.F w.heap.size with
     | none => rfl
     | some x =>
      have h1 := p5 _ _ hx
      rw [← hFG] at h1
      have := cm (hinv.hF _ _ h1)
      omega
    ·exfalso
     rw [hset] at hlz
     have nk : k ≠ j := fun e => by subst e; rw [ho] at hz'; simp only [sJ] at hz'; subst hz'; exact notf _ _ _ hfz
     rw [iN nk] at hlz
     obtain ⟨_, _, _, _, _, _, _, ⟨i1, y1, hy1, _, hd1, _, hbit⟩, _⟩ := v.fl k z T' t _ hz' hk hfz
     have e : i1 = j := Classical.byContradiction fun e => huniq i1 y1 hy1 e hd1
     subst e
     have := (c.bit hcl k _ (hQ ts l k z hz') i1 hbit).2 hlz
     rw [hi0] at this; cases this
   ·rw [iN nj] at hl
    obtain ⟨q1, q2, x, q3, q4⟩ := p7 j y T' t' hy hj hop' hd' hl
    simp only [iN nj]
    have hne : t' ≠ t := fun e => huniq j y hy nj (by rw [hd', e])
    refine ⟨(hput t' hne).trans q1, q2, x, ?_, keepH _ T' t' x (fun k z T2 s hz' hk hfz hlz => hput s (fun e => ?_)) (fun q T2 => notf q T2 t') q4⟩
    ·rw [iN (hfree j y hy hj ⟨T', hop'⟩ hl)]
     exact q3
    ·obtain ⟨_, _, s', e', hs', _⟩ := v.fl k z T2 t' _ hz' hk hfz
     simp only [Operand.tmp.injEq] at e'
     subst e'
     rw [e, hts] at hs'; cases hs'
  ·refine ⟨by simpa using hsz', ?_, { G with F := fun b => if b = w.heap.size then some (.cells u.cells T) else G.F b }, p, ⟨⟨hG.le.H, ?_, hG.le.w0, hG.le.na⟩, hG.own⟩, hp, ?_, hinv.aside _, hdef, by simpa [Act.put] using htm, hna, ?_⟩
   ·intro k ok hk hdn j hj
    simp only at hdn ⊢
    rw [hset] at hdn ⊢
    by_cases e : k = i
    ·subst e; rw [hvi] at hk; simp only [sJ] at hk; subst hk
     by_cases e' : j = k
     ·rw [iP e']
     ·rw [iN e']; exact hr' j hj
    ·rw [iN e] at hdn
     by_cases e' : j = i
     ·rw [iP e']
     ·rw [iN e']; exact hcl k ok hk hdn j hj
   ·funext b; simp only [hFG]
   ·intro j y hy hly
    rw [hset]
    by_cases e : j = i
    ·subst e; rw [hvi] at hy; simp only [sJ] at hy; subst hy; simp [eO, iK] at hly
    ·rw [iN e]; exact hloud j y hy hly
   ·intro t' ht' hc
    have hfun : (fun k => (listed.setIfInBounds i true).getD k false) = (fun k => if k = i then true else listed.getD k false) := by
     funext k; exact hset k
    rw [hfun] at hc ⊢
    rw [iW t' (gE ts l) tr _ _ i _ hvi (by simp [iK])] at hc ⊢
    by_cases e : t' = t
    ·subst e
     have hk : dE t' (gE ts l) tr (fun k => listed.getD k false) (E.get t') = E.get t' := by
      have hno : ∀ (j : Nat) (y : Oper), (gE ts l)[j]? = some y → y.dst = some t' → False := by
       intro j y hy hyd
       obtain ⟨y0, g1, _⟩ := lG hy
       have := (mV v g1 hy hyd).2
       rw [hts] at this; cases this
      rw [dU t' (gE ts l) tr _ (fun _ => false) _ (fun j y hy hyd => (hno j y hy hyd).elim)]
      exact gX t' (gE ts l) tr _ _ fun _ _ _ _ => rfl
     rw [hk, hE t' hts] at hc
     cases hc
    ·rw [hput t' e]
     exact aS.mono (G := G) (G' := { G with F := fun b => if b = w.heap.size then some (.cells u.cells T) else G.F b }) (fun _ _ h => h) (bt.refl _) (hslot t' ht' hc)
theorem n9.put {E : Env} {t s : Nat} {e : Ent} {T : TypeId} (ht : t < 512) (hst : s ≠ t) (h : n9 P (E.putD (some t) e) T s) : n9 P E T s := by
 have g : (E.putD (some t) e).get s = E.get s := by
  show (E.put t e).get s = _
  rw [Env.get_put' E t s _ ht, iN hst]
 exact ⟨g ▸ h.cond, h.known, h.pos, g ▸ h.len⟩
end
def rB (P : Program) (ops : Array Oper) (pv : List Nat) (E : Env) (σ : List OB) (o : Oper) (bar prv : Bool) (rd : List Nat) (ts : TS) : Prop :=
  cX ops E o.guard = some ts.γ ∧ cR E o.dst ∧
  ((∃ C v, bx P ts.γ E σ o.op = .ok C v ∧ C ∧ (rd.all fun t => pQ pv (E.get t).v) = true ∧ ts.e = ⟨ts.γ, v⟩ ∧ ts.σ = σ) ∨
   (ts.γ = true ∧ ∃ C v, bx P ts.γ E σ o.op = .upd C v ts.σ ∧ C ∧ ts.e = ⟨true, v⟩ ∧ (bar = true ∨ Ext σ ts.σ ∨ (prv = true ∧ f8 pv σ ts.σ))) ∨
   (∃ C f args r, bx P ts.γ E σ o.op = .call C f args ∧ (ts.γ = true → C ∧ cZ P f args r) ∧ args.all PV.noOwn = true ∧ (∀ n, r.ren (cQ n []) = r) ∧ ts.e = ⟨ts.γ, r⟩ ∧ ts.σ = σ) ∨
   (ts.γ = false ∧ ts.e = ⟨true, .t []⟩ ∧ ts.σ = σ) ∨
   (ts.γ = true ∧ ∃ C f args p, bx P ts.γ E σ o.op = .call C f args ∧ C ∧ ju P σ f args p ts.σ ∧ ts.e = ⟨true, p⟩ ∧ (bar = true ∨ Ext σ ts.σ ∨ (prv = true ∧ f8 pv σ ts.σ))) ∨
   (ts.γ = true ∧ eO o = true ∧ ∃ v, (∀ E', (∀ x ∈ o.op.operands, ev E' x = ev E x) → ∀ G a w, Sim G E' σ a w → nV P G (execOp a.eval o) w v ts.σ) ∧ ts.e = ⟨true, v⟩ ∧ (bar = true ∨ Ext σ ts.σ ∨ (prv = true ∧ f8 pv σ ts.σ))))
def pD (P : Program) (ops : Array Oper) (pv : List Nat) : List Oper → List Bool → List Bool → List (List Nat) → Env → List OB → List TS → Prop
  | [], _, _, _, _, _, tr => tr = []
  | o :: l, bs, ps, rd, E, σ, tr => ∃ ts r, tr = ts :: r ∧ rB P ops pv E σ o (bs.headD false) (ps.headD false) (rd.headD []) ts ∧ pD P ops pv l bs.tail ps.tail rd.tail (E.putD o.dst ts.e) ts.σ r
section
variable {P : Program} {ops : Array Oper} {pv : List Nat}
def TRP (P : Program) (ops : Array Oper) (pv : List Nat) (l : List Oper) (bs ps : List Bool) (rd : List (List Nat)) (E : Env) (σ : List OB) (k : Env → List OB → Prop) : Prop :=
  ∃ tr, pD P ops pv l bs ps rd E σ tr ∧ k (cx E l tr l.length) (aK σ tr l.length)
def oJ (pv : List Nat) : Nat → List OB → List OB → Prop
  | _, [], _ => True
  | i, a :: as_, b :: bs => (pv.contains i = true ∨ a = b) ∧ oJ pv (i + 1) as_ bs
  | _, _ :: _, [] => False
theorem oK : ∀ {i : Nat} {σ σ' : List OB}, oJ pv i σ σ' → σ.length ≤ σ'.length ∧ ∀ b, b + i ∉ pv → b < σ.length → σ'[b]? = σ[b]?
  | _, [], _, _ => ⟨by simp, fun b _ h => by simp at h⟩
  | i, a :: as_, b :: bs, ⟨h1, h2⟩ => by
    obtain ⟨k1, k2⟩ := oK h2
    refine ⟨by simpa using k1, fun c hc hl => ?_⟩
    cases c with
    | zero =>
      rcases h1 with h | h
      · simp at hc; simp at h; exact (hc h).elim
      · simp [h]
    | succ c => simpa using k2 c (by simpa [Nat.add_assoc, Nat.add_comm 1] using hc) (by simpa using hl)
def mR (P : Program) (ops : Array Oper) (pv : List Nat) (γ : Bool) (C : Prop) (f : FuncId) (args : List PV) (o : Oper) (r : List Oper) (bs ps : List Bool) (rd : List (List Nat)) (E : Env) (σ : List OB) (k : Env → List OB → Prop) : Prop :=
  bx P γ E σ o.op = .call C f args → cX ops E o.guard = some γ → TRP P ops pv (o :: r) bs ps rd E σ k
def lD (P : Program) (ops : Array Oper) (pv : List Nat) (γ : Bool) (o : Oper) (r : List Oper) (bs ps : List Bool) (rd : List (List Nat)) (E : Env) (σ : List OB) (k : Env → List OB → Prop) (run : Env → List OB → Prop) : R → Prop
  | .ok C v => cR E o.dst ∧ C ∧ ((rd.headD []).all fun t => pQ pv (E.get t).v) = true ∧ run (E.putD o.dst ⟨γ, v⟩) σ
  | .upd C v σ' => cR E o.dst ∧ γ = true ∧ C ∧ (bs.headD false = true ∨ kH σ σ' ∨ (ps.headD false = true ∧ oJ pv 0 σ σ')) ∧ run (E.putD o.dst ⟨true, v⟩) σ'
  | .call C f args => mR P ops pv γ C f args o r bs ps rd E σ k
  | .bad => False
def gL (P : Program) (ops : Array Oper) (pv : List Nat) : List Oper → List Bool → List Bool → List (List Nat) → Env → List OB → (Env → List OB → Prop) → Prop
  | [], _, _, _, E, σ, k => k E σ
  | o :: r, bs, ps, rd, E, σ, k =>
    match cX ops E o.guard with
    | none => False
    | some false => cR E o.dst ∧ gL P ops pv r bs.tail ps.tail rd.tail (E.putD o.dst ⟨true, .t []⟩) σ k
    | some true => lD P ops pv true o r bs ps rd E σ k (fun E' σ' => gL P ops pv r bs.tail ps.tail rd.tail E' σ' k) (bx P true E σ o.op)
theorem TRP.cons {o : Oper} {r : List Oper} {bs ps : List Bool} {rd : List (List Nat)} {E : Env} {σ : List OB} {k : Env → List OB → Prop} {ts : TS} (h : rB P ops pv E σ o (bs.headD false) (ps.headD false) (rd.headD []) ts) (ht : TRP P ops pv r bs.tail ps.tail rd.tail (E.putD o.dst ts.e) ts.σ k) : TRP P ops pv (o :: r) bs ps rd E σ k := by
  obtain ⟨tr, h1, h2⟩ := ht
  refine ⟨ts :: tr, ⟨ts, tr, rfl, h, h1⟩, ?_⟩
  simpa [cx, aK] using h2
theorem iI : ∀ (l : List Oper) (bs ps : List Bool) (rd : List (List Nat)) (E : Env) (σ : List OB) (k : Env → List OB → Prop), gL P ops pv l bs ps rd E σ k → TRP P ops pv l bs ps rd E σ k
  | [], bs, ps, rd, E, σ, k, h => ⟨[], rfl, by unfold gL at h; simpa [cx, aK] using h⟩
  | o :: r, bs, ps, rd, E, σ, k, h => by
    unfold gL at h
    split at h
    · exact h.elim
    · rename_i hγ
      exact TRP.cons (ts := ⟨false, ⟨true, .t []⟩, σ⟩) ⟨hγ, h.1, .inr (.inr (.inr (.inl ⟨rfl, rfl, rfl⟩)))⟩ (iI r _ _ _ _ _ _ h.2)
    · rename_i hγ
      unfold lD at h
      split at h
      · rename_i C v hrun
        obtain ⟨hd, hC, hrd, hr⟩ := h
        exact TRP.cons (ts := ⟨true, ⟨true, v⟩, σ⟩) ⟨hγ, hd, .inl ⟨C, v, hrun, hC, hrd, rfl, rfl⟩⟩ (iI r _ _ _ _ _ _ hr)
      · rename_i C v σ' hrun
        obtain ⟨hd, hg, hC, hb, hr⟩ := h
        refine TRP.cons (ts := ⟨true, ⟨true, v⟩, σ'⟩) ⟨hγ, hd, .inr (.inl ⟨rfl, C, v, hrun, hC, rfl, ?_⟩)⟩ (iI r _ _ _ _ _ _ hr)
        rcases hb with h | h | ⟨h, h'⟩
        · exact .inl h
        · exact .inr (.inl (lf h))
        · exact .inr (.inr ⟨h, by have := oK h'; exact ⟨this.1, fun b hb hl => this.2 b hb hl⟩⟩)
      · rename_i C f args hrun
        exact h hrun hγ
      · exact h.elim
theorem oL {C : Prop} {f : FuncId} {args : List PV} {o : Oper} {r : List Oper} {bs ps : List Bool} {rd : List (List Nat)} {E : Env} {σ σ2 : List OB} {k : Env → List OB → Prop} {res : PV}
    (hs : ju P σ f args res σ2) (hd : cR E o.dst) (hC : C) (hb : bs.headD false = true ∨ kH σ σ2)
    (next : gL P ops pv r bs.tail ps.tail rd.tail (E.putD o.dst ⟨true, res⟩) σ2 k) : mR P ops pv true C f args o r bs ps rd E σ k := fun hrun hγ =>
  TRP.cons (ts := ⟨true, ⟨true, res⟩, σ2⟩) ⟨hγ, hd, .inr (.inr (.inr (.inr (.inl ⟨rfl, C, f, args, res, hrun, hC, hs, rfl, hb.imp id fun h => .inl (lf h)⟩))))⟩ (iI r _ _ _ _ _ _ next)
end
def bAP := And.intro (And.intro (And.intro @gL.eq_1 @gL.eq_2) bL) (And.intro bM (And.intro (And.intro @lD.eq_1 @lD.eq_2) (And.intro @lD.eq_3 @lD.eq_4)))
section
variable {P : Program} {ops : Array Oper}
theorem i9 {l : List Oper} {bs : List Bool} {E : Env} {σ : List OB} {k : Env → List OB → Prop} (h : eT P ops l bs E σ k) : TR P ops l bs E σ k := fh l bs E σ k h
theorem pY : ∀ {l l' : List Oper} {bs bs' : List Bool} {E : Env} {σ : List OB} {k : Env → List OB → Prop}, bs.length = l.length → TR P ops l bs E σ (fun E' σ' => TR P ops l' bs' E' σ' k) → TR P ops (l ++ l') (bs ++ bs') E σ k
 | [], l', bs, bs', E, σ, k, hl, ⟨tr, h1, h2⟩ => by
  have : bs = [] := List.eq_nil_of_length_eq_zero (by simpa using hl)
  subst this
  simp only [jG] at h1
  subst h1
  simpa [cx, aK] using h2
 | o :: l, l', bs, bs', E, σ, k, hl, ⟨tr, h1, h2⟩ => by
  obtain ⟨ts, r, rfl, h3, h4⟩ := h1
  match bs, hl with
  | b :: bs, hl =>
   refine TR.cons (bs := b :: bs ++ bs') (ts := ts) ?_ ?_
   ·simpa using h3
   ·exact pY (by simpa using hl) ⟨r, h4, by simpa [cx, aK] using h2⟩
theorem pC (n : Nat) {l : List Oper} {bs : List Bool} {E : Env} {σ : List OB} {k : Env → List OB → Prop} (hn : bs.length = l.length) (h : eT P ops (l.take n) (bs.take n) E σ (fun E' σ' => TR P ops (l.drop n) (bs.drop n) E' σ' k)) : TR P ops l bs E σ k := by
 have := pY (by simp [hn]) (fh _ _ _ _ _ h)
 rwa [List.take_append_drop, List.take_append_drop] at this
theorem ni {γ : Bool} {C : Prop} {f : FuncId} {args : List PV} {o : Oper} {r : List Oper} {bs : List Bool} {E : Env} {σ : List OB} {k : Env → List OB → Prop} {res : PV}
  (hs : γ = true → cZ P f args res) (hd : cR E o.dst) (hC : γ = true → C) (hargs : args.all PV.noOwn = true) (hres : ∀ n, res.ren (cQ n []) = res)
  (next : TR P ops r bs.tail (E.putD o.dst ⟨γ, res⟩) σ k) : jy P ops γ C f args o r bs E σ k := fun hrun hγ =>
 TR.cons (ts := ⟨γ, ⟨γ, res⟩, σ⟩) ⟨hγ, hd, .inr (.inr (.inl ⟨C, f, args, res, hrun, fun h => ⟨hC h, hs h⟩, hargs, hres, rfl, rfl⟩))⟩ next
theorem lg {id : Nat} {l : List Oper} {y : Code} {K : Kt} {E : Env} {σ : List OB} (ms : List Nat) (hm : P.follows .mixedOrders = true) (masks : List Nat) (bs : List Bool) (hc : chk l.toArray l masks bs = true)
  (h : ∀ (k : Env → List OB → Prop), (∀ E σ, W P y K E σ → k E σ) → TR P l.toArray l bs E σ (fun E σ => k (E.forget ms) σ)) : W P (.seq (.region id l.toArray true) y) K E σ :=
 mH (pu hm masks bs hc (by
  obtain ⟨tr, h1, h2⟩ := h (W P y K) fun _ _ h => h
  exact ⟨tr, h1, jX ms h2⟩))
end
section
variable {P : Program} {ops : Array Oper}
variable {pv : List Nat}
end
section
variable {P : Program} {ops : Array Oper} {pv : List Nat}
theorem TRQ.cons {o : Oper} {r : List Oper} {bs ps : List Bool} {rd : List (List Nat)} {lt : List Bool} {E : Env} {σ : List OB} {k : Env → List OB → Prop} {ts : TS} (h : pn P ops pv E σ o (bs.headD false) (ps.headD false) (rd.headD []) (lt.headD false) ts) (ht : TRQ P ops pv r bs.tail ps.tail rd.tail lt.tail (E.putD o.dst ts.e) ts.σ k) : TRQ P ops pv (o :: r) bs ps rd lt E σ k := by
 obtain ⟨tr, h1, h2⟩ := ht
 refine ⟨ts :: tr, ⟨ts, tr, rfl, h, h1⟩, ?_⟩
 simpa [cx, aK] using h2
theorem rC : ∀ {l : List Oper} {bs ps : List Bool} {rd : List (List Nat)} {lt : List Bool} {E : Env} {σ : List OB} {k : Env → List OB → Prop}, lt.any id = false → TRP P ops pv l bs ps rd E σ k → TRQ P ops pv l bs ps rd lt E σ k
 | [], _, _, _, _, _, _, _, _, ⟨tr, h1, h2⟩ => by
  simp only [pD] at h1
  subst h1
  exact ⟨[], rfl, h2⟩
 | o :: l, bs, ps, rd, lt, E, σ, k, hl, ⟨tr, h1, h2⟩ => by
  obtain ⟨ts, r, rfl, h3, h4⟩ := h1
  have hh : lt.headD false = false ∧ lt.tail.any id = false := by
   cases lt with
   | nil => exact ⟨rfl, rfl⟩
   | cons a lt => simpa using hl
  exact TRQ.cons (ts := ts) ⟨h3.1, h3.2.1, .inl ⟨hh.1, h3.2.2⟩⟩ (rC hh.2 ⟨r, h4, by simpa [cx, aK] using h2⟩)
theorem lh {l : List Oper} {bs ps : List Bool} {rd : List (List Nat)} {lt : List Bool} {E : Env} {σ : List OB} {k : Env → List OB → Prop} (hl : lt.any id = false) (h : gL P ops pv l bs ps rd E σ k) : TRQ P ops pv l bs ps rd lt E σ k := rC hl (iI l bs ps rd E σ k h)
theorem oM : ∀ {l l' : List Oper} {bs bs' ps ps' lt lt' : List Bool} {rd rd' : List (List Nat)} {E : Env} {σ : List OB} {k : Env → List OB → Prop}, bs.length = l.length → ps.length = l.length → rd.length = l.length → lt.length = l.length →
  TRQ P ops pv l bs ps rd lt E σ (fun E' σ' => TRQ P ops pv l' bs' ps' rd' lt' E' σ' k) → TRQ P ops pv (l ++ l') (bs ++ bs') (ps ++ ps') (rd ++ rd') (lt ++ lt') E σ k
 | [], l', bs, bs', ps, ps', lt, lt', rd, rd', E, σ, k, hl, hl2, hl3, hl4, ⟨tr, h1, h2⟩ => by
  have e1 : bs = [] := List.eq_nil_of_length_eq_zero (by simpa using hl)
  have e2 : ps = [] := List.eq_nil_of_length_eq_zero (by simpa using hl2)
  have e3 : rd = [] := List.eq_nil_of_length_eq_zero (by simpa using hl3)
  have e4 : lt = [] := List.eq_nil_of_length_eq_zero (by simpa using hl4)
  subst e1; subst e2; subst e3; subst e4
  simp only [fq] at h1
  subst h1
  simpa [cx, aK] using h2
 | o :: l, l', bs, bs', ps, ps', lt, lt', rd, rd', E, σ, k, hl, hl2, hl3, hl4, ⟨tr, h1, h2⟩ => by
  obtain ⟨ts, r, rfl, h3, h4⟩ := h1
  match bs, hl, ps, hl2, rd, hl3, lt, hl4 with
  | b :: bs, hl, p :: ps, hl2, q :: rd, hl3, t :: lt, hl4 =>
   refine TRQ.cons (bs := b :: bs ++ bs') (ps := p :: ps ++ ps') (rd := q :: rd ++ rd') (lt := t :: lt ++ lt') (ts := ts) ?_ ?_
   ·simpa using h3
   ·exact oM (by simpa using hl) (by simpa using hl2) (by simpa using hl3) (by simpa using hl4) ⟨r, h4, by simpa [cx, aK] using h2⟩
theorem mh (n : Nat) {l : List Oper} {bs ps lt : List Bool} {rd : List (List Nat)} {E : Env} {σ : List OB} {k : Env → List OB → Prop} (hn : bs.length = l.length) (hn2 : ps.length = l.length) (hn3 : rd.length = l.length) (hn4 : lt.length = l.length) (hl : (lt.take n).any id = false)
  (h : gL P ops pv (l.take n) (bs.take n) (ps.take n) (rd.take n) E σ (fun E' σ' => TRQ P ops pv (l.drop n) (bs.drop n) (ps.drop n) (rd.drop n) (lt.drop n) E' σ' k)) : TRQ P ops pv l bs ps rd lt E σ k := by
 have := oM (by simp [hn]) (by simp [hn2]) (by simp [hn3]) (by simp [hn4]) (lh hl h)
 rwa [List.take_append_drop, List.take_append_drop, List.take_append_drop, List.take_append_drop, List.take_append_drop] at this
theorem mi {o : Oper} {l : List Oper} {bs ps lt : List Bool} {rd : List (List Nat)} {E : Env} {σ : List OB} {k : Env → List OB → Prop} {v : PV}
  (hx : ∀ E', (∀ x ∈ o.op.operands, ev E' x = ev E x) → ∀ σ', lY P E' σ' o v σ') (hg : cX ops E o.guard = some true) (hd : cR E o.dst)
  (next : TRQ P ops pv l bs.tail ps.tail rd.tail lt.tail (E.putD o.dst ⟨true, v⟩) σ k) : TRQ P ops pv (o :: l) bs ps rd lt E σ k :=
 TRQ.cons (ts := ⟨true, ⟨true, v⟩, σ⟩) ⟨hg, hd, .inr (.inl ⟨rfl, ⟨v, fun E' h σ' G a w hs => hx E' h σ' G a w hs, rfl⟩, rfl⟩)⟩ next
theorem f8.set {pv : List Nat} {σ : List OB} {b : Nat} {ob : OB} (h : pv.contains b = true) : f8 pv σ (σ.set b ob) :=
 ⟨by simp, fun c hc _ => by
  have : b ≠ c := fun e => by subst e; exact hc (by simpa using h)
  rw [List.getElem?_set_ne this]⟩
theorem mj {id : Nat} {l : List Oper} {K : Kt} {E : Env} {σ : List OB} (hm : P.follows .mixedOrders = true) (pv masks : List Nat) (bs ps : List Bool) (rd : List (List Nat)) (lt : List Bool) (hc : qA l.toArray l masks bs ps rd lt = true)
  (h : ∀ (k : Env → List OB → Prop), (∀ E σ, K .normal E σ → k E σ) → TRQ P l.toArray pv l bs ps rd lt E σ k) : W P (.region id l.toArray true) K E σ :=
 pR hm pv masks bs ps rd lt hc (h (K .normal) fun _ _ h => h)
end
section
variable {P : Program} {ops : Array Oper}
theorem cD.below {G : Gh} {c : CV} {v : Value} (h : cD G c v) : match c with | .optr b _ => b < G.own.length | .osl b _ _ _ => b < G.own.length | .oel b _ _ _ => b < G.own.length | _ => True := by
 cases c
 case optr b off => obtain ⟨_, oo, h1, _⟩ := h; exact (List.getElem?_eq_some_iff.1 h1).1
 case osl b ver lo len => obtain ⟨_, oo, h1, _⟩ := h; exact (List.getElem?_eq_some_iff.1 h1).1
 case oel b ver i j => obtain ⟨_, oo, h1, _⟩ := h; exact (List.getElem?_eq_some_iff.1 h1).1
 all_goals trivial
theorem Rep.below {G : Gh} {c : CV} {v : Value} (h : Rep G c v) : c.under G.own.length := by
 cases c
 case fn f caps =>
  obtain ⟨vs, _, h2⟩ := h
  intro c hc
  obtain ⟨i, hi⟩ := List.mem_iff_getElem?.1 hc
  obtain ⟨y, _, hr⟩ := h2.get i c hi
  have := hr.below
  cases c <;> exact this
 case optr b off => exact cD.below (G := G) (c := .optr b off) h
 case osl b ver lo len => exact cD.below (G := G) (c := .osl b ver lo len) h
 case oel b ver i j => exact cD.below (G := G) (c := .oel b ver i j) h
 all_goals trivial
theorem nE {G : Gh} : ∀ {cs : List CV} {vs : List Value}, aI (Rep G) cs vs → cS G.own.length cs
 | [], [], _ => trivial
 | _ :: _, _ :: _, h => ⟨h.1.below, nE h.2⟩
theorem Inv.below {G : Gh} {σ : List OB} {w : World} (h : Inv G σ w) : ce σ.length σ := by
 have key : ∀ ρ : List OB, (∀ ob ∈ ρ, ob ∈ σ) → ce σ.length ρ := by
  intro ρ
  induction ρ with
  | nil => intro _; trivial
  | cons ob ρ ih =>
   intro hm
   refine ⟨?_, ih fun x hx => hm x (by simp [hx])⟩
   obtain ⟨i, hi⟩ := List.mem_iff_getElem?.1 (hm ob (by simp))
   have := h.own i ob hi
   cases ob with
   | dead => trivial
   | arr s ver T es => trivial
   | box cs =>
    obtain ⟨o, c, T, _, _, _, _, h5⟩ := this
    have := nE h5
    rw [h.len] at this
    exact this
 exact key σ fun _ h => h
end
section
variable {P : Program} {ops : Array Oper} {pv : List Nat} {E E' : Env} {σ σ' σ2 : List OB} {k : Env → List OB → Prop} {kp : PV → Env → List OB → Prop}
theorem kr {rs : List ResultVar} {n : Nat} {post pp : PV → List OB → Prop} (N : Nat)
  (h : match fC P E σ rs with | some (C, ps) => C ∧ ps.all PV.isV = true ∧ (jh (σ.take N) σ ∧ n ≤ (σ.take N).length ∧ ce (σ.take N).length (σ.take N) ∧ (fp ps).underP (σ.take N).length ∧ post (fp ps) (σ.take N)) | none => False := by
   simp only [List.take_succ_cons, List.take_zero, List.take_nil, bF, bT, tab, bX, Sum.elim_inl, Sum.elim_inr, reduceIte, ↓reduceIte, reduceCtorEq, Int.reduceToNat, Nat.reduceDiv, Nat.reduceMod, Nat.reduceLT, Nat.reduceLeDiff, Nat.reduceAdd, Nat.reduceSub, Nat.reduceMul, Nat.reduceEqDiff, Nat.reduceBEq, Nat.reduceBNe, Nat.reduceGT] <;> first | done | rfl | (and_intros <;> first | rfl | omega | (simp; done) | (simp [eK, eB, eS, eL]; done) | (simp [lit, bX, eK, eB, eS, eL]; done) | (simp [CV.under, cS]; done))) : jS P rs (qD n post) pp .ret E σ := gY (σ.take N) h
theorem kn {rs : List ResultVar} {n : Nat} {post pp : PV → List OB → Prop} (N : Nat)
  (h : match fC P E σ rs with | some (C, ps) => C ∧ ps.all PV.isV = true ∧ (jh (σ.take N) σ ∧ n ≤ (σ.take N).length ∧ ce (σ.take N).length (σ.take N) ∧ (fp ps).underP (σ.take N).length ∧ post (fp ps) (σ.take N)) | none => False := by
   simp only [List.take_succ_cons, List.take_zero, List.take_nil, bF, bT, tab, bX, Sum.elim_inl, Sum.elim_inr, reduceIte, ↓reduceIte, reduceCtorEq, Int.reduceToNat, Nat.reduceDiv, Nat.reduceMod, Nat.reduceLT, Nat.reduceLeDiff, Nat.reduceAdd, Nat.reduceSub, Nat.reduceMul, Nat.reduceEqDiff, Nat.reduceBEq, Nat.reduceBNe, Nat.reduceGT] <;> first | done | rfl | (and_intros <;> first | rfl | omega | (simp; done) | (simp [eK, eB, eS, eL]; done) | (simp [lit, bX, eK, eB, eS, eL]; done) | (simp [CV.under, cS]; done))) : jS P rs (qD n post) pp .normal E σ := iz (σ.take N) h
theorem sp {p q : Prop} (hq : q) (hp : p := by first | omega | assumption | decide | exact ka fun _ => rfl | (intro _; omega) | rfl | exact fun e => absurd (List.map_eq_nil_iff.1 e) (by assumption) | (and_intros <;> first | omega | assumption | decide | exact ka fun _ => rfl) | (refine .inl ?_; simp only [kH]; and_intros <;> first | rfl | trivial) | (refine .inr (.inl ?_); simp only [kH]; and_intros <;> first | rfl | trivial) | (refine .inr ?_; simp only [oJ]; and_intros <;> first | exact .inl rfl | exact .inr rfl | trivial) | (refine .inr (.inr ⟨rfl, ?_⟩); simp only [oJ]; and_intros <;> first | exact .inl rfl | exact .inr rfl | trivial) | exact .inl rfl) : p ∧ q := ⟨hp, hq⟩
theorem gp {p q : Prop} (hq : q) (h : Bx q → p := by
  intro hq
  simp only [bAP, bT, tab, bX, reduceIte, ↓reduceIte, reduceCtorEq, Int.reduceToNat, Nat.reduceDiv, Nat.reduceMod, Nat.reduceLT, Nat.reduceLeDiff, Nat.reduceAdd, Nat.reduceSub, Nat.reduceMul, Nat.reduceEqDiff, Nat.reduceBEq, Nat.reduceBNe, Nat.reduceGT, List.replicate, List.foldr]
  repeat refine sp ?_
  exact hq.1) : p := h ⟨hq⟩
theorem gpx {p q F : Prop} (fx : F) (hq : q) (h : F → Bx q → p := by
  intro fx hq
  simp only [bAP, bT, tab, bX, reduceIte, ↓reduceIte, reduceCtorEq, Int.reduceToNat, Nat.reduceDiv, Nat.reduceMod, Nat.reduceLT, Nat.reduceLeDiff, Nat.reduceAdd, Nat.reduceSub, Nat.reduceMul, Nat.reduceEqDiff, Nat.reduceBEq, Nat.reduceBNe, Nat.reduceGT, List.replicate, List.foldr, fx]
  repeat refine sp ?_
  exact hq.1) : p := h fx ⟨hq⟩
theorem gt {p q : Prop} (hq : q) (h : Bx q → p := by
  intro hq
  simp only [bR, bT, tab, bX, reduceIte, ↓reduceIte, reduceCtorEq, Int.reduceToNat, Nat.reduceDiv, Nat.reduceMod, Nat.reduceLT, Nat.reduceLeDiff, Nat.reduceAdd, Nat.reduceSub, Nat.reduceMul, Nat.reduceEqDiff, Nat.reduceBEq, Nat.reduceBNe, Nat.reduceGT, bZ]
  repeat refine sd ?_
  exact hq.1) : p := h ⟨hq⟩
theorem gtx {p q F : Prop} (fx : F) (hq : q) (h : F → Bx q → p := by
  intro fx hq
  simp only [bR, bT, tab, bX, reduceIte, ↓reduceIte, reduceCtorEq, Int.reduceToNat, Nat.reduceDiv, Nat.reduceMod, Nat.reduceLT, Nat.reduceLeDiff, Nat.reduceAdd, Nat.reduceSub, Nat.reduceMul, Nat.reduceEqDiff, Nat.reduceBEq, Nat.reduceBNe, Nat.reduceGT, bZ, fx]
  repeat refine sd ?_
  exact hq.1) : p := h fx ⟨hq⟩
theorem gl {p q : Prop} (hq : q) (h : Bx q → p := by
  intro hq
  simp only [bAP, bT, tab, bX, reduceIte, ↓reduceIte, reduceCtorEq, Int.reduceToNat, Nat.reduceDiv, Nat.reduceMod, Nat.reduceLT, Nat.reduceLeDiff, Nat.reduceAdd, Nat.reduceSub, Nat.reduceMul, Nat.reduceEqDiff, Nat.reduceBEq, Nat.reduceBNe, Nat.reduceGT, List.tail_cons]
  exact hq.1) : p := h ⟨hq⟩
theorem la {p : Prop} (h : p := by first | (simp only [bS, bX, reduceIte, ↓reduceIte, reduceCtorEq, Int.reduceToNat, Nat.reduceDiv, Nat.reduceMod, Nat.reduceLT, Nat.reduceLeDiff, Nat.reduceAdd, Nat.reduceSub, Nat.reduceMul, Nat.reduceEqDiff, Nat.reduceBEq, Nat.reduceBNe, Nat.reduceGT] <;> first | done | (and_intros <;> first | rfl | (simp; done) | omega | (simp [lit, bX, eK, eB, eS, eL]; done) | (simp only [iX, List.length_cons, List.length_nil, List.length_append, List.length_set, List.length_replicate, List.length_map, List.length_take, List.length_drop]; omega))) | (simp only [bS, bX, reduceIte, ↓reduceIte, reduceCtorEq, Int.reduceToNat, Nat.reduceDiv, Nat.reduceMod, Nat.reduceLT, Nat.reduceLeDiff, Nat.reduceAdd, Nat.reduceSub, Nat.reduceMul, Nat.reduceEqDiff, Nat.reduceBEq, Nat.reduceBNe, Nat.reduceGT, *] <;> first | done | (and_intros <;> first | rfl | (simp; done) | omega | (simp [lit, bX, eK, eB, eS, eL]; done) | (simp only [iX, List.length_cons, List.length_nil, List.length_append, List.length_set, List.length_replicate, List.length_map, List.length_take, List.length_drop]; omega)))) : p := h
theorem ct {f : FuncId} {args : List PV} {p : PV} (ρ : List Nat) {args' : List PV} {σc : List OB} {post pp : PV → List OB → Prop} (hs : gD P f args' σc post pp)
  (h1 : ρ.Nodup := by simp) (h2 : ∀ b ∈ ρ, b < σ.length := by simp) (h3 : args = args'.map (PV.ren (cQ σ.length ρ)) := by exact rfl) (h4 : ρ.map (fun b => σ[b]?) = σc.map (fun ob => some (ob.ren (cQ σ.length ρ))) := by exact rfl)
  (h5 : fO ρ.length args' := by first | trivial | (simp [bX, eK, eB, eS, eL, oG, fO, PV.under, CV.under, ce, OB.under, cS]; done)) (h6 : ce ρ.length σc := by first | trivial | (simp [bX, eK, eB, eS, eL, oG, fO, PV.under, CV.under, ce, OB.under, cS]; done))
  (h7 : ∀ q τ, post q τ → ρ.length ≤ τ.length → q.ren (cQ σ.length ρ) = p ∧ cG σ ρ (τ.map (OB.ren (cQ σ.length ρ))) = σ2 := by intro q τ hq _; obtain ⟨rfl, rfl⟩ := hq; exact ⟨rfl, rfl⟩) (h8 : ∀ q τ, pp q τ → False := by exact fun _ _ h => h.elim) : ju P σ f args p σ2 := ⟨args', σc, post, pp, ρ, hs, h1, h2, h3, h4, h5, h6, h7, h8⟩
theorem ca {C : Prop} {f : FuncId} {args : List PV} {o : Oper} {r : List Oper} {bs : List Bool} {res : PV} {ops : Array Oper} (hs : ju P σ f args res σ2) (next : eT P ops r bs.tail (E.putD o.dst ⟨true, res⟩) σ2 k)
  (hd : cR E o.dst := by first | trivial | exact iH rfl) (hC : C := by first | trivial | (intro _; first | trivial | simp [ax]) | simp [ax]) (hb : bs.headD false = true ∨ kH σ σ2 := by first | exact .inl rfl | exact .inr (by simp only [kH]; and_intros <;> first | rfl | trivial)) : jy P ops true C f args o r bs E σ k := pr hs hd hC hb next
theorem cap {C : Prop} {f : FuncId} {args : List PV} {o : Oper} {r : List Oper} {bs ps : List Bool} {rd : List (List Nat)} {res : PV} {ops : Array Oper} (hs : ju P σ f args res σ2) (next : gL P ops pv r bs.tail ps.tail rd.tail (E.putD o.dst ⟨true, res⟩) σ2 k)
  (hd : cR E o.dst := by first | trivial | exact iH rfl) (hC : C := by first | trivial | (intro _; first | trivial | simp [ax]) | simp [ax]) (hb : bs.headD false = true ∨ kH σ σ2 := by first | exact .inl rfl | exact .inr (by simp only [kH]; and_intros <;> first | rfl | trivial)) : mR P ops pv true C f args o r bs ps rd E σ k := oL hs hd hC hb next
theorem pat {γ : Bool} {C : Prop} {f : FuncId} {args : List PV} {o : Oper} {r : List Oper} {bs : List Bool} {res : PV} (hs : γ = true → cZ P f args res) (next : TR P ops r bs.tail (E.putD o.dst ⟨γ, res⟩) σ k)
  (hd : cR E o.dst := by first | trivial | exact iH rfl) (hC : γ = true → C := by first | trivial | (intro _; first | trivial | simp [ax]) | simp [ax]) (hargs : args.all PV.noOwn = true := by exact rfl) (hres : ∀ n, res.ren (cQ n []) = res := by exact fun _ => rfl) : jy P ops γ C f args o r bs E σ k := ni hs hd hC hargs hres next
end
section
variable {P : Program} {E : Env} {σ : List OB}
theorem jj (P : Program) (g o : Nat) (t : TypeId) (fz : Nat × Nat) : ∀ (vs : List Value) (i : Nat) (cur : Array Value) (w : World),
  w.heap[g]? = some (.cells cur t fz) → (fz = (0, 0) ∨ cur.size ≤ fz.1) → o + i + vs.length ≤ cur.size → (∀ v ∈ vs, v.oneCell' = true) →
  (storeCells ⟨g, o, none⟩ vs i).run P w = .ok () (w.setRow g (cur.toList.take (o + i) ++ vs ++ cur.toList.drop (o + i + vs.length)).toArray)
 | [], i, cur, w, hg, _, _, _ => by
  simp only [storeCells, List.append_nil, List.length_nil, Nat.add_zero, List.take_append_drop, Array.toArray_toList]
  rw [setRow_self w g cur t fz hg]
  rfl
 | v :: rest, i, cur, w, hg, hfz, hl, h1 => by
  have hi : o + i < cur.size := by simp at hl; omega
  have hadd : (⟨g, o, none⟩ : Addr).add i = ⟨g, o + i, none⟩ := by unfold Addr.add; split <;> simp_all
  have hcell : w.cell? ⟨g, o + i, none⟩ = some cur[o + i] := by simp [World.cell?, hg, hi]
  have hfro : w.frozen? ⟨g, o + i, none⟩ = false := by
   simp only [World.frozen?, hg]
   rcases hfz with rfl | hfz
   ·simp
   ·obtain ⟨a, b⟩ := fz
    simp at hfz ⊢
    omega
  have hst : (store ((⟨g, o, none⟩ : Addr).add i) v).run P w = .ok () (w.setRow g (cur.setIfInBounds (o + i) v)) := by
   rw [hadd, run_store P w _ v _ (h1 v (by simp)), hcell]
   simp [hfro, setCell_eq_setRow w g (o + i) cur t fz v hg]
  have ih := jj P g o t fz rest (i + 1) (cur.setIfInBounds (o + i) v) (w.setRow g (cur.setIfInBounds (o + i) v)) (setRow_heap w g cur _ t _ hg) (by rcases hfz with h | h; exact .inl h; exact .inr (by simpa using h)) (by simp at hl ⊢; omega) (fun x hx => h1 x (by simp [hx]))
  simp only [storeCells, Sem.run_bind, hst, Result.andThen_ok, ih, ko]
  congr 3
  have e := list_seg_step cur.toList (o + i) v rest (by simp at hl ⊢; omega)
  simpa [Array.toList_setIfInBounds, Nat.add_assoc] using e
def cpy (l : List Int) (lo n : Nat) (m : List Int) : List Int := if lo + n ≤ l.length then l.take lo ++ m.take n ++ l.drop (lo + min m.length n) else l
theorem pZ (l : List Int) (lo n : Nat) (m : List Int) : (cpy l lo n m).length = l.length := by
 unfold cpy
 split
 ·simp only [List.length_append, List.length_take, List.length_drop]; omega
 ·rfl
end
def clr {α : Type} (z : α) (l : List α) (lo n : Nat) : List α := if lo + n ≤ l.length then l.take lo ++ List.replicate n z ++ l.drop (lo + n) else l
theorem p8 {α : Type} (z : α) (l : List α) (lo n : Nat) : (clr z l lo n).length = l.length := by
 unfold clr
 split
 ·simp only [List.length_append, List.length_take, List.length_drop, List.length_replicate]; omega
 ·rfl
theorem enC {p : Prop} (h : p := by simp only [bF, bT, tab, bX, Sum.elim_inl, Sum.elim_inr, reduceIte, ↓reduceIte, reduceCtorEq, Int.reduceToNat, Nat.reduceDiv, Nat.reduceMod, Nat.reduceLT, Nat.reduceLeDiff, Nat.reduceAdd, Nat.reduceSub, Nat.reduceMul, Nat.reduceEqDiff, Nat.reduceBEq, Nat.reduceBNe, Nat.reduceGT] <;> first | done | rfl | (and_intros <;> first | rfl | omega | (simp; done) | (simp [eK, eB, eS, eL]; done) | (simp only [List.length_take, p8, pZ]; omega))) : p := h
section
variable {P : Program} {E : Env} {σ : List OB}
theorem qH {α : Type} {e : α → List CV} {z : α} {o : Oper} {c : Call} {T : TypeId} {x : Operand} {b ver lo n s : Nat} {Ty : TypeId} {l : List α} (ho : o.op = .call c) (hc : c.callee = .builtin .clear) (hts : c.argTypes = #[T]) (has : c.args = #[x])
  (hx : ev E x = ⟨true, .c (.osl b ver lo n)⟩) (hσ : σ[b]? = some (.arr s ver Ty (l.map e))) (hn : lo + n ≤ l.length) (hT : d9 P T = true) (hz : gH P (P.elem T) = some (e z)) (hs' : (e z).length = s) :
  lY P E σ o (.t []) (σ.set b (.arr s ver Ty ((clr z l lo n).map e))) := fun G a w hs => by
 rw [show clr z l lo n = l.take lo ++ List.replicate n z ++ l.drop (lo + n) from iP hn]
 have hinv := hs.inv
 have hu := cY hT
 obtain ⟨i, zu, h1, h2, h3, h4, h5, h6⟩ := fg G hz
 obtain ⟨og, s', T'', es', hb', hown, hov, hosz, ⟨hcap, ad, hval, hha⟩, hok⟩ := gu hs.inv (oI hσ) (rn hs hx)
 rw [hσ] at hb'
 simp only [sJ, OB.arr.injEq] at hb'
 obtain ⟨rfl, _, rfl, rfl⟩ := hb'
 obtain ⟨o2, g1, g2, g3, g4, g5, g6, g7, g8, g9⟩ := hok
 rw [hown] at g1
 simp only [sJ] at g1
 subst g1
 have hlen : (l.map e).length = l.length := by simp
 rw [hlen] at g5
 have hzs : i.size = s := by have := h6.length; simp at this; omega
 have hG : ({ G with own := G.own.set b (some og) } : Gh) = G := by
  have : G.own.set b (some og) = G.own := by
   apply List.ext_getElem?
   intro k
   by_cases e : b = k
   ·subst e; rw [hown]; simp [(List.getElem?_eq_some_iff.1 hown).1]
   ·rw [List.getElem?_set_ne e]
  cases G; simp_all
 have harr : c.args.map a.eval = #[a.eval x] := by rw [has]; simp
 have hzv := d6 (P := P) (w := w) h1 h2
 by_cases hn0 : n = 0
 ·have e1 : l.take lo ++ List.replicate n z ++ l.drop (lo + n) = l := by rw [hn0]; simp
  rw [e1]
  have e2 : σ.set b (.arr s ver Ty (l.map e)) = σ := by
   apply List.ext_getElem?
   intro k
   by_cases e : b = k
   ·subst e; rw [hσ]; simp [(List.getElem?_eq_some_iff.1 hσ).1]
   ·rw [List.getElem?_set_ne e]
  rw [e2]
  have hrun : (Builtin.clear_ #[T] o.type #[a.eval x]).run P w = .ok (.tuple #[]) w := by
   rw [hval, hn0]
   cases ad <;> simp [Builtin.clear_, run_underlying hu]
  refine ⟨_, .tuple #[], w, G, ?_, .inl rfl, i6.refl G, bt.refl _, hinv, ⟨[], rfl, trivial⟩⟩
  simp only [execOp, ho, Sem.run_bind, resolve, hc, Sem.run_pure, Result.andThen_ok, invoke, harr, hts, builtin]
  rw [hrun]
  rfl
 ·have hh : og.has = true := by
   cases hh : og.has with
   | true => rfl
   | false => have := g8 hh; omega
  obtain ⟨a', rfl, ha'⟩ := hha hh
  obtain ⟨cur, fz, hblk, hfz, hcsz, hcells⟩ := g9 hh
  have ea := ha' (by omega)
  rw [hosz] at ea
  subst ea
  obtain ⟨cs, hcs⟩ : ∃ cs : List Value, cs = (Builtin.zeroCells zu.cells n).toList := ⟨_, rfl⟩
  have hcl : cs.length = n * s := by rw [hcs, Array.length_toList, nW, h3, hzs]
  have hle : lo * s + n * s ≤ cur.size := by
   rw [hcsz, ← Nat.add_mul]
   exact Nat.mul_le_mul_right _ (by omega)
  have hone : ∀ v ∈ cs, v.oneCell' = true := fun v hv => by
   rw [hcs] at hv
   simp only [Builtin.zeroCells, Array.toList_map, List.mem_map] at hv
   obtain ⟨k, hk, rfl⟩ := hv
   have hsz : 0 < zu.cells.size := by omega
   have hkm : k % zu.cells.size < zu.cells.size := Nat.mod_lt _ hsz
   rw [getElem!_pos zu.cells _ hkm]
   obtain ⟨x, hx1, hx2⟩ := aI.get' h6 (k % zu.cells.size) _ (by rw [Array.getElem?_toList]; exact Array.getElem?_eq_getElem hkm)
   exact be.one hx2
  have hst := jj P og.blk (lo * s) _ fz cs 0 cur w hblk hfz (by rw [hcl]; omega) hone
  simp only [Nat.add_zero] at hst
  have hrun : (Builtin.clear_ #[T] o.type #[a.eval x]).run P w = .ok (.tuple #[]) (w.setRow og.blk (cur.toList.take (lo * s) ++ cs ++ cur.toList.drop (lo * s + cs.length)).toArray) := by
   rw [hval]
   have : (Builtin.clear_ #[T] o.type #[.slice (some ⟨og.blk, lo * s, none⟩) n (og.cap - lo)]).run P w = ((storeCells ⟨og.blk, lo * s, none⟩ cs).run P w).andThen fun _ w' => .ok (.tuple #[]) w' := by
    obtain ⟨k, rfl⟩ : ∃ k, n = k + 1 := ⟨n - 1, by omega⟩
    rw [hcs]
    simp [Builtin.clear_, run_underlying hu, hzv]
   rw [this, hst]
   rfl
  refine ⟨_, .tuple #[], w.setRow og.blk (cur.toList.take (lo * s) ++ cs ++ cur.toList.drop (lo * s + cs.length)).toArray, G, ?_, .inl rfl, i6.refl G, bt.refl _, ?_, ⟨[], rfl, trivial⟩⟩
  ·simp only [execOp, ho, Sem.run_bind, resolve, hc, Sem.run_pure, Result.andThen_ok, invoke, harr, hts, builtin]
   rw [hrun]
   rfl
  ·have hl1 : (cur.toList.take (lo * s)).length = lo * s := by rw [List.length_take]; simp; omega
   have key := hinv.change (w' := w.setRow og.blk (cur.toList.take (lo * s) ++ cs ++ cur.toList.drop (lo * s + cs.length)).toArray) b (.arr s ver Ty ((l.take lo ++ List.replicate n z ++ l.drop (lo + n)).map e)) og og hown (.inl rfl) (by simp) (fun k _ hk => dS w _ k _ (hk hh)) (fun hh' => .inl ⟨rfl, hh'⟩) rfl rfl rfl (by
    rw [hG]
    have hnl : (l.take lo ++ List.replicate n z ++ l.drop (lo + n)).length = l.length := by
     simp only [List.length_append, List.length_take, List.length_drop, List.length_replicate]; omega
    refine ⟨og, hown, g2, g3, g4, by simp only [List.length_map]; rw [hnl]; exact g5, g6, ?_, g8, fun _ => ?_⟩
    ·intro y hy
     obtain ⟨v, hv, rfl⟩ := List.mem_map.1 hy
     rcases List.mem_append.1 hv with hv | hv
     ·rcases List.mem_append.1 hv with hv | hv
      ·exact g7 _ (List.mem_map.2 ⟨v, List.mem_of_mem_take hv, rfl⟩)
      ·rw [(List.mem_replicate.1 hv).2]; exact hs'
     ·exact g7 _ (List.mem_map.2 ⟨v, List.mem_of_mem_drop hv, rfl⟩)
    ·refine ⟨_, fz, dq hblk _, ?_, ?_, ?_⟩
     ·rcases hfz with h | h
      ·exact .inl h
      ·right; simp; omega
     ·simp; omega
     ·intro i' j' y x he hx
      have hjs : j' < s := by
       have hy : y ∈ (l.take lo ++ List.replicate n z ++ l.drop (lo + n)).map e := List.mem_of_getElem? he
       obtain ⟨v, hv, rfl⟩ := List.mem_map.1 hy
       have hvl : (e v).length = s := by
        rcases List.mem_append.1 hv with hv | hv
        ·rcases List.mem_append.1 hv with hv | hv
         ·exact g7 _ (List.mem_map.2 ⟨v, List.mem_of_mem_take hv, rfl⟩)
         ·rw [(List.mem_replicate.1 hv).2]; exact hs'
        ·exact g7 _ (List.mem_map.2 ⟨v, List.mem_of_mem_drop hv, rfl⟩)
       have := (List.getElem?_eq_some_iff.1 hx).1
       omega
      simp only [List.getElem?_map] at he
      cases hv : (l.take lo ++ List.replicate n z ++ l.drop (lo + n))[i']? with
      | none => rw [hv] at he; cases he
      | some v =>
       rw [hv] at he
       simp only [Option.map_some, sJ] at he
       subst he
       simp only [List.getElem?_toArray]
       have hl2 : (l.take lo).length = lo := by rw [List.length_take]; omega
       have row : ∀ k, k < lo → k * s + j' < lo * s := fun k hk => by
        have : (k + 1) * s ≤ lo * s := Nat.mul_le_mul_right _ hk
        rw [Nat.add_mul] at this; omega
       by_cases k1 : i' < lo
       ·have hr := row i' k1
        rw [List.append_assoc, List.getElem?_append_left (by omega), List.getElem?_take_of_lt k1] at hv
        rw [List.append_assoc, List.getElem?_append_left (by omega), List.getElem?_take_of_lt hr, Array.getElem?_toList]
        exact hcells i' j' (e v) x (by simp [hv]) hx
       ·obtain ⟨d, rfl⟩ : ∃ d, i' = lo + d := ⟨i' - lo, by omega⟩
        have em : (lo + d) * s + j' = lo * s + (d * s + j') := by rw [Nat.add_mul]; omega
        by_cases k2 : d < n
        ·have hr : d * s + j' < n * s := by
          have : (d + 1) * s ≤ n * s := Nat.mul_le_mul_right _ k2
          rw [Nat.add_mul] at this; omega
         rw [List.append_assoc, List.getElem?_append_right (by omega), List.getElem?_append_left (by simp; omega), List.getElem?_replicate, iP (by omega)] at hv
         simp only [sJ] at hv
         subst hv
         rw [em, List.append_assoc, List.getElem?_append_right (by omega), List.getElem?_append_left (by omega), hl1, Nat.add_sub_cancel_left]
         have hrr := mE (H := G.H) (n := n) (m := n) (s := s) h6 hs' (Nat.le_refl _) d j' (e z) x (by rw [List.getElem?_replicate, iP k2]) hx
         obtain ⟨u, u1, u2⟩ := hrr
         refine ⟨u, ?_, u2⟩
         rw [hcs, Array.getElem?_toList]
         rw [← u1]
         simp only [Builtin.zeroCells, madeCells, h3, hzs]
        ·obtain ⟨d', rfl⟩ : ∃ d', d = n + d' := ⟨d - n, by omega⟩
         rw [List.getElem?_append_right (by simp only [List.length_append, List.length_replicate]; omega), List.getElem?_drop] at hv
         have z1 : lo + n + (lo + (n + d') - (l.take lo ++ List.replicate n z).length) = lo + (n + d') := by rw [List.length_append, List.length_replicate]; omega
         rw [z1] at hv
         have z3 : (lo + (n + d')) * s + j' = lo * s + n * s + (d' * s + j') := by rw [Nat.add_mul, Nat.add_mul]; omega
         have z2 : lo * s + cs.length + ((lo + (n + d')) * s + j' - (cur.toList.take (lo * s) ++ cs).length) = (lo + (n + d')) * s + j' := by rw [List.length_append, hl1, hcl, z3]; omega
         rw [List.getElem?_append_right (by rw [List.length_append, hl1, hcl, z3]; omega), List.getElem?_drop, z2, Array.getElem?_toList]
         exact hcells (lo + (n + d')) j' (e v) x (by simp [hv]) hx)
   rw [hG] at key
   exact key
end
section
variable {P : Program} {E : Env} {σ : List OB}
end
section
variable {P : Program} {E : Env} {σ : List OB}
end
section
variable {P : Program} {ops : Array Oper} {pv : List Nat}
end
section
variable {P : Program} {E : Env} {σ : List OB}
theorem kb {o : Oper} {x : Operand} {v : PV} (ho : o.op = .move x) (hx : ev E x = ⟨true, v⟩) :
  ∀ E', (∀ y ∈ o.op.operands, ev E' y = ev E y) → ∀ σ, lY P E' σ o v σ := fun E' h σ => .quiet fun G a w hs => by
 have hx' : ev E' x = ⟨true, v⟩ := (h x (by rw [ho]; simp [Op.operands])).trans hx
 refine ⟨a.eval x, ?_, rn hs hx'⟩
 simp only [execOp, ho]
 rfl
end
theorem emL {α : Type} [Inhabited α] (f : α → List CV) (xs : List α) (i : Nat) (ys : List (List CV)) (hy : ys = xs.map f) (h : i < xs.length := by first | omega | (simp only [iX, List.length_cons, List.length_nil, List.length_append, List.length_set, List.length_replicate, List.length_map, List.length_take, List.length_drop]; omega)) : elt ys i = f (xs.getD i default) := by rw [hy]; exact em f xs i h
theorem sB {α : Type} (f : α → List CV) (hf : ∀ x, (f x).length = 2) (l : List α) (i j : Nat) (x y : CV) : List.drop 2 (elt ((l.map f).set i [x, y]) j) = [] := by
 apply List.drop_eq_nil_of_le
 unfold elt
 rw [List.getD_eq_getElem?_getD]
 cases h : ((l.map f).set i [x, y])[j]? with
 | none => simp
 | some r =>
  rcases List.mem_or_eq_of_mem_set (List.mem_of_getElem? h) with h | h
  ·obtain ⟨a, _, rfl⟩ := List.mem_map.1 h
   simp [hf]
  ·simp [h]
theorem enF {p : Prop} (h : p := by simp only [bF, bT, tab, bX, Sum.elim_inl, Sum.elim_inr, reduceIte, ↓reduceIte, reduceCtorEq, Int.reduceToNat, Nat.reduceDiv, Nat.reduceMod, Nat.reduceLT, Nat.reduceLeDiff, Nat.reduceAdd, Nat.reduceSub, Nat.reduceMul, Nat.reduceEqDiff, Nat.reduceBEq, Nat.reduceBNe, Nat.reduceGT] <;> first | done | rfl | (and_intros <;> first | rfl | omega | (simp; done) | (simp [CV.under]; done) | (simp [eK, eB, eS, eL]; done))) : p := h
end Pam
