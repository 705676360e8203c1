/- slices.Values of terms: its closure, whatever the loop's body is -/
import Derived.RangeFuncBox
import Derived.RangeFuncLeaves
import Derived.RangeFuncGives
import Derived.Shelf.Abstract
import Derived.WalkKit
import Derived.OwnWalkIn
import Derived.TacticsInMore
import Derived.LoopNIn
import Derived.LoopIn
import Derived.Maps.AppendAt
import Derived.Test.YtphpneddmkickaaHabcData1
set_option linter.all false
namespace Go.Proofs
open Go Go.RowKit Go.Shelf Pam
def Try.encT (x : aa) : Value := .agg #[.int .i64 x.n, .string ⟨x.name.toArray⟩]
set_option maxRecDepth 100000 in
set_option maxHeartbeats 2000000 in
theorem Try.values1_in (F : Fence) (n : Nat) (h31 : F.fn 31) (hro : F.round = none) (hn : 1 ≤ n) (l Bs n₀ b off len cap : Nat) (zs : List aa) (hreach : len * 24 ≤ 140737488351232) (hb : b < n₀) (J Jx : List aa → World → Prop)
    (hY : ∀ pre x W, J pre W → pre.length < len → YieldAt F (n - 1) Try.prog l #[Try.encT x] W fun e W' =>
      (e = .returned (.bool true) ∧ J (pre ++ [x]) W' ∧ Below n₀ W W') ∨ (e = .returned (.bool false) ∧ Jx (pre ++ [x]) W'))
    (W : World) (hlen : zs.length = len) (hBs : W.cell? ⟨Bs, 0, none⟩ = some (.slice (some ⟨b, off, none⟩) len cap))
    (hc0 : ∀ j, j < len → W.cell? ⟨b, off + j * 2, none⟩ = some (.int .i64 (zs.getD j default).n)) (hc1 : ∀ j, j < len → W.cell? ⟨b, off + j * 2 + 1, none⟩ = some (.string ⟨(zs.getD j default).name.toArray⟩))
    (hn₀ : n₀ ≤ W.heap.size) (hJa : ∀ pre W o, J pre W → J pre (W.alloc o))
    (h0 : J [] W) :
    CallsIn F n Try.prog 31 #[.func (.yield l) #[] #[], .pointer (some ⟨Bs, 0, none⟩)] W fun e W' => (∃ v, e = .returned v) ∧
      ((∃ ys, ys = zs ∧ J ys W') ∨ (∃ pre, pre <+: zs ∧ Jx pre W')) := by
  refine callsIn_of_wp Try.func31 rfl h31 ?_ hro
  simp only [Try.ntmps31, List.size_toArray, List.length_cons, List.length_nil, Nat.reduceAdd, Nat.reduceSub, Array.replicate_succ, Array.replicate_zero, List.push_toArray, List.append_toArray, List.nil_append, List.cons_append]
  gi_wp2
  gi_loopw [7] (fun i wr => ∃ k : Nat, k ≤ len ∧ i = .int .i64 k ∧ J (zs.take k) wr ∧ Below n₀ W wr)
    (fun i _ => len - (intOf i).toNat)
  case atStart => exact ⟨0, Nat.zero_le _, rfl, h0, Below.refl _ _⟩
  case round =>
    obtain ⟨k, hk, rfl, hJs, hnx⟩ := hrel
    by_cases hlt : k < len
    · have hcx0 : wr.cell? ⟨b, off + k * 2, none⟩ = some (.int .i64 (zs.getD k default).n) := (hnx.cell (p := ⟨b, off + k * 2, none⟩) hb).trans (hc0 k hlt)
      have hcx1 : wr.cell? ⟨b, off + k * 2 + 1, none⟩ = some (.string ⟨(zs.getD k default).name.toArray⟩) := (hnx.cell (p := ⟨b, off + k * 2 + 1, none⟩) hb).trans (hc1 k hlt)
      have hsucc : zs.take (k + 1) = zs.take k ++ [zs.getD k default] := by
        rw [List.take_succ, List.getD_eq_getElem?_getD, List.getElem?_eq_getElem (by omega)]
        rfl
      generalize hx : zs.getD k default = x at hcx0 hcx1 hsucc
      obtain ⟨fn, tmps, assign, body, hy, hR⟩ := hY (zs.take k) x (wr.alloc (.cells #[.int .i64 x.n, .string ⟨x.name.toArray⟩] 39)) (hJa _ _ _ hJs) (by rw [List.length_take]; omega)
      unfold Try.encT at hy
      gi_wp2
      refine hR.mono ?_
      rintro e W3 (⟨rfl, hJ3, hk3⟩ | ⟨rfl, hJx3⟩)
      · gi_wp2
        go_roundw
        case rel => exact ⟨k + 1, by omega, by simp, by rw [hsucc]; exact hJ3, (hnx.alloc (Nat.le_trans hn₀ hnx.size) _).trans hk3⟩
        case measure => simp [intOf]; omega
      · gi_wp2
        refine bodyPost_ret (results_none rfl _ _ _) rfl ?_
        exact ⟨⟨_, rfl⟩, .inr ⟨_, by rw [← hsucc]; exact List.take_prefix _ _, hJx3⟩⟩
    · obtain rfl : k = len := by omega
      gi_wp2
      go_end0
      exact ⟨⟨_, rfl⟩, .inl ⟨_, rfl, by rw [← hlen, List.take_length] at hJs; exact hJs⟩⟩
end Go.Proofs
namespace Go.Proofs
open Go Go.RowKit Go.Shelf Pam
def Try.cellsT (l : List aa) : List Value := l.flatMap fun x => [.int .i64 x.n, .string ⟨x.name.toArray⟩]
theorem Try.cellsT_snoc (l : List aa) (x : aa) : Try.cellsT (l ++ [x]) = Try.cellsT l ++ [.int .i64 x.n, .string ⟨x.name.toArray⟩] := by simp [Try.cellsT]
theorem Try.cellsT_len (l : List aa) : (Try.cellsT l).length = l.length * 2 := by
  induction l with
  | nil => rfl
  | cons x l ih => simp only [Try.cellsT, List.flatMap_cons, List.length_append, List.length_cons, List.length_nil] at ih ⊢; omega
def rfOf : Code → Option (Code × Code)
  | .seq a b => (rfOf a).or (rfOf b)
  | .block _ c => rfOf c
  | .rangeFunc _ _ a b => some (a, b)
  | _ => none
noncomputable def Try.apAssign : Code := ((rfOf (Try.f34.body.getD .skip)).getD (.skip, .skip)).1
noncomputable def Try.apBody : Code := ((rfOf (Try.f34.body.getD .skip)).getD (.skip, .skip)).2
noncomputable def Try.apRec (fn : FuncId) (sv : Value) (Bs D : Nat) (st : LoopState) (pend : Option Code) : Loop :=
  { state := st, pending := pend, fn, tmps := #[.slice none 0 0, sv, .pointer (some ⟨Bs, 0, none⟩), undef, .slice none 0 0, undef, sv, undef, undef, undef, undef, undef, undef], params := #[7], assign := Try.apAssign, body := Try.apBody, defers := D }
structure Try.ApAt (w0 : World) (fn : FuncId) (sv : Value) (Bs l D : Nat) (ss : List aa) (W : World) : Prop where
  box : ∃ v, W.heap[Bs]? = some (.cells #[v] 22 (0, 0)) ∧ W.ownsRow w0.heap.size 39 2 v ss.length (Try.cellsT ss) ∧ (v = .slice none 0 0 ↔ ss = [])
  L : W.heap[l]? = some (.loop (Try.apRec fn sv Bs D .ready none))
  K : W.heap[D]? = some (.deferred (some []))
  below : Below w0.heap.size w0 W
theorem Try.ap_alloc {w0 : World} {fn : FuncId} {sv : Value} {Bs l D : Nat} {ss : List aa} {W : World} (h : Try.ApAt w0 fn sv Bs l D ss W) (o : Obj) : Try.ApAt w0 fn sv Bs l D ss (W.alloc o) := by
  obtain ⟨v, hv, hr, hn⟩ := h.box
  have lt : ∀ {k : Nat} {x : Obj}, W.heap[k]? = some x → (W.alloc o).heap[k]? = some x := fun {k x} hk => (Below.heap_alloc W o k (Array.getElem?_eq_some_iff.1 hk).1).trans hk
  exact ⟨⟨v, lt hv, hr.alloc o, hn⟩, lt h.L, lt h.K, h.below.alloc h.below.size o⟩
theorem grownBy_putObj_t (W : World) (l : Nat) (o : Obj) : W.grownBy (W.putObj l o) (some l) :=
  ⟨rfl, rfl, rfl, by simp, fun k _ hk => World.putObj_heap_other (fun e => hk (by rw [e]))⟩
theorem grownBy_setCell0_t (W : World) (b : Nat) (v : Value) : W.grownBy (W.setCell ⟨b, 0, none⟩ v) (some b) :=
  ⟨rfl, rfl, rfl, (KeepsWalks.setCell W _ v).size, fun k _ hk => Below.heap_setCell _ _ _ k (fun e => hk (by rw [e]))⟩
theorem ownsRow_ne_t {W : World} {base : Nat} {e : TypeId} {size : Nat} {v : Value} {k : Nat} {xs : List Value} (h : W.ownsRow base e size v k xs) {j : Nat} {o : Obj} (hj : W.heap[j]? = some o) (hno : ∀ cur, o ≠ .cells cur e (0, 0)) :
    v.ownBlock = none ∨ v.ownBlock ≠ some j := by
  rcases h.2 with ⟨rfl, _⟩ | ⟨g, cap, cur, rfl, _, hgb, _⟩
  · exact .inl rfl
  · refine .inr fun e' => ?_
    have : g = j := by simpa [Value.ownBlock] using e'
    subst this; rw [hgb] at hj; cases hj; exact hno cur rfl
theorem cell_of_box_t {W : World} {B : Nat} {v : Value} {t : TypeId} (h : W.heap[B]? = some (.cells #[v] t (0, 0))) : W.cell? ⟨B, 0, none⟩ = some v ∧ W.frozen? ⟨B, 0, none⟩ = false := by
  constructor <;> simp [World.cell?, World.frozen?, h]
theorem heap_setCell_box_t {W : World} {B : Nat} {v : Value} {t : TypeId} (v' : Value) (h : W.heap[B]? = some (.cells #[v] t (0, 0))) : (W.setCell ⟨B, 0, none⟩ v').heap[B]? = some (.cells #[v'] t (0, 0)) := by
  obtain ⟨hlt, hk⟩ := Array.getElem?_eq_some_iff.1 h
  show (W.heap.modify B _)[B]? = _
  rw [Array.getElem?_eq_getElem (by rw [Array.size_modify]; exact hlt), Array.getElem_modify_self, hk]
  rfl
theorem cell_two_new (w : World) (x y : Value) (t : TypeId) : ∀ j u, [x, y][j]? = some u → (w.alloc (.cells #[x, y] t)).cell? ((⟨w.heap.size, 0, none⟩ : Addr).add j) = some u := by
  intro j u hj
  have hh : (w.alloc (.cells #[x, y] t)).heap[w.heap.size]? = some (.cells #[x, y] t (0, 0)) := World.alloc_heap_new w _
  have key : ∀ k, (w.alloc (.cells #[x, y] t)).cell? ⟨w.heap.size, k, none⟩ = #[x, y][k]? := fun k => by unfold World.cell?; rw [hh]; rfl
  match j, hj with
  | 0, hj => simp at hj; subst hj; exact key 0
  | 1, hj => simp at hj; subst hj; exact key 1
theorem Try.info39 : (Try.prog.info? 39).map (fun i => (i.zero, i.size, i.bytes)) = some (some (.agg #[.int .i64 0, .string ⟨#[]⟩]), 2, 24) := by kernel_rfl
set_option maxRecDepth 100000 in
set_option maxHeartbeats 2000000 in
theorem Try.apYield (F : Fence) (m : Nat) (w0 : World) (fn : FuncId) (hfn : F.fn fn) (sv : Value) (Bs l D : Nat) (hBl : Bs ≠ l) (hDl : D ≠ l) (hDB : D ≠ Bs) (h0B : w0.heap.size ≤ Bs) (h0l : w0.heap.size ≤ l)
    (N : Nat) (hN : N ≤ maxLen) (hNb : N * 24 ≤ 140737488355328) (ss : List aa) (x : aa) (W : World) (h : Try.ApAt w0 fn sv Bs l D ss W) (hlen : ss.length < N) :
    YieldAt F m Try.prog l #[Try.encT x] W fun e W' => e = .returned (.bool true) ∧ Try.ApAt w0 fn sv Bs l D (ss ++ [x]) W' ∧ Below w0.heap.size W W' := by
  obtain ⟨i0, hi, hz0, hz1, hz2⟩ := info_parts Try.info39
  obtain ⟨v, hv, hrow, _⟩ := h.box
  refine ⟨fn, #[.slice none 0 0, sv, .pointer (some ⟨Bs, 0, none⟩), undef, .slice none 0 0, undef, sv, Try.encT x, undef, undef, undef, undef, undef], Try.apAssign, Try.apBody, by simpa [Try.apRec] using run_yield (P := Try.prog) (args := #[Try.encT x]) h.L rfl, roundIn_of_wpIn hfn ?_⟩
  have hl : l < W.heap.size := (Array.getElem?_eq_some_iff.1 h.L).1
  simp only [Try.apAssign, Try.f34, Option.getD_some, rfOf, Option.or]
  unfold Try.encT
  gi_wp2_with (rw [Oper.semAt_eq _ _ _ (fun c h => by cases h)]; go_simp; try go_bits)
  obtain ⟨Wa, hWa⟩ : ∃ Wa, W.alloc (.cells #[.int .i64 x.n, .string ⟨x.name.toArray⟩] 39) = Wa := ⟨_, rfl⟩
  rw [hWa]
  have ha : Try.ApAt w0 fn sv Bs l D ss Wa := by rw [← hWa]; exact Try.ap_alloc h _
  have hva : Wa.heap[W.heap.size]? = some (.cells #[.int .i64 x.n, .string ⟨x.name.toArray⟩] 39 (0, 0)) := by rw [← hWa]; exact World.alloc_heap_new W _
  have hWWa : Below w0.heap.size W Wa := by rw [← hWa]; exact (Below.refl _ W).alloc h.below.size _
  clear hWa hv hrow
  generalize hVd : W.heap.size = V at hva ⊢
  have hVl : V ≠ l := by omega
  clear hVd
  obtain ⟨v, hv, hrow, _⟩ := ha.box
  have hla : l < Wa.heap.size := (Array.getElem?_eq_some_iff.1 ha.L).1
  have hbr := run_beginRound (P := Try.prog) ha.L rfl
  obtain ⟨W2, hW2⟩ : ∃ W2, Wa.putObj l (.loop { Try.apRec fn sv Bs D .ready none with state := .busy }) = W2 := ⟨_, rfl⟩
  rw [hW2] at hbr
  have hg2 : Wa.grownBy W2 (some l) := by rw [← hW2]; exact grownBy_putObj_t _ _ _
  have hv2 : W2.heap[Bs]? = some (.cells #[v] 22 (0, 0)) := by rw [← hW2]; exact (World.putObj_heap_other hBl).trans hv
  have hV2 : W2.heap[V]? = some (.cells #[.int .i64 x.n, .string ⟨x.name.toArray⟩] 39 (0, 0)) := by rw [← hW2]; exact (World.putObj_heap_other hVl).trans hva
  have hK2 : W2.heap[D]? = some (.deferred (some [])) := by rw [← hW2]; exact (World.putObj_heap_other hDl).trans ha.K
  have hL2 : W2.heap[l]? = some (.loop { Try.apRec fn sv Bs D .ready none with state := .busy }) := by rw [← hW2]; exact World.putObj_heap_same hla
  have hrow2 : W2.ownsRow w0.heap.size 39 2 v ss.length (Try.cellsT ss) := hrow.kept hg2 (ownsRow_ne_t hrow ha.L (fun cur e => by cases e))
  have hb2 : Below w0.heap.size w0 W2 := ha.below.grown hg2 ha.below.size (fun k e => by cases e; exact h0l)
  have hWb2 : Below w0.heap.size W W2 := hWWa.grown hg2 ha.below.size (fun k e => by cases e; exact h0l)
  obtain ⟨hc2, hf2⟩ := cell_of_box_t hv2
  have hc5a : W2.cell? ⟨V, 0, none⟩ = some (.int .i64 x.n) := by unfold World.cell?; rw [hV2]; rfl
  have hc5b : W2.cell? ⟨V, 1, none⟩ = some (.string ⟨x.name.toArray⟩) := by unfold World.cell?; rw [hV2]; rfl
  have hBlt : Bs < W2.heap.size := (Array.getElem?_eq_some_iff.1 hv2).1
  have hl2 : l < W2.heap.size := (Array.getElem?_eq_some_iff.1 hL2).1
  have hDlt : D < W2.heap.size := (Array.getElem?_eq_some_iff.1 hK2).1
  have ne_of : ∀ {j : Nat} {o : Obj}, W2.heap[j]? = some o → (∀ cur, o ≠ .cells cur 39 (0, 0)) → some j ≠ v.ownBlock := fun hj hno => by
    rcases ownsRow_ne_t hrow2 hj hno with e | e
    · rw [e]; simp
    · exact fun e' => e e'.symm
  clear hW2
  refine ⟨W2, hbr, ?_⟩
  simp only [Try.apBody, Try.f34, Option.getD_some, rfOf, Option.or]
  gi_wp2_with (first
    | (gi_at_builtin; refine wpListIn_append_own _ rfl _ _ 22 rfl w0.heap.size 39 i0 (.agg #[.int .i64 0, .string ⟨#[]⟩]) 2 24 Try.underlying22 hi hz0 hz1 hz2 rfl (by decide) _ _ _ rfl (hrow2.alloc _) ⟨W2.heap.size, 0, none⟩ 1 1 [.int .i64 x.n, .string ⟨x.name.toArray⟩] rfl rfl (cell_two_new _ _ _ _) (by simp [Value.oneCell']) (by omega) (by omega) (by have := hb2.size; simp; omega) ?_; intro v' w3 hown' hg3 hnil3
       have hv3 : w3.heap[Bs]? = some (.cells #[v] 22 (0, 0)) := (hg3.block Bs (by simp; omega) (ne_of hv2 (fun cur e => by cases e))).trans ((Below.heap_alloc _ _ Bs hBlt).trans hv2)
       obtain ⟨hc3, hf3⟩ := cell_of_box_t hv3
       obtain ⟨g', cap', cur', rfl, hbase', hgb', hr1, hr2, hr3, hr4⟩ : ∃ g' cap' cur', v' = .slice (some ⟨g', 0, none⟩) (ss.length + 1) cap' ∧ w0.heap.size ≤ g' ∧ w3.heap[g']? = some (.cells cur' 39 (0, 0)) ∧ ss.length + 1 ≤ cap' ∧ cap' ≤ maxLen ∧ cur'.size = cap' * 2 ∧ cur'.toList.take ((ss.length + 1) * 2) = Try.cellsT ss ++ [.int .i64 x.n, .string ⟨x.name.toArray⟩] := by
         rcases hown'.2 with ⟨_, h0⟩ | h'
         · exact absurd h0 (by omega)
         · exact h'
       simp only [Act.put, List.setIfInBounds_toArray, List.set_cons_succ, List.set_cons_zero])
    | (rw [Oper.semAt_eq _ _ _ (fun c h => by cases h)]; go_simp; try go_bits))
  have hg3' : (W2.alloc (.cells #[.int .i64 x.n, .string ⟨x.name.toArray⟩] 39)).grownBy w3 v.ownBlock := hg3
  have hL3 : w3.heap[l]? = some (.loop { Try.apRec fn sv Bs D .ready none with state := .busy }) := (hg3'.block l (by simp; omega) (ne_of hL2 (fun cur e => by cases e))).trans ((Below.heap_alloc _ _ l hl2).trans hL2)
  have hK3 : w3.heap[D]? = some (.deferred (some [])) := (hg3'.block D (by simp; omega) (ne_of hK2 (fun cur e => by cases e))).trans ((Below.heap_alloc _ _ D hDlt).trans hK2)
  obtain ⟨w4, hw4⟩ : ∃ w4, w3.setCell ⟨Bs, 0, none⟩ (.slice (some ⟨g', 0, none⟩) (ss.length + 1) cap') = w4 := ⟨_, rfl⟩
  rw [hw4]
  have hg4 : w3.grownBy w4 (some Bs) := by rw [← hw4]; exact grownBy_setCell0_t _ _ _
  have hv4 : w4.heap[Bs]? = some (.cells #[.slice (some ⟨g', 0, none⟩) (ss.length + 1) cap'] 22 (0, 0)) := by rw [← hw4]; exact heap_setCell_box_t _ hv3
  have hL4 : w4.heap[l]? = some (.loop { Try.apRec fn sv Bs D .ready none with state := .busy }) := (hg4.block l (Array.getElem?_eq_some_iff.1 hL3).1 (fun e => hBl (by cases e; rfl))).trans hL3
  have hK4 : w4.heap[D]? = some (.deferred (some [])) := (hg4.block D (Array.getElem?_eq_some_iff.1 hK3).1 (fun e => hDB (by cases e; rfl))).trans hK3
  have hrow4 := hown'.kept hg4 (ownsRow_ne_t hown' hv3 (fun cur e => by cases e))
  have hl4 : l < w4.heap.size := (Array.getElem?_eq_some_iff.1 hL4).1
  have hsz2 : w0.heap.size ≤ (W2.alloc (.cells #[.int .i64 x.n, .string ⟨x.name.toArray⟩] 39)).heap.size := by have := hb2.size; simp; omega
  have hb3 : Below w0.heap.size w0 w3 := (hb2.alloc hb2.size _).grown hg3' hsz2 (fun k e => (hrow2.lt k e).1)
  have hb4 : Below w0.heap.size w0 w4 := hb3.grown hg4 hb3.size (fun k e => by cases e; exact h0B)
  have hWb3 : Below w0.heap.size W w3 := (hWb2.alloc hb2.size _).grown hg3' hsz2 (fun k e => (hrow2.lt k e).1)
  have hWb4 : Below w0.heap.size W w4 := hWb3.grown hg4 hb3.size (fun k e => by cases e; exact h0B)
  clear hw4
  refine ⟨_, _, run_endRound none hL4, rfl, ⟨⟨_, (World.putObj_heap_other hBl).trans hv4, ?_, by simp⟩, World.putObj_heap_same hl4, (World.putObj_heap_other hDl).trans hK4, hb4.grown (grownBy_putObj_t _ _ _) hb4.size (fun k e => by cases e; exact h0l)⟩, hWb4.grown (grownBy_putObj_t _ _ _) hb4.size (fun k e => by cases e; exact h0l)⟩
  have := hrow4.kept (grownBy_putObj_t w4 l (.loop { { Try.apRec fn sv Bs D .ready none with state := .busy } with state := if (none : Option Code).isNone then .ready else .done, pending := none })) (ownsRow_ne_t hrow4 hL4 (fun cur e => by cases e))
  rw [Try.cellsT_snoc]
  simpa using this
def Try.Holds (n₀ : Nat) (w : World) (Bs : Nat) (zs : List aa) : Prop := Bs < n₀ ∧
  ((∃ ad cap, w.cell? ⟨Bs, 0, none⟩ = some (.slice ad 0 cap) ∧ zs = []) ∨ ∃ b off cap, w.cell? ⟨Bs, 0, none⟩ = some (.slice (some ⟨b, off, none⟩) zs.length cap) ∧ b < n₀ ∧
    (∀ j, j < zs.length → w.cell? ⟨b, off + j * 2, none⟩ = some (.int .i64 (zs.getD j default).n)) ∧ (∀ j, j < zs.length → w.cell? ⟨b, off + j * 2 + 1, none⟩ = some (.string ⟨(zs.getD j default).name.toArray⟩)))
set_option maxRecDepth 100000 in
set_option maxHeartbeats 1000000 in
theorem Try.values1_nil_in (F : Fence) (n : Nat) (h31 : F.fn 31) (hro : F.round = none) (l Bs : Nat) (J : List aa → World → Prop) (W : World) (ad : Option Addr) (cap : Nat) (hBs : W.cell? ⟨Bs, 0, none⟩ = some (.slice ad 0 cap)) (h0 : J [] W) :
    CallsIn F n Try.prog 31 #[.func (.yield l) #[] #[], .pointer (some ⟨Bs, 0, none⟩)] W fun e W' => (∃ v, e = .returned v) ∧ J [] W' := by
  refine callsIn_of_wp Try.func31 rfl h31 ?_ hro
  simp only [Try.ntmps31, List.size_toArray, List.length_cons, List.length_nil, Nat.reduceAdd, Nat.reduceSub, Array.replicate_succ, Array.replicate_zero, List.push_toArray, List.append_toArray, List.nil_append, List.cons_append]
  gi_wp2
  gi_loopw [7] (fun i wr => i = .int .i64 0 ∧ J [] wr) (fun _ _ => 0)
  case atStart => exact ⟨rfl, h0⟩
  case round =>
    obtain ⟨rfl, hJs⟩ := hrel
    gi_wp2
    go_end0
    exact ⟨⟨_, rfl⟩, hJs⟩
set_option maxRecDepth 100000 in
set_option maxHeartbeats 2000000 in
theorem Try.appendSeq_in (F : Fence) (n : Nat) (h34 : F.fn 34) (h31 : F.fn 31) (hro : F.round = none) (hn : 2 ≤ n) (zs : List aa) (hN : zs.length ≤ 1000000) (B : Nat) (w : World) (hH : Try.Holds w.heap.size w B zs) :
    CallsIn F n Try.prog 34 #[.slice none 0 0, .func (.func 31) #[] #[.pointer (some ⟨B, 0, none⟩)]] w fun e w' => ∃ v : Value, e = .returned v ∧ w'.ownsRow w.heap.size 39 2 v zs.length (Try.cellsT zs) ∧ (v = .slice none 0 0 ↔ zs = []) ∧ Below w.heap.size w w' := by
  have h1 : 1 ≤ n := by omega
  have hmax : (1000000 : Nat) ≤ maxLen := by decide
  refine callsIn_of_wp_marks Try.func34 rfl h34 ?_ hro
  simp only [Try.ntmps34, List.size_toArray, List.length_cons, List.length_nil, Nat.reduceAdd, Nat.reduceSub, Array.replicate_succ, Array.replicate_zero, List.push_toArray, List.append_toArray, List.nil_append, List.cons_append]
  gi_wp2
  refine wpIn_rangeFunc ?_
  intro fn hfn
  rw [hro]
  obtain ⟨sv, hsv⟩ : ∃ sv : Value, sv = .func (.func 31) #[] #[.pointer (some ⟨B, 0, none⟩)] := ⟨_, rfl⟩
  rw [← hsv]
  obtain ⟨W0, hW0⟩ : ∃ W0, w.alloc (.cells #[.slice none 0 0] 22) = W0 := ⟨_, rfl⟩
  have hs0 : W0.heap.size = w.heap.size + 1 := by rw [← hW0]; simp
  have hv0 : W0.heap[w.heap.size]? = some (.cells #[.slice none 0 0] 22 (0, 0)) := by rw [← hW0]; exact World.alloc_heap_new w _
  have hb0 : Below w.heap.size w W0 := by rw [← hW0]; exact (Below.refl _ w).alloc (Nat.le_refl _) _
  rw [hW0]
  obtain ⟨W1, hW1⟩ : ∃ W1, (W0.alloc (.deferred (some []))).alloc (.loop (Try.apRec fn sv w.heap.size W0.heap.size .ready none)) = W1 := ⟨_, rfl⟩
  have hold : ∀ k, k < W0.heap.size → W1.heap[k]? = W0.heap[k]? := fun k hk => by
    rw [← hW1]; exact (Below.heap_alloc _ _ k (by simp; omega)).trans (Below.heap_alloc _ _ k hk)
  have hb1 : Below w.heap.size w W1 := by rw [← hW1]; exact (hb0.alloc hb0.size _).alloc (by have := hb0.size; simp; omega) _
  have hs1 : W1.heap.size = W0.heap.size + 2 := by rw [← hW1]; simp
  have hM : Try.ApAt w fn sv w.heap.size (W0.heap.size + 1) W0.heap.size [] W1 :=
    ⟨⟨_, (hold w.heap.size (by omega)).trans hv0, ⟨rfl, .inl ⟨rfl, rfl⟩⟩, by simp⟩,
     by rw [← hW1]; have := World.alloc_heap_new (W0.alloc (.deferred (some []))) (.loop (Try.apRec fn sv w.heap.size W0.heap.size .ready none)); rwa [World.size_alloc] at this,
     by rw [← hW1]; exact (Below.heap_alloc _ _ _ (by simp)).trans (World.alloc_heap_new W0 _), hb1⟩
  refine ⟨W0.heap.size + 1, [{ target := .collected W0.heap.size, args := #[] }], W1, { target := .fn (.func 31) #[.pointer (some ⟨B, 0, none⟩)], args := #[.func (.yield (W0.heap.size + 1)) #[] #[]] }, W1, 31,
    #[.func (.yield (W0.heap.size + 1)) #[] #[], .pointer (some ⟨B, 0, none⟩)], W1, ?_, ?_, ?_, ?_, fun _ => h1, ?_⟩
  · rw [← hW1]; exact run_enterLoop_outer _ _ _ _ _
  · simp [resolve, go_sem, hsv]
  · intro f' hf'; simp [Target.leads] at hf'; subst hf'; exact h31
  · have eg := enters_of Try.func31 (by kernel_rfl) rfl
    simp [invoke, go_sem, eg]
  · have hcall : CallsIn F (n - 1) Try.prog 31 #[.func (.yield (W0.heap.size + 1)) #[] #[], .pointer (some ⟨B, 0, none⟩)] W1 fun e W' => (∃ v, e = .returned v) ∧ Try.ApAt w fn sv w.heap.size (W0.heap.size + 1) W0.heap.size zs W' := by
      obtain ⟨hBn, hH⟩ := hH
      have cellOld : ∀ b k, b < w.heap.size → W1.cell? ⟨b, k, none⟩ = w.cell? ⟨b, k, none⟩ := fun b k hb => hb1.cell (p := ⟨b, k, none⟩) hb
      rcases hH with ⟨ad, cap, hc, rfl⟩ | ⟨b, off, cap, hc, hb, hc0, hc1⟩
      · exact Try.values1_nil_in F (n - 1) h31 hro _ B _ W1 ad cap ((cellOld _ _ hBn).trans hc) hM
      · refine (Try.values1_in F (n - 1) h31 hro (by omega) (W0.heap.size + 1) B w.heap.size b off zs.length cap zs (by omega) hb (Try.ApAt w fn sv w.heap.size (W0.heap.size + 1) W0.heap.size) (fun _ _ => False)
          (fun pre x W hJ hl => ?_) W1 rfl ((cellOld _ _ hBn).trans hc) (fun j hj => (cellOld _ _ hb).trans (hc0 j hj)) (fun j hj => (cellOld _ _ hb).trans (hc1 j hj)) hb1.size (fun pre W o h => Try.ap_alloc h o) hM).mono ?_
        · obtain ⟨fn', tmps, assign, body, hy, hR⟩ := Try.apYield F (n - 1 - 1) w fn hfn sv w.heap.size (W0.heap.size + 1) W0.heap.size (by omega) (by omega) (by omega) (Nat.le_refl _) (by omega) zs.length (by omega) (by omega) pre x W hJ hl
          exact ⟨fn', tmps, assign, body, hy, hR.mono fun e W' h => .inl h⟩
        · rintro e W' ⟨hv, ⟨ys, rfl, hJ⟩ | ⟨pre, _, hf⟩⟩
          · exact ⟨hv, hJ⟩
          · exact hf.elim
    refine hcall.mono ?_
    rintro e W2 ⟨⟨v0, rfl⟩, h2⟩
    obtain ⟨v, hv, hrow, hnil⟩ := h2.box
    have hend := run_endLoop (P := Try.prog) h2.L (by simp [Try.apRec])
    obtain ⟨W3, hW3⟩ : ∃ W3, W2.putObj (W0.heap.size + 1) (.loop { Try.apRec fn sv w.heap.size W0.heap.size .ready none with state := .exhausted }) = W3 := ⟨_, rfl⟩
    rw [hW3] at hend
    have hg3 : W2.grownBy W3 (some (W0.heap.size + 1)) := by rw [← hW3]; exact grownBy_putObj_t _ _ _
    have hv3 : W3.heap[w.heap.size]? = some (.cells #[v] 22 (0, 0)) := by rw [← hW3]; exact (World.putObj_heap_other (by omega)).trans hv
    have hK3 : W3.heap[W0.heap.size]? = some (.deferred (some [])) := by rw [← hW3]; exact (World.putObj_heap_other (by omega)).trans h2.K
    have hrow3 := hrow.kept hg3 (ownsRow_ne_t hrow h2.L (fun cur e => by cases e))
    have hb3 : Below w.heap.size w W3 := h2.below.grown hg3 h2.below.size (fun k e => by cases e; omega)
    obtain ⟨hc3, hf3⟩ := cell_of_box_t hv3
    clear hW3
    refine ⟨none, W3, hend, ?_⟩
    gi_wp2
    rw [← hs0]
    refine ⟨by simp, .inl ⟨_, _, rfl, run_takeDeferred hK3, ?_⟩⟩
    exact ⟨_, results_tmp rfl _ _ _, v, rfl, hrow3.kept (grownBy_putObj_t _ _ _) (ownsRow_ne_t hrow3 hK3 (fun cur e => by cases e)), hnil, hb3.grown (grownBy_putObj_t _ _ _) hb3.size (fun k e => by cases e; omega)⟩
set_option maxHeartbeats 1000000 in
theorem Try.collect_in (F : Fence) (n : Nat) (h29 : F.fn 29) (h34 : F.fn 34) (h31 : F.fn 31) (hro : F.round = none) (hn : 3 ≤ n) (zs : List aa) (hN : zs.length ≤ 1000000) (B : Nat) (w : World) (hH : Try.Holds w.heap.size w B zs) :
    CallsIn F n Try.prog 29 #[.func (.func 31) #[] #[.pointer (some ⟨B, 0, none⟩)]] w fun e w' => ∃ v : Value, e = .returned v ∧ w'.ownsRow w.heap.size 39 2 v zs.length (Try.cellsT zs) ∧ (v = .slice none 0 0 ↔ zs = []) ∧ Below w.heap.size w w' := by
  have h1 : 1 ≤ n := by omega
  refine callsIn_of_wp Try.func29 rfl h29 ?_ hro
  simp only [Try.ntmps29, List.size_toArray, List.length_cons, List.length_nil, Nat.reduceAdd, Nat.reduceSub, Array.replicate_succ, Array.replicate_zero, List.push_toArray, List.append_toArray, List.nil_append, List.cons_append]
  gi_wp2_with (gi_at_call 34; refine (Try.appendSeq_in F (n - 1) h34 h31 hro (by omega) zs hN B _ hH).mono ?_; rintro e w' ⟨v, rfl, hrow, hnil, hb⟩)
  go_ret
  exact ⟨v, rfl, hrow, hnil, hb⟩
theorem Try.collect (zs : List aa) (hN : zs.length ≤ 1000000) (B : Nat) (w : World) (hH : Try.Holds w.heap.size w B zs) :
    Calls Try.prog 29 #[.func (.func 31) #[] #[.pointer (some ⟨B, 0, none⟩)]] w fun e w' => ∃ v : Value, e = .returned v ∧ w'.ownsRow w.heap.size 39 2 v zs.length (Try.cellsT zs) ∧ (v = .slice none 0 0 ↔ zs = []) ∧ Below w.heap.size w w' :=
  callsIn_wide.1 (Try.collect_in Fence.wide 3 trivial trivial trivial rfl (Nat.le_refl _) zs hN B w hH)
end Go.Proofs
