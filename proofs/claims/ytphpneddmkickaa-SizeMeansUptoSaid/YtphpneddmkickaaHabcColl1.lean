/- slices.Collect of slices.Values of terms, in the layer's words -/
import Derived.Test.YtphpneddmkickaaHabcRng1
import Derived.Test.YtphpneddmkickaaHBase3
set_option linter.all false
namespace Pam
open Go Go.Proofs
theorem cellsT_get {l : List aa} {i : Nat} {x : aa} (h : l[i]? = some x) : (Try.cellsT l)[i * 2]? = some (.int .i64 x.n) ∧ (Try.cellsT l)[i * 2 + 1]? = some (.string ⟨x.name.toArray⟩) := by
  induction l generalizing i with
  | nil => simp at h
  | cons y l ih =>
    have e : Try.cellsT (y :: l) = .int .i64 y.n :: .string ⟨y.name.toArray⟩ :: Try.cellsT l := by simp [Try.cellsT]
    cases i with
    | zero =>
      simp only [List.getElem?_cons_zero, Option.some.injEq] at h
      subst h
      rw [e]
      exact ⟨rfl, rfl⟩
    | succ i =>
      have := ih (i := i) (by simpa using h)
      rw [e, show (i + 1) * 2 = i * 2 + 1 + 1 by omega]
      simpa using this
theorem collect_spec (p1 : List aa) (h : p1.length ≤ 1000000) : gD Try.prog 29 [.c (.fn 31 [.optr 0 0])] [.box [.tree 2 (p1.map aa.enc)]] (fun p σ => (p = .c (.osl 1 0 0 p1.length) ∧ σ = [.box [.tree 2 (p1.map aa.enc)], .arr 2 0 39 (p1.map aa.enc)])) (fun _ _ => False) := by
  refine ⟨⟨_, Try.func29, rfl, by kernel_rfl⟩, fun G w vs hna _ hi hargs => ?_⟩
  match vs, hargs with
  | [v], ⟨hv, _⟩ =>
  obtain ⟨us, rfl, hus⟩ := hv
  match us, hus with
  | [u], ⟨hu, _⟩ =>
  obtain ⟨hu1, oo, hoo, hu2⟩ := hu
  have hok := hi.own 0 _ rfl
  obtain ⟨o, c, T, ho, hhas, hver, hblk, hcs⟩ := hok
  rw [ho] at hoo
  simp only [Option.some.injEq] at hoo
  subst hoo
  have hu3 := hu2 o rfl hver
  subst hu3
  obtain ⟨u1, hc1⟩ : ∃ u1, c = #[u1] := by
    have hl := hcs.length
    simp at hl
    obtain ⟨u1, hl⟩ := List.length_eq_one_iff.1 (by simpa using hl.symm : c.toList.length = 1)
    exact ⟨u1, by apply Array.ext'; simpa using hl⟩
  subst hc1
  have hr : be G.H (.tree 2 (p1.map aa.enc)) u1 := hcs.1
  have hcell : w.cell? ⟨o.blk, 0, none⟩ = some u1 := by unfold World.cell?; rw [hblk]; rfl
  have hlt : o.blk < w.heap.size := (Array.getElem?_eq_some_iff.1 hblk).1
  have hH : Try.Holds w.heap.size w o.blk p1 := by
    refine ⟨hlt, ?_⟩
    generalize hes : p1.map aa.enc = es at hr
    cases hr with
    | tree0 _ ad cap _ =>
      left
      exact ⟨ad, cap, hcell, by simpa using hes⟩
    | tree _ _ blk off cap cc T' fz g hb hcap hlen hc hrep =>
      right
      subst hes
      have hw := hi.hH _ _ hb
      have hbl : blk < w.heap.size := (Array.getElem?_eq_some_iff.1 hw).1
      have cellq : ∀ k, w.cell? ⟨blk, k, none⟩ = cc[k]? := fun k => by unfold World.cell?; rw [hw]; rfl
      refine ⟨blk, off, cap, by rw [List.length_map] at hcell; exact hcell, hbl, fun j hj => ?_, fun j hj => ?_⟩
      · obtain ⟨x, hx⟩ : ∃ x, p1[j]? = some x := ⟨_, List.getElem?_eq_getElem hj⟩
        have e1 : (p1.map aa.enc)[j]? = some (aa.enc x) := by rw [List.getElem?_map, hx]; rfl
        have h1 := hc j 0 _ (.int .i64 x.n) e1 rfl
        have h2 := hrep j 0 _ (.int .i64 x.n) e1 rfl
        rw [List.getD_eq_getElem?_getD, hx, cellq]
        rw [Nat.add_zero] at h1
        rw [h1]
        generalize g j 0 = y at h2
        cases h2
        rfl
      · obtain ⟨x, hx⟩ : ∃ x, p1[j]? = some x := ⟨_, List.getElem?_eq_getElem hj⟩
        have e1 : (p1.map aa.enc)[j]? = some (aa.enc x) := by rw [List.getElem?_map, hx]; rfl
        have h1 := hc j 1 _ (.str x.name) e1 rfl
        have h2 := hrep j 1 _ (.str x.name) e1 rfl
        rw [List.getD_eq_getElem?_getD, hx, cellq, h1]
        generalize g j 1 = y at h2
        cases h2
        rfl
  refine (Try.collect p1 h o.blk w hH).mono ?_
  rintro e w' ⟨v, rfl, ⟨hrl, hrow⟩, hnil, hb⟩
  have own0 : ∀ (b : Nat) (ob : OB), [OB.box [.tree 2 (p1.map aa.enc)]][b]? = some ob → b = 0 ∧ ob = .box [.tree 2 (p1.map aa.enc)] := fun b ob hb => by
    cases b with
    | zero => exact ⟨rfl, by simpa using hb.symm⟩
    | succ b => simp at hb
  have inv' : ∀ (wf : World), (∀ k, k < w.heap.size → wf.heap[k]? = w.heap[k]?) → w.heap.size ≤ wf.heap.size → wf.os = w.os → wf.tape = w.tape → wf.output = w.output → Inv G [.box [.tree 2 (p1.map aa.enc)]] wf := by
    intro wf hold hsz h1 h2 h3
    have keep : ∀ (b : Nat) (x : Obj), w.heap[b]? = some x → wf.heap[b]? = some x := fun b x hx => (hold b (Array.getElem?_eq_some_iff.1 hx).1).trans hx
    refine ⟨fun b x hx => keep b x (hi.hH b x hx), fun b x hx => keep b x (hi.hF b x hx), hi.HF, hi.len, fun b ob hob => ?_, hi.inj, hi.sep, h1.trans hi.os, h2.trans hi.tape, h3.trans hi.output, Nat.le_trans hi.grow hsz⟩
    refine (hi.own b ob hob).keep (fun _ _ h => h) (bt.refl _) rfl (fun o' ho' hh => ?_)
    obtain ⟨rfl, _⟩ := own0 b ob hob
    rw [ho] at ho'
    simp only [Option.some.injEq] at ho'
    subst ho'
    exact hold _ hlt
  have hlast : ∀ og : OG, (G.own ++ [some og])[1]? = some (some og) := fun og => by
    have := hi.len
    simp only [List.length_singleton] at this
    rw [List.getElem?_append_right (by omega), this]
    rfl
  have hle : ∀ og : OG, bt G.own (G.own ++ [some og]) := fun og => bt.append _ _
  have rowlen : ∀ e ∈ p1.map aa.enc, e.length = 2 := fun e he => by
    obtain ⟨x, _, rfl⟩ := List.mem_map.1 he
    rfl
  rcases hrow with ⟨rfl, h0⟩ | ⟨g, cap, cur, rfl, hbase, hg, hnc, hcm, hcsz, htake⟩
  ·
    have hp : p1 = [] := List.length_eq_zero_iff.1 h0
    have key := (inv' w' hb.block hb.size hb.os hb.tape hb.output).push (w' := w') (.arr 2 0 39 (p1.map aa.enc)) ⟨0, 2, 0, 0, false⟩ (Nat.le_refl _) (fun _ _ => rfl) (fun h => by cases h) rfl rfl rfl
      ⟨_, hlast _, rfl, rfl, by decide, by simp [hp], by simp [maxLen], rowlen, (fun _ => rfl), (fun h => by cases h)⟩
    refine ⟨{ G with own := G.own ++ [some ⟨0, 2, 0, 0, false⟩] }, _, .c (.osl 1 0 0 p1.length), _, Gle.mk' ⟨fun _ _ h => h, rfl, rfl, rfl⟩ (hle _), key, ?_, .inl ⟨rfl, rfl, rfl⟩⟩
    refine ⟨rfl, _, hlast _, fun o' e => ?_⟩
    simp only [Option.some.injEq] at e
    subst e
    exact ⟨Nat.le_refl _, fun _ => ⟨by simp [hp], none, by simp [hp], fun h => by cases h⟩⟩
  · have hgl : g < w'.heap.size := (Array.getElem?_eq_some_iff.1 hg).1
    obtain ⟨wf, hwf⟩ : ∃ wf : World, wf = { w' with heap := w'.heap.extract 0 g } := ⟨_, rfl⟩
    have hfs : wf.heap.size = g := by rw [hwf]; simp; omega
    have hfo : ∀ k, k < g → wf.heap[k]? = w'.heap[k]? := fun k hk => by
      rw [hwf]
      simp only [Array.getElem?_extract]
      rw [if_pos (by omega), Nat.zero_add]
    have hfw : Inv G [.box [.tree 2 (p1.map aa.enc)]] wf := inv' wf (fun k hk => (hfo k (by omega)).trans (hb.block k hk)) (by omega) (by rw [hwf]; exact hb.os) (by rw [hwf]; exact hb.tape) (by rw [hwf]; exact hb.output)
    have hcells : ∀ (i j : Nat) (e : List CV) (x : CV), (p1.map aa.enc)[i]? = some e → e[j]? = some x → ∃ v, cur[i * 2 + j]? = some v ∧ be G.H x v := by
      intro i j e x he hx
      rw [List.getElem?_map] at he
      cases hp : p1[i]? with
      | none => rw [hp] at he; cases he
      | some t =>
        rw [hp] at he
        simp only [Option.map_some, Option.some.injEq] at he
        subst he
        have hil : i < p1.length := (List.getElem?_eq_some_iff.1 hp).1
        obtain ⟨q0, q1⟩ := cellsT_get hp
        rw [← htake] at q0 q1
        rw [List.getElem?_take_of_lt (by omega), Array.getElem?_toList] at q0 q1
        match j, hx with
        | 0, hx =>
          obtain rfl : CV.int .i64 t.n = x := by simpa [aa.enc] using hx
          exact ⟨_, q0, .int _ _⟩
        | 1, hx =>
          obtain rfl : CV.str t.name = x := by simpa [aa.enc] using hx
          exact ⟨_, q1, .str _⟩
        | j + 2, hx => simp [aa.enc] at hx
    have key := hfw.push (w' := w') (.arr 2 0 39 (p1.map aa.enc)) ⟨g, 2, cap, 0, true⟩ (by omega) (fun k hk => (hfo k (by omega)).symm) (fun _ => hfs.symm) (by rw [hwf]) (by rw [hwf]) (by rw [hwf])
      ⟨_, hlast _, rfl, rfl, by decide, by simpa using hnc, hcm, rowlen, (fun h => by cases h), fun _ => ⟨cur, (0, 0), hg, .inl rfl, hcsz, hcells⟩⟩
    refine ⟨{ G with own := G.own ++ [some ⟨g, 2, cap, 0, true⟩] }, _, .c (.osl 1 0 0 p1.length), _, Gle.mk' ⟨fun _ _ h => h, rfl, rfl, rfl⟩ (hle _), key, ?_, .inl ⟨rfl, rfl, rfl⟩⟩
    refine ⟨rfl, _, hlast _, fun o' e => ?_⟩
    simp only [Option.some.injEq] at e
    subst e
    exact ⟨Nat.le_refl _, fun _ => ⟨(by simp only; omega), some ⟨g, 0, none⟩, rfl, fun _ => ⟨_, rfl, fun _ => by simp⟩⟩⟩
end Pam
