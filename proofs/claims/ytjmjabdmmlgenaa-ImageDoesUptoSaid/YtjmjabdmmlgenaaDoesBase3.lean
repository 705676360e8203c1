/- Functions that defer one call of a closure that asks for panics. -/
import Derived.Test.YtjmjabdmmlgenaaDoesBase2
import Derived.Recover
set_option linter.all false
namespace Pam
open Go
structure Clo (P : Program) (cf : FuncId) (z : Code) (nz r5 r2 : Nat) : Prop where
 hf : ∃ (fz : Func) (j0 : Nat) (rc sa : Oper) (cl : Call), P.funcs[cf]? = some fz ∧ fz.body = some (.seq (.region j0 [rc, sa].toArray false) z) ∧ fz.ntmps = nz ∧ fz.results.toList = [] ∧ (fz.name == "runtime.NumGoroutine") = false ∧
  rc.op = .call cl ∧ cl.callee = .builtin .recover ∧ cl.args = #[] ∧ rc.dst = some r5 ∧ rc.guard = none ∧ sa.op = .assign (.tmp r5) ∧ sa.dst = some r2 ∧ sa.guard = none
 n5 : r5 < nz
 n2 : r2 < nz
 g5 : 2 ≤ r5
 g2 : 2 ≤ r2
 ne : r5 ≠ r2
theorem iO {o : Oper} (h : o.guard = none) (ops : Array Oper) (t : Array Value) : Region.wanted o (yielded ops t) = true := by
 unfold Region.wanted; rw [h]
def KG (K : Kt) : Kt := fun x E σ => ∃ E1 σ1, fY E σ E1 σ1 ∧ K x E1 σ1
theorem nr {P : Program} {cf : FuncId} {z : Code} {nz r5 r2 : Nat} (c : Clo P cf z nz r5 r2) {G : Gh} {σ : List OB} {w : World} {pa pb rp : PV} {va vb rv : Value} {u u2 : FrameMode} {KZ : Kt}
  (hrec : ∀ (c₀ : Frame) (cs : List Frame), c₀.mode = u → recoverD (c₀ :: cs) = some (rv, { c₀ with mode := u2 } :: cs) ∨ (recoverD (c₀ :: cs) = none ∧ rv = .nilIface ∧ u2 = u))
  (hi : Inv G σ w) (ha : aB G pa va) (hb : aB G pb vb) (hr : aB G rp rv)
  (hKe : ∀ i E σ, ¬ KZ (.exit i) E σ) (hKp : ∀ p E σ, ¬ KZ (.panic p) E σ)
  (hz : W P z (KG KZ) (Env.ofList nz σ.length [(r2, rp), (r5, rp), (0, pa), (1, pb)]) σ) :
  CallsD P cf #[va, vb] u w fun e u' w' => ∃ r G' E' σ', e = .returned r ∧ u' = u2 ∧ Gle G G' ∧ aY G.own G'.own ∧ Inv G' σ' w' ∧ (KZ .normal E' σ' ∨ KZ .ret E' σ') := by
 obtain ⟨fz, j0, rc, sa, cl, hf, hbd, hnt, hrs, hname, q1, q2, q3, q4, q5, q6, q7, q8⟩ := c.hf
 have c5 := c.n5
 have c2 := c.n2
 have d5 := c.g5
 have d2 := c.g2
 have dn := c.ne
 refine callsD_of_wpS hf hbd fun c₀ cs hm => ?_
 refine wpS_seq ?_
 refine wpS_region ?_
 have tm0 : ∀ (k : Nat) (v : Value), (#[va, vb] : Array Value)[k]? = some v → ((#[va, vb] ++ Array.replicate (fz.ntmps - 2) undef : Array Value)).getD k undef = v := fun k v h => by
  rw [Array.getD_eq_getD_getElem?, Array.getElem?_append_left (Array.getElem?_eq_some_iff.1 h).1, h]; rfl
 have hsz : ((#[va, vb] ++ Array.replicate (fz.ntmps - 2) undef : Array Value)).size = nz := by simp; omega
 generalize hT0 : (#[va, vb] ++ Array.replicate (fz.ntmps - 2) undef : Array Value) = T0 at tm0 hsz
 have hiz : Inv ({ G with w0 := { G.w0 with ds := [] }, na := σ.length } : Gh) σ w := ⟨hi.hH, hi.hF, hi.HF, hi.len, fun b ob h => by
   have := hi.own b ob h
   cases ob with
   | dead => exact this
   | box cs =>
    obtain ⟨o, c, T, h1, h2, h3, h4, h5⟩ := this
    exact ⟨o, c, T, h1, h2, h3, h4, h5.mono fun _ _ h => Rep.mono (G := G) (fun _ _ h => h) (aY.refl _) h⟩
   | arr => exact this, hi.inj, hi.sep, hi.os, hi.tape, hi.output, hi.grow⟩
 have hRz : ∀ p v, aB G p v → aB ({ G with w0 := { G.w0 with ds := [] }, na := σ.length } : Gh) p v := fun p v h => aB.mono (G := G) (fun _ _ h => h) (aY.refl _) h
 have hsim : Sim ({ G with w0 := { G.w0 with ds := [] }, na := σ.length } : Gh) (Env.ofList nz σ.length [(r2, rp), (r5, rp), (0, pa), (1, pb)]) σ { tmps := (T0.setIfInBounds r5 rv).setIfInBounds r2 rv, defers := [] } w := by
  refine ⟨hiz, rfl, by rw [(gE _ _ _).1]; simpa using hsz, by rw [(gE _ _ _).2], fun i hc => ?_⟩
  obtain ⟨p, h1, h2⟩ := jx.sim _ i hc
  rw [h2]
  have g : ∀ k, ((T0.setIfInBounds r5 rv).setIfInBounds r2 rv).getD k undef = if k = r2 ∨ k = r5 then rv else T0.getD k undef := fun k => by
   simp only [Array.getD_eq_getD_getElem?, Array.getElem?_setIfInBounds, Array.size_setIfInBounds, hsz]
   by_cases e2 : r2 = k
   ·subst e2; simp [c2]
   ·by_cases e5 : r5 = k
    ·subst e5; simp [e2, c5]
    ·simp [e2, e5, Ne.symm e2, Ne.symm e5]
  show aB _ p (((T0.setIfInBounds r5 rv).setIfInBounds r2 rv).getD i undef)
  rw [g]
  simp only [List.mem_cons, Prod.mk.injEq, List.not_mem_nil, or_false] at h1
  rcases h1 with ⟨rfl, rfl⟩ | ⟨rfl, rfl⟩ | ⟨rfl, rfl⟩ | ⟨rfl, rfl⟩
  ·rw [iP (.inl rfl)]; exact hRz _ _ hr
  ·rw [iP (.inr rfl)]; exact hRz _ _ hr
  ·rw [iN (by omega), tm0 0 va rfl]; exact hRz _ _ ha
  ·rw [iN (by omega), tm0 1 vb rfl]; exact hRz _ _ hb
 have hwp := hz _ _ w hsim
 have rest : z.wpS P (bodyPostS P fz c₀ cs fun e u' w' => ∃ r G' E' σ', e = .returned r ∧ u' = u2 ∧ Gle G G' ∧ aY G.own G'.own ∧ Inv G' σ' w' ∧ (KZ .normal E' σ' ∨ KZ .ret E' σ')) { tmps := (T0.setIfInBounds r5 rv).setIfInBounds r2 rv, defers := [] } ({ c₀ with mode := u2 } :: cs) w := by
  refine wpS_of_wp (Code.wp_mono (fun e a w' hp => ?_) hwp)
  obtain ⟨G0, E0, σ0, x, h1, h2, h3, E1, σ1, hgh, h4⟩ := hp
  obtain ⟨G1, hg1, h2⟩ := hgh _ _ _ h2
  have h1 := h1.trans hg1
  have fin : (KZ .normal E1 σ1 ∨ KZ .ret E1 σ1) → a.defers = [] ∧ ∃ u', ({ c₀ with mode := u2 } :: cs : List Frame) = { c₀ with mode := u' } :: cs ∧ ∃ v, (results fz a.tmps).run P w' = .ok v w' ∧
    ∃ r G' E' σ', (Ending.returned v) = .returned r ∧ u' = u2 ∧ Gle G G' ∧ aY G.own G'.own ∧ Inv G' σ' w' ∧ (KZ .normal E' σ' ∨ KZ .ret E' σ') := fun hk => by
   obtain ⟨v, k1, _⟩ := kv h2 hrs (C := True) (ps := []) rfl trivial rfl
   have hlen : ∀ b oo, G.own[b]? = some oo → b < σ.length := fun b oo h => by rw [← hi.len]; exact (List.getElem?_eq_some_iff.1 h).1
   have hol : aY G.own G1.own := fun b oo h => h1.own b oo (hlen b oo h) h
   refine ⟨h2.defers.trans (by rw [h1.le.w0]), u2, rfl, v, k1, v, { G1 with w0 := G.w0, na := G.na }, E1, σ1, rfl, rfl, ⟨⟨h1.le.H, h1.le.F, rfl, rfl⟩, .of_le hol⟩, hol, ?_, hk⟩
   have hw : G1.w0.toWorld = G.w0.toWorld := by rw [h1.le.w0]
   have h5 := h2.inv
   refine ⟨h5.hH, h5.hF, h5.HF, h5.len, fun b ob h => ?_, h5.inj, h5.sep, by show w'.os = G.w0.toWorld.os; rw [← hw]; exact h5.os, by show w'.tape = G.w0.toWorld.tape; rw [← hw]; exact h5.tape, by show w'.output = G.w0.toWorld.output; rw [← hw]; exact h5.output, by show G.w0.toWorld.heap.size ≤ _; rw [← hw]; exact h5.grow⟩
   have := h5.own b ob h
   cases ob with
   | dead => exact this
   | box cs =>
    obtain ⟨o, c, T, j1, j2, j3, j4, j5⟩ := this
    exact ⟨o, c, T, j1, j2, j3, j4, j5.mono fun _ _ h => Rep.mono (G := G1) (fun _ _ h => h) (aY.refl _) h⟩
   | arr => exact this
  cases x with
  | normal => cases h3; exact fin (.inl h4)
  | ret => cases h3; exact fin (.inr h4)
  | exit i => exact (hKe _ _ _ h4).elim
  | panic p => exact (hKp _ _ _ h4).elim
 have hT5 : (T0.setIfInBounds r5 rv).getD r5 undef = rv := by
  simp [Array.getD_eq_getD_getElem?, hsz, c5]
 have e0 : ∀ a : Act, (execOp a.eval rc).run P w = .ok .recover w := fun a => by
  simp [execOp, q1, resolve, q2, q3, invoke, builtin]
 have e1 : ∀ a : Act, (execOp a.eval sa).run P w = .ok (.value (a.tmps.getD r5 undef)) w := fun a => by
  simp only [execOp, q6]; rfl
 show wpOpsS P [rc, sa].toArray _ [0, 1] _ _ _
 simp only [wpOpsS, List.getElem?_toArray, List.getElem?_cons_zero, List.getElem?_cons_succ, iO q5, iO q8, if_true, e0, e1, q4, q7]
 rcases hrec c₀ cs hm with h | ⟨h, rfl, rfl⟩
 ·rw [h]
  simp only [Oper.upon, q7, Act.put, hT5]
  exact rest
 ·rw [h]
  simp only [Oper.upon, q7, Act.put, hT5]
  have hcc : ({ c₀ with mode := u2 } : Frame) = c₀ := by rw [← hm]
  rw [hcc] at rest
  exact rest
def KS (σ0 : List OB) : Kt
 | .normal, _, σ' => σ' = σ0
 | .ret, _, σ' => σ' = σ0
 | .exit _, _, _ => False
 | .panic _, _, _ => False
def KN (D : Env → List OB → Prop) : Kt
 | .normal, E, σ => D E σ
 | .ret, _, _ => False
 | .exit _, _, _ => False
 | .panic _, _, _ => False
def KZ (P : Program) (rs : List ResultVar) (post : PV → List OB → Prop) (E0 : Env) : Kt
 | .normal, _, σ' => (match dH P E0 σ' rs with | some (C, ps) => C ∧ ps.all PV.isV = true ∧ post (di ps) σ' | none => False)
 | .ret, _, σ' => (match dH P E0 σ' rs with | some (C, ps) => C ∧ ps.all PV.isV = true ∧ post (di ps) σ' | none => False)
 | .exit _, _, _ => False
 | .panic _, _, _ => False
def KD (P : Program) (z : Code) (nz r5 r2 : Nat) (rs : List ResultVar) (post : PV → List OB → Prop) (ba bb : Nat) : Kt
 | .normal, E, σ => (match dH P E σ rs with | some (C, ps) => C ∧ ps.all PV.isV = true ∧ post (di ps) σ | none => False)
 | .ret, E, σ => (match dH P E σ rs with | some (C, ps) => C ∧ ps.all PV.isV = true ∧ post (di ps) σ | none => False)
 | .exit _, _, _ => False
 | .panic p, E, σ => ∃ (l : List (Nat × PV)) (τ : List OB) (T : TypeId) (ns : List (IntKind × Int)), p = .c (.ifc T true (nsC ns)) ∧ s9 E σ l τ ∧
   W P z (KG (KZ P rs post (Env.ofList E.n E.na l))) (Env.ofList nz τ.length [(r2, p), (r5, p), (0, .c (.optr ba 0)), (1, .c (.optr bb 0))]) τ
theorem oP {G G' : Gh} {n b off : Nat} {v : Value} (h : aB G (.c (.optr b off)) v) (ho : iw n G.own G'.own) (hb : b < n) : aB G' (.c (.optr b off)) v := by
 obtain ⟨h1, oo, h2, h3⟩ : cP G (.optr b off) v := h
 obtain ⟨oo', q1, q2⟩ := ho b oo hb h2
 refine (show cP G' (.optr b off) v from ⟨h1, oo', q1, fun o' e hv => ?_⟩)
 obtain ⟨o, e2, e3⟩ := q2 o' e
 rcases e3 with rfl | e3
 ·exact h3 _ e2 hv
 ·omega
theorem Clo.invoke {P : Program} {cf : FuncId} {z : Code} {nz r5 r2 : Nat} (c : Clo P cf z nz r5 r2) (cap : Array Value) (w : World) : (Go.invoke (.fn (.func cf) cap) #[]).run P w = .ok (.enter cf cap) w := by
 obtain ⟨fz, j0, rc, sa, cl, hf, hbd, hnt, hrs, hname, _⟩ := c.hf
 have k2' : ¬ fz.body = none := by rw [hbd]; simp
 have k3' : ¬ fz.name = "runtime.NumGoroutine" := by simpa using hname
 simp [Go.invoke, callFunc, hf, k2', k3']
theorem pD {P : Program} {f : FuncId} {fn : Func} {i0 i1 : Nat} {l0 : List Oper} {mf df : Oper} {y z : Code} {cf : FuncId} {nz r5 r2 : Nat} {args : List PV} {σ : List OB} {post : PV → List OB → Prop} (n : Nat) (rs : List ResultVar) (ta tb t : Nat) (dc : Call)
  (hf : P.funcs[f]? = some fn) (hb : fn.body = some (.seq (.region i0 l0.toArray false) (.seq (.region i1 [mf, df].toArray false) y))) (hn : fn.ntmps = n) (hr : fn.results.toList = rs)
  (hname : (fn.name == "runtime.NumGoroutine") = false) (hlen : args.length ≤ n)
  (m1 : mf.op = .makeFunc (.func cf) #[] #[.tmp ta, .tmp tb]) (m2 : mf.dst = some t) (m3 : mf.guard = none)
  (d1 : df.op = .defer dc) (d2 : dc.callee = .value (.tmp t)) (d3 : dc.args = #[]) (d4 : df.dst = none) (d5 : df.guard = none)
  (c : Clo P cf z nz r5 r2) (hret : ∀ σ', W P z (KG (KS σ')) (Env.ofList nz σ'.length [(r2, .c .nili), (r5, .c .nili), (0, .x), (1, .x)]) σ')
  (h0 : W P (.region i0 l0.toArray false) (KN fun E σ1 => ∃ ba bb, E.get ta = ⟨true, .c (.optr ba 0)⟩ ∧ E.get tb = ⟨true, .c (.optr bb 0)⟩ ∧ ba < σ1.length ∧ bb < σ1.length ∧ t < E.n ∧
   W P y (KD P z nz r5 r2 rs post ba bb) { E.put t ⟨true, .x⟩ with na := σ1.length } σ1) (Env.ofList n σ.length (gb 0 args)) σ) :
  gv P f args σ post (fun _ _ => False) := by
 refine ⟨⟨fn, hf, by rw [hb]; rfl, hname⟩, fun G w vs hna hds hi hargs => ?_⟩
 have hl := hargs.length
 refine calls_of_wp_defers hf hb ?_
 have hs : Sim G (Env.ofList n σ.length (gb 0 args)) σ { tmps := vs.toArray ++ Array.replicate (fn.ntmps - vs.toArray.size) undef, defers := [] } w := by
  refine ⟨hi, hds.symm, by rw [(gE _ _ _).1, hn]; simp; omega, by rw [(gE _ _ _).2]; exact hna, fun i hc => ?_⟩
  obtain ⟨p, h1, h2⟩ := jx.sim _ i hc
  rw [h2]
  obtain ⟨_, h3⟩ := jl args 0 i p h1
  simp only [Nat.sub_zero] at h3
  obtain ⟨v, hv, hrep⟩ := hargs.get i p h3
  have hlt : i < vs.length := (List.getElem?_eq_some_iff.1 hv).1
  have : (vs.toArray ++ Array.replicate (fn.ntmps - vs.toArray.size) undef).getD i undef = v := by
   rw [Array.getD_eq_getD_getElem?, Array.getElem?_append_left (by simpa using hlt)]
   simp [hv]
  simp only [this]
  exact hrep
 refine wp_seq (Code.wp_mono (fun e a1 w1 hp => ?_) (h0 G _ w hs))
 obtain ⟨G1, E1, σ1, x, p1, p2, p3, p4⟩ := hp
 cases x with
 | ret => exact p4.elim
 | exit i => exact p4.elim
 | panic p => exact p4.elim
 | normal =>
 cases p3
 obtain ⟨ba, bb, ea, eb, hba, hbb, ht, hy⟩ := p4
 show (Code.seq (.region i1 [mf, df].toArray false) y).wp P _ a1 w1
 refine wp_seq (wp_region ?_)
 have hads : a1.defers = [] := p2.defers.trans (by rw [p1.le.w0]; exact hds)
 obtain ⟨va, hva⟩ : ∃ va, va = a1.tmps.getD ta undef := ⟨_, rfl⟩
 obtain ⟨vb, hvb⟩ : ∃ vb, vb = a1.tmps.getD tb undef := ⟨_, rfl⟩
 have ra : aB G1 (.c (.optr ba 0)) va := by have := p2.slot ta (by rw [ea]); rw [ea] at this; rw [hva]; exact this
 have rb : aB G1 (.c (.optr bb 0)) vb := by have := p2.slot tb (by rw [eb]); rw [eb] at this; rw [hvb]; exact this
 have e0 : (execOp a1.eval mf).run P w1 = .ok (.value (.func (.func cf) #[] #[va, vb])) w1 := by
  simp [execOp, m1, Instr.makeFunc, hva, hvb, Act.eval]
 have hts : t < a1.tmps.size := by rw [p2.size]; exact ht
 have e1 : (execOp ({ a1 with tmps := a1.tmps.setIfInBounds t (.func (.func cf) #[] #[va, vb]) } : Act).eval df).run P w1 = .ok (.defer { target := .fn (.func cf) #[va, vb], args := #[] }) w1 := by
  have : ({ a1 with tmps := a1.tmps.setIfInBounds t (.func (.func cf) #[] #[va, vb]) } : Act).eval (.tmp t) = .func (.func cf) #[] #[va, vb] := by
   simp [Act.eval, Array.getD_eq_getD_getElem?, hts]
  simp [execOp, d1, resolve, d2, d3, this, Deferred.ofValue]
 show wpOps P [mf, df].toArray _ [0, 1] a1 w1
 simp only [wpOps, List.getElem?_toArray, List.getElem?_cons_zero, List.getElem?_cons_succ, iO m3, iO d5, if_true, Oper.wp, e0, Oper.upon, m2, Act.put, e1, d4]
 left
 left
 have hlen1 : G1.own.length = σ1.length := p2.inv.len
 have h2 : Sim ({ G1 with w0 := { G1.w0 with ds := [{ target := .fn (.func cf) #[va, vb], args := #[] }] }, na := σ1.length } : Gh) { E1.put t ⟨true, .x⟩ with na := σ1.length } σ1
   { tmps := a1.tmps.setIfInBounds t (.func (.func cf) #[] #[va, vb]), defers := { target := .fn (.func cf) #[va, vb], args := #[] } :: a1.defers } w1 := by
  have q := p2.put t ht ⟨true, .x⟩ (.func (.func cf) #[] #[va, vb]) fun _ => trivial
  have qi := p2.inv
  refine ⟨⟨qi.hH, qi.hF, qi.HF, qi.len, fun b ob h => ?_, qi.inj, qi.sep, qi.os, qi.tape, qi.output, qi.grow⟩, by rw [hads], by have := q.size; simpa [Act.put] using this, rfl, fun i hc => ?_⟩
  ·have := qi.own b ob h
   cases ob with
   | dead => exact this
   | box cs =>
    obtain ⟨o, c, T, j1, j2, j3, j4, j5⟩ := this
    exact ⟨o, c, T, j1, j2, j3, j4, j5.mono fun _ _ h => Rep.mono (G := G1) (fun _ _ h => h) (aY.refl _) h⟩
   | arr => exact this
  ·exact aB.mono (G := G1) (fun _ _ h => h) (aY.refl _) (q.slot i hc)
 refine Code.wp_mono (fun e a w' hp => ?_) (hy _ _ w1 h2)
 obtain ⟨G3, E3, σ3, x, r1, r2', r3, r4⟩ := hp
 have hd3 : a.defers = [{ target := .fn (.func cf) #[va, vb], args := #[] }] := r2'.defers.trans (by rw [r1.le.w0])
 have fin : ∀ (G3 : Gh) (E3 : Env) (σ3 : List OB), Gle ({ G1 with w0 := { G1.w0 with ds := [{ target := .fn (.func cf) #[va, vb], args := #[] }] }, na := σ1.length } : Gh) G3 → Sim G3 E3 σ3 a w' → ∀ (G4 : Gh) (σ4 : List OB) (w4 : World) (C : Prop) (ps : List PV), Gle G3 G4 → aY G3.own G4.own → Inv G4 σ4 w4 → dH P E3 σ4 rs = some (C, ps) → C → ps.all PV.isV = true → post (di ps) σ4 →
   Leaves P fn a.tmps (fun e w' => ∃ G' σ' p v, Gle G G' ∧ Inv G' σ' w' ∧ aB G' p v ∧ ((e = .returned v ∧ post p σ') ∨ (e = .panicked [{ v := v, recovered := false }] ∧ False))) [] .returning w4 := by
  intro G3 E3 σ3 r1 r2' G4 σ4 w4 C ps t1 t2 t3 t4 t5 t6 t7
  have hs4 : Sim G4 E3 σ4 a w4 := r2'.ghost t3 t1.le.H t1.le.w0 t1.le.na t2
  obtain ⟨v, k1, k2⟩ := kv hs4 hr t4 t5 t6
  refine ⟨v, k1, { G4 with w0 := G.w0, na := G.na }, σ4, di ps, v, ⟨⟨fun b o h => t1.le.H _ _ (r1.le.H _ _ (p1.le.H _ _ h)), ?_, rfl, rfl⟩, ?_⟩, ?_, aB.mono (G := G4) (fun _ _ h => h) (aY.refl _) k2, .inl ⟨rfl, t7⟩⟩
  ·exact t1.le.F.trans (r1.le.F.trans p1.le.F)
  ·intro b oo hbn hbo
   obtain ⟨o1, u1, u2⟩ := p1.own b oo hbn hbo
   have hb1 : b < σ1.length := by rw [← hlen1]; exact (List.getElem?_eq_some_iff.1 u1).1
   obtain ⟨o3, u3, u4⟩ := r1.own b o1 hb1 u1
   obtain ⟨o4, u5, u6⟩ := t2 b o3 u3
   refine ⟨o4, u5, fun o' eo => ?_⟩
   obtain ⟨oa, w1', w2'⟩ := u6 o' eo
   obtain ⟨ob, w3', w4'⟩ := u4 oa w1'
   obtain ⟨oc, w5', w6'⟩ := u2 ob w3'
   refine ⟨oc, w5', ?_⟩
   rcases w2' with rfl | w2' <;> rcases w4' with rfl | w4' <;> rcases w6' with rfl | w6'
   ·exact .inl rfl
   all_goals first | exact .inr (by omega) | exact .inr w6' | exact .inr w4' | exact .inr w2'
  ·have hw : G4.w0.toWorld = G.w0.toWorld := by
    rw [t1.le.w0, r1.le.w0]
    show G1.w0.toWorld = G.w0.toWorld
    rw [p1.le.w0]
   have h5 := t3
   refine ⟨h5.hH, h5.hF, h5.HF, h5.len, fun b ob h => ?_, h5.inj, h5.sep, by show w4.os = G.w0.toWorld.os; rw [← hw]; exact h5.os, by show w4.tape = G.w0.toWorld.tape; rw [← hw]; exact h5.tape, by show w4.output = G.w0.toWorld.output; rw [← hw]; exact h5.output, by show G.w0.toWorld.heap.size ≤ _; rw [← hw]; exact h5.grow⟩
   have := h5.own b ob h
   cases ob with
   | dead => exact this
   | box cs =>
    obtain ⟨o, c, T, j1, j2, j3, j4, j5⟩ := this
    exact ⟨o, c, T, j1, j2, j3, j4, j5.mono fun _ _ h => Rep.mono (G := G4) (fun _ _ h => h) (aY.refl _) h⟩
   | arr => exact this
 have normal : (match dH P E3 σ3 rs with | some (C, ps) => C ∧ ps.all PV.isV = true ∧ post (di ps) σ3 | none => False) →
   Leaves P fn a.tmps (fun e w' => ∃ G' σ' p v, Gle G G' ∧ Inv G' σ' w' ∧ aB G' p v ∧ ((e = .returned v ∧ post p σ') ∨ (e = .panicked [{ v := v, recovered := false }] ∧ False))) a.defers .returning w' := by
  intro hk
  split at hk
  ·rename_i C ps hres
   obtain ⟨hC, hv, hpost⟩ := hk
   rw [hd3]
   refine leaves_cons (by intro h; cases h) (c.invoke _ _) (CallsD.mono (nr c (u := .returning) (u2 := .returning) (rv := .nilIface) (rp := .c .nili) (pa := .x) (pb := .x) (KZ := KS σ3)
    (fun c₀ cs h => .inr ⟨by simp [recoverD, h], rfl, rfl⟩) r2'.inv trivial trivial (aM.rep .nili) (fun _ _ _ h => h) (fun _ _ _ h => h) (hret σ3)) fun e u' w4 hq => ?_)
   obtain ⟨r, G4, E4, σ4, rfl, rfl, t1, t2, t3, t4⟩ := hq
   have : σ4 = σ3 := by rcases t4 with h | h <;> exact h
   subst this
   exact fin G3 E3 _ r1 r2' G4 _ w4 C ps t1 t2 t3 hres hC hv hpost
  ·exact hk.elim
 cases x with
 | normal => cases r3; exact normal r4
 | ret => cases r3; exact normal r4
 | exit i => exact r4.elim
 | panic p =>
  obtain ⟨v, rfl, hv⟩ := r3
  obtain ⟨l, τ, T, ns, rfl, hless, hz⟩ := r4
  have hv' := n6 hv
  obtain ⟨G3', q1, q2⟩ := hless.sim r2'
  have hle3 := r1.trans q1
  have ra3 : aB G3' (.c (.optr ba 0)) va := oP (G := { G1 with w0 := { G1.w0 with ds := [{ target := .fn (.func cf) #[va, vb], args := #[] }] }, na := σ1.length }) (aB.mono (G := G1) (fun _ _ h => h) (aY.refl _) ra) hle3.own hba
  have rb3 : aB G3' (.c (.optr bb 0)) vb := oP (G := { G1 with w0 := { G1.w0 with ds := [{ target := .fn (.func cf) #[va, vb], args := #[] }] }, na := σ1.length }) (aB.mono (G := G1) (fun _ _ h => h) (aY.refl _) rb) hle3.own hbb
  have hv3 : aB G3' (.c (.ifc T true (nsC ns))) v := by rw [hv']; exact aM.rep (.ifc T ns)
  show Leaves P fn a.tmps _ a.defers (.panicking [{ v := v, recovered := false }]) w'
  rw [hd3]
  refine leaves_cons (by intro h; cases h) (c.invoke _ _) (CallsD.mono (nr c (u := .panicking [{ v := v, recovered := false }]) (u2 := .panicking [{ v := v, recovered := true }]) (rv := v) (rp := .c (.ifc T true (nsC ns))) (KZ := KZ P rs post (Env.ofList E3.n E3.na l))
   (fun c₀ cs h => .inl (by simp [recoverD, h])) q2.inv ra3 rb3 hv3 (fun _ _ _ h => h) (fun _ _ _ h => h) hz) fun e u' w4 hq => ?_)
  obtain ⟨r, G4, E4, σ4, rfl, rfl, t1, t2, t3, t4⟩ := hq
  have t5 : (match dH P (Env.ofList E3.n E3.na l) σ4 rs with | some (C, ps) => C ∧ ps.all PV.isV = true ∧ post (di ps) σ4 | none => False) := by rcases t4 with h | h <;> exact h
  split at t5
  ·rename_i C ps hres
   exact fin G3' _ τ hle3 q2 G4 _ w4 C ps t1 t2 t3 hres t5.1 t5.2.1 t5.2.2
  ·exact t5.elim
theorem uC {K : Kt} {x : PX} {E E1 : Env} {σ σ1 : List OB} (hg : fY E σ E1 σ1) (h : KG K x E1 σ1) : KG K x E σ := by
 obtain ⟨E2, σ2, g, k⟩ := h
 exact ⟨E2, σ2, hg.trans g, k⟩
theorem sU {K : Kt} {x : PX} {E : Env} {σ : List OB} (h : K x E σ) : KG K x E σ := ⟨E, σ, fY.refl E σ, h⟩
theorem to {P : Program} {rs : List ResultVar} {post : PV → List OB → Prop} {E0 E : Env} {σ : List OB} (h : i5 P rs post (fun _ _ => False) .normal E0 σ) : KZ P rs post E0 .normal E σ := h
theorem ln {P : Program} {z : Code} {nz r5 r2 : Nat} {rs : List ResultVar} {post : PV → List OB → Prop} {ba bb : Nat} {E : Env} {σ : List OB} (h : i5 P rs post (fun _ _ => False) .ret E σ) : KD P z nz r5 r2 rs post ba bb .ret E σ := h
end Pam
