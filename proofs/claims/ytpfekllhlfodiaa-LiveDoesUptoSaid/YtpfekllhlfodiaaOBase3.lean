/- Regions whose order is open, with stores into own boxes that nothing else in the region looks at: such a store need not be ordered with what makes no sound. -/
import Derived.Test.YtpfekllhlfodiaaOBase2
set_option linter.all false
namespace Pam
open Go
def zo (pv : List Nat) (p : PV) : Bool := match ot p with | some b => !pv.contains b | none => true
def lS (pv : List Nat) (σ σ' : List OB) : Prop := σ.length ≤ σ'.length ∧ ∀ b, b ∉ pv → b < σ.length → σ'[b]? = σ[b]?
theorem lS.refl (pv : List Nat) (σ : List OB) : lS pv σ σ := ⟨Nat.le_refl _, fun _ _ _ => rfl⟩
theorem lS.trans {pv : List Nat} {σ σ' σ'' : List OB} (h : lS pv σ σ') (h' : lS pv σ' σ'') : lS pv σ σ'' :=
  ⟨Nat.le_trans h.1 h'.1, fun b hb hl => (h'.2 b hb (Nat.lt_of_lt_of_le hl h.1)).trans (h.2 b hb hl)⟩
theorem lS.of_ext {pv : List Nat} {σ σ' : List OB} (h : Ext σ σ') : lS pv σ σ' := by
  obtain ⟨ρ, rfl⟩ := h
  exact ⟨by simp, fun b _ hb => List.getElem?_append_left hb⟩
def Au (ops : Array Oper) (l : List Oper) (masks : List Nat) (bar prv : List Bool) (rd : List (List Nat)) : Bool :=
  chk ops l masks bar &&
  (l.zipIdx.all fun (x, i) => ck x || (x.looksAt ops).all (fun t => (rd.getD i []).contains t) || l.zipIdx.all fun (_, j) => !(prv.getD j false) || qc masks i j)
def w4 (P : Program) (ops : Array Oper) (pv : List Nat) (E : Env) (σ : List OB) (o : Oper) (bar prv : Bool) (rd : List Nat) (ts : TS) : Prop :=
  eh ops E o.guard = some ts.γ ∧ eM E o.dst ∧
  ((∃ C v, bO P ts.γ E σ o.op = .ok C v ∧ C ∧ (rd.all fun t => zo pv (E.get t).v) = true ∧ ts.e = ⟨ts.γ, v⟩ ∧ ts.σ = σ) ∨
   (ts.γ = true ∧ ∃ C v, bO P ts.γ E σ o.op = .upd C v ts.σ ∧ C ∧ ts.e = ⟨true, v⟩ ∧ (bar = true ∨ Ext σ ts.σ ∨ (prv = true ∧ lS pv σ ts.σ))) ∨
   (∃ C f args r, bO P ts.γ E σ o.op = .call C f args ∧ (ts.γ = true → C ∧ bU P f args r) ∧ args.all PV.noOwn = true ∧ (∀ n, r.ren (d5 n []) = r) ∧ ts.e = ⟨ts.γ, r⟩ ∧ ts.σ = σ) ∨
   (ts.γ = false ∧ ts.e = ⟨true, .t []⟩ ∧ ts.σ = σ) ∨
   (ts.γ = true ∧ ∃ C f args p, bO P ts.γ E σ o.op = .call C f args ∧ C ∧ rB P σ f args p ts.σ ∧ ts.e = ⟨true, p⟩ ∧ (bar = true ∨ Ext σ ts.σ)))
def mZ (P : Program) (ops : Array Oper) (pv : List Nat) : List Oper → List Bool → List Bool → List (List Nat) → Env → List OB → List TS → Prop
  | [], _, _, _, _, _, tr => tr = []
  | o :: l, bs, ps, rd, E, σ, tr => ∃ ts r, tr = ts :: r ∧ w4 P ops pv E σ o (bs.headD false) (ps.headD false) (rd.headD []) ts ∧ mZ P ops pv l bs.tail ps.tail rd.tail (E.putD o.dst ts.e) ts.σ r
section
variable {P : Program} {ops : Array Oper} {pv : List Nat}
theorem mZ.at : ∀ {l : List Oper} {bs ps : List Bool} {rd : List (List Nat)} {E : Env} {σ : List OB} {tr : List TS}, mZ P ops pv l bs ps rd E σ tr → tr.length = l.length ∧
    ∀ (i : Nat) (o : Oper), l[i]? = some o → ∃ ts, tr[i]? = some ts ∧ w4 P ops pv (cm E l tr i) (aR σ tr i) o (bs.getD i false) (ps.getD i false) (rd.getD i []) ts ∧ aR σ tr (i + 1) = ts.σ
  | [], bs, ps, rd, E, σ, tr, h => by simp only [mZ] at h; subst h; exact ⟨rfl, fun i o h => by simp at h⟩
  | o :: l, bs, ps, rd, E, σ, tr, h => by
    obtain ⟨ts, r, rfl, h1, h2⟩ := h
    obtain ⟨h3, h4⟩ := mZ.at h2
    refine ⟨by simp [h3], fun i o' ho => ?_⟩
    cases i with
    | zero =>
      simp only [List.getElem?_cons_zero, Option.some.injEq] at ho
      subst ho
      refine ⟨ts, rfl, ?_, ?_⟩
      · cases bs <;> cases ps <;> cases rd <;> exact h1
      · cases r <;> rfl
    | succ i =>
      obtain ⟨ts', k1, k2, k3⟩ := h4 i o' (by simpa using ho)
      refine ⟨ts', by simpa using k1, ?_, ?_⟩
      · cases bs <;> cases ps <;> cases rd <;> simpa [cm, aR] using k2
      · simpa [aR] using k3
theorem pq {σ : List OB} {tr : List TS} (l : List Oper) (hlen : tr.length = l.length) (p : Nat) : ∀ (q : Nat), p ≤ q → q ≤ l.length → (∀ j, p ≤ j → j < q → lS pv (aR σ tr j) (aR σ tr (j + 1))) → lS pv (aR σ tr p) (aR σ tr q)
  | 0, h, _, _ => by have : p = 0 := by omega
                     subst this; exact lS.refl _ _
  | q + 1, h, hq, he => by
    by_cases e : p = q + 1
    · subst e; exact lS.refl _ _
    · exact (pq l hlen p q (by omega) (by omega) fun j h1 h2 => he j h1 (by omega)).trans (he q (by omega) (by omega))
theorem pr {l : List Oper} {bs ps : List Bool} {rd : List (List Nat)} {E : Env} {σ : List OB} {tr : List TS} (ht : mZ P ops pv l bs ps rd E σ tr) {j : Nat} {o : Oper} (ho : l[j]? = some o) (hq : ck o = false) : aR σ tr (j + 1) = aR σ tr j := by
  obtain ⟨_, h⟩ := ht.at
  obtain ⟨ts, _, h2, h3⟩ := h j o ho
  rw [h3]
  obtain ⟨q1, q2⟩ := lk (P := P) (γ := ts.γ) (E := cm E l tr j) (σ := aR σ tr j) hq
  rcases h2.2.2 with ⟨_, _, _, _, _, _, h⟩ | ⟨_, C, v, h, _⟩ | ⟨C, f, args, r, h, _⟩ | ⟨_, _, h⟩ | ⟨_, C, f, args, p, h, _⟩
  · exact h
  · exact (q1 _ _ _ h).elim
  · exact (q2 _ _ _ h).elim
  · exact h
  · exact (q2 _ _ _ h).elim
theorem qF {l : List Oper} {bs ps : List Bool} {rd : List (List Nat)} {E : Env} {σ : List OB} {tr : List TS} (ht : mZ P ops pv l bs ps rd E σ tr) {p q : Nat} (hpq : p ≤ q) (hq : q ≤ l.length)
    (h : ∀ (j : Nat) (o : Oper), l[j]? = some o → p ≤ j → j < q → ck o = false) : aR σ tr q = aR σ tr p := by
  induction q with
  | zero => have : p = 0 := by omega
            subst this; rfl
  | succ q ih =>
    by_cases e : p = q + 1
    · subst e; rfl
    · have hl : q < l.length := by omega
      rw [pr ht (List.getElem?_eq_getElem hl) (h q _ (List.getElem?_eq_getElem hl) (by omega) (by omega))]
      exact ih (by omega) (by omega) fun j o ho h1 h2 => h j o ho h1 (by omega)
theorem uM {l : List Oper} {bs ps : List Bool} {rd : List (List Nat)} {E : Env} {σ : List OB} {tr : List TS} (ht : mZ P ops pv l bs ps rd E σ tr) {j : Nat} {o : Oper} (ho : l[j]? = some o) (hb : bs.getD j false = false) :
    (ps.getD j false = false → Ext (aR σ tr j) (aR σ tr (j + 1))) ∧ lS pv (aR σ tr j) (aR σ tr (j + 1)) := by
  obtain ⟨_, h⟩ := ht.at
  obtain ⟨ts, _, h2, h3⟩ := h j o ho
  rw [h3]
  have same : ∀ σ' : List OB, σ' = aR σ tr j → (ps.getD j false = false → Ext (aR σ tr j) σ') ∧ lS pv (aR σ tr j) σ' := fun σ' e => by
    subst e; exact ⟨fun _ => ⟨[], by simp⟩, lS.refl _ _⟩
  have ext : Ext (aR σ tr j) ts.σ → (ps.getD j false = false → Ext (aR σ tr j) ts.σ) ∧ lS pv (aR σ tr j) ts.σ := fun e => ⟨fun _ => e, .of_ext e⟩
  rcases h2.2.2 with ⟨_, _, _, _, _, _, h⟩ | ⟨_, C, v, h, _, _, h'⟩ | ⟨C, f, args, r, h, _, _, _, _, h'⟩ | ⟨_, _, h'⟩ | ⟨_, C, f, args, p, h, _, _, _, h'⟩
  · exact same _ h
  · rcases h' with h' | h' | ⟨h', h''⟩
    · rw [hb] at h'; cases h'
    · exact ext h'
    · exact ⟨fun hp => by (rw [hp] at h'; cases h'), h''⟩
  · exact same _ h'
  · exact same _ h'
  · rcases h' with h' | h'
    · rw [hb] at h'; cases h'
    · exact ext h'
structure BM (ops : Array Oper) (l : List Oper) (masks : List Nat) (bar prv : List Bool) (rd : List (List Nat)) : Prop where
  base : Chk ops l masks bar
  see : ∀ (i : Nat) (o : Oper), l[i]? = some o → ck o = false → (∀ t ∈ o.looksAt ops, t ∈ rd.getD i []) ∨ ∀ j y, l[j]? = some y → prv.getD j false = true → qc masks i j = true
theorem Av {ops : Array Oper} {l : List Oper} {masks : List Nat} {bar prv : List Bool} {rd : List (List Nat)} (h : Au ops l masks bar prv rd = true) : BM ops l masks bar prv rd := by
  unfold Au at h
  simp only [Bool.and_eq_true, List.all_eq_true] at h
  obtain ⟨h1, h2⟩ := h
  refine ⟨wS h1, fun i o ho hq => ?_⟩
  have m : ∀ (i : Nat) (o : Oper), l[i]? = some o → (o, i) ∈ l.zipIdx := fun i o ho => by
    rw [List.mem_zipIdx_iff_getElem?]; simpa using ho
  have := h2 _ (m i o ho)
  simp only [Bool.or_eq_true, hq, Bool.false_eq_true, false_or, List.all_eq_true] at this
  rcases this with h | h
  · exact .inl fun t ht => by simpa using h t ht
  · right
    intro j y hy hp
    have := h _ (m j y hy)
    simpa only [hp, Bool.not_true, Bool.false_or, Bool.false_eq_true, false_or] using this
theorem w7 {v : Value} {c : CV} (h : kH v = some c) : ot (.c c) = none := by
  unfold kH at h
  split at h <;> first | (cases h; rfl) | cases h
theorem zp (v : Value) : ot (qa v).v = none := by
  unfold qa
  split
  · split <;> rfl
  · split
    · rename_i h; exact w7 h
    · rfl
theorem StJ.stepP {l : List Oper} {bs ps : List Bool} {rd : List (List Nat)} {masks : List Nat} {E : Env} {σ : List OB} {tr : List TS} (cP : BM l.toArray l masks bs ps rd) (ht : mZ P l.toArray pv l bs ps rd E σ tr) (G0 : Gh) {Q : Exit → Act → World → Prop} (listed : Array Bool) (a : Act) (w : World) (i : Nat)
    (hJ : StJ l tr E σ G0 listed a w) (hready : i ∈ Region.ready .any l.toArray listed) : wpOp P l.toArray Q i (StJ l tr E σ G0 (listed.setIfInBounds i true)) a w := by
  have c := cP.base
  obtain ⟨hsz, hcl, G, p, hG, hp, hloud, hinv, hdef, htm, hna, hslot⟩ := hJ
  obtain ⟨hun, o, ho', hdeps⟩ := mem_ready.1 hready
  have ho : l[i]? = some o := by simpa using ho'
  have hil : i < l.length := (List.getElem?_eq_some_iff.1 ho).1
  have hi0 : listed.getD i false = false := by
    rw [Array.getD_eq_getD_getElem?] at hun ⊢
    rw [Array.getElem?_eq_getElem (by omega)] at hun ⊢
    simpa using hun
  have hr : ∀ j ∈ iH o, listed.getD j false = true := by
    intro j hj
    simp only [iH, List.mem_map, List.mem_filter] at hj
    obtain ⟨e, ⟨h1, h2⟩, rfl⟩ := hj
    exact hdeps e (by simpa using h1) h2
  have hdone := fun {j : Nat} {y : Oper} (hy : l[j]? = some y) (hord : qc masks i j = true ∨ qc masks j i = true) => c.done hcl ho hi0 hr hy hord
  obtain ⟨htl, hat⟩ := ht.at
  obtain ⟨ts, hts, ⟨hguard, hdst, hstep⟩, hnext⟩ := hat i o ho
  have hcl' : td l (fun k => (listed.setIfInBounds i true).getD k false) := by
    intro k ok hk hd j hj
    simp only at hd ⊢
    rw [un _ _ _ (by omega)] at hd ⊢
    by_cases e : k = i
    · subst e; rw [ho] at hk; simp only [Option.some.injEq] at hk; subst hk
      by_cases e' : j = k
      · rw [if_pos e']
      · rw [if_neg e']; exact hr j hj
    · rw [if_neg e] at hd
      by_cases e' : j = i
      · rw [if_pos e']
      · rw [if_neg e']; exact hcl k ok hk hd j hj
  have hsz' : (listed.setIfInBounds i true).size = l.length := by simpa using hsz
  have hEn := pS l tr E i
  have hlook := c.look i o ho
  have hreads : ∀ t ∈ o.looksAt l.toArray, (cm E l tr i).get t = fA t l tr (fun j => listed.getD j false) (E.get t) := by
    intro t htm'
    rw [nM t l tr E i (fun j o x hj hd => c.dst j o hj x hd) htl]
    apply gn
    intro j y hy hd
    refine (hdone hy (.inr ?_)).symm
    refine c.hit j i y o hy ho ?_
    simp only [ym, hd, Bool.or_eq_true]
    left
    simpa using htm'
  have hres := ou (cm E l tr i) (o.looksAt l.toArray)
  have hgetr : ∀ t ∈ o.looksAt l.toArray, (eN (cm E l tr i) (o.looksAt l.toArray)).get t = (cm E l tr i).get t := fun t h => (hres t hlook).1 h
  have hsim : Sim G (eN (cm E l tr i) (o.looksAt l.toArray)) (aR σ tr p) a w := by
    refine ⟨hinv, hdef, by rw [(mL _ _).1, hEn.1]; exact htm, by rw [(mL _ _).2, hEn.2]; exact hna, fun t hc => ?_⟩
    by_cases hmem : t ∈ o.looksAt l.toArray
    · rw [hgetr t hmem, hreads t hmem] at hc ⊢
      exact hslot t (hlook t hmem) hc
    · rw [(hres t hlook).2 hmem] at hc; cases hc
  have hops : ∀ x ∈ o.op.operands, ev (eN (cm E l tr i) (o.looksAt l.toArray)) x = ev (cm E l tr i) x := by
    intro x hx
    refine vX (ts := o.looksAt l.toArray) (fun t h => hgetr t h) x fun t e => ?_
    subst e
    simp only [Oper.looksAt, List.mem_append, List.mem_filterMap]
    left
    exact ⟨.tmp t, by simpa using hx, rfl⟩
  have hguard' : eh l.toArray (eN (cm E l tr i) (o.looksAt l.toArray)) o.guard = some ts.γ := by
    rw [qm o hgetr]; exact hguard
  have hwant := mJ (P := P) hsim hguard'
  have hdlt : ∀ d, o.dst = some d → d < a.tmps.size := by
    intro d hd
    rw [htm]
    rw [hd] at hdst
    have h' : d < (cm E l tr i).n := hdst
    rwa [hEn.1] at h'
  have hslot' : ∀ (G' : Gh) (val : Value), (∀ q v, a8 G q v → a8 G' q v) → (ts.e.cond = true → a8 G' ts.e.v val) → ∀ t, t < 512 →
      (fA t l tr (fun k => (listed.setIfInBounds i true).getD k false) (E.get t)).cond = true →
      a8 G' (fA t l tr (fun k => (listed.setIfInBounds i true).getD k false) (E.get t)).v ((a.put o.dst val).tmps.getD t undef) := by
    intro G' val hmono hval t ht512 hc
    have hfun : (fun k => (listed.setIfInBounds i true).getD k false) = (fun k => if k = i then true else listed.getD k false) := by
      funext k; exact un _ _ _ (by omega)
    rw [hfun] at hc ⊢
    by_cases hd : o.dst = some t
    · rw [rC t l tr _ _ i o ts ho hts hd (fun j y hy hdy hij => by
          have := hdone hy (.inr (c.hit j i y o hy ho (by simp [ym, hdy, hd])))
          rw [this]; simp; omega)] at hc ⊢
      have hlt := hdlt t hd
      have : (a.put o.dst val).tmps.getD t undef = val := by rw [hd]; simp [Act.put, Array.getD, hlt]
      rw [this]; exact hval hc
    · rw [pd t l tr _ _ i o ho hd] at hc ⊢
      have : (a.put o.dst val).tmps.getD t undef = a.tmps.getD t undef := by
        cases hod : o.dst with
        | none => rfl
        | some d =>
          have hne : d ≠ t := fun e => hd (by rw [hod, e])
          simp only [Act.put, Array.getD_eq_getD_getElem?]
          rw [Array.getElem?_setIfInBounds_ne hne]
      rw [this]
      exact hmono _ _ (hslot t ht512 hc)
  have hput : ∀ val, (a.put o.dst val).defers = [] ∧ (a.put o.dst val).tmps.size = E.n := by
    intro val; cases o.dst <;> simp [Act.put, hdef, htm]
  have hheap : ck o = true → aR σ tr p = aR σ tr i := by
    intro hl
    have key : ∀ (j : Nat) (y : Oper), l[j]? = some y → ck y = true → (j < p ↔ j < i) := by
      intro j y hy hly
      have h1 := hloud j y hy hly
      have h2 := hdone hy (.inl (c.loud i j o y ho hy hl hly))
      rw [h2] at h1
      simpa using h1.symm
    rcases Nat.le_total p i with h | h
    · exact (qF ht h (by omega) fun j y hy h1 h2 => by
        cases hly : ck y with
        | false => rfl
        | true => have := (key j y hy hly).2 h2; omega).symm
    · exact qF ht h hp fun j y hy h1 h2 => by
        cases hly : ck y with
        | false => rfl
        | true => have := (key j y hy hly).1 h2; omega
  have hloud' : ck o = true → ∀ (j : Nat) (y : Oper), l[j]? = some y → ck y = true → (listed.setIfInBounds i true).getD j false = decide (j < i + 1) := by
    intro hl j y hy hly
    rw [un _ _ _ (by omega)]
    by_cases e : j = i
    · subst e; simp
    · rw [if_neg e, hdone hy (.inl (c.loud i j o y ho hy hl hly))]
      simp; omega
  have hquiet' : ck o = false → ∀ (j : Nat) (y : Oper), l[j]? = some y → ck y = true → (listed.setIfInBounds i true).getD j false = decide (j < p) := by
    intro hl j y hy hly
    rw [un _ _ _ (by omega)]
    by_cases e : j = i
    · subst e; rw [ho] at hy; simp only [Option.some.injEq] at hy; subst hy; rw [hl] at hly; cases hly
    · rw [if_neg e]; exact hloud j y hy hly
  have stay : ∀ (G' : Gh) (w' : World) (val : Value), Gle G G' → bH G.own G'.own → Inv G' (aR σ tr p) w' → ts.σ = aR σ tr i → (ts.e.cond = true → a8 G' ts.e.v val) → StJ l tr E σ G0 (listed.setIfInBounds i true) (a.put o.dst val) w' := by
    intro G' w' val h1 h2 h3 h4 h5
    refine ⟨hsz', hcl', ?_⟩
    have hm : ∀ q v, a8 G q v → a8 G' q v := fun q v h => a8.mono h1.le.H h2 h
    cases hl : ck o with
    | true =>
      refine ⟨G', i + 1, hG.trans h1, by omega, hloud' hl, ?_, (hput val).1, (hput val).2, h1.le.na.trans hna, hslot' G' val hm h5⟩
      rw [hnext, h4, ← hheap hl]; exact h3
    | false => exact ⟨G', p, hG.trans h1, hp, hquiet' hl, h3, (hput val).1, (hput val).2, h1.le.na.trans hna, hslot' G' val hm h5⟩
  unfold wpOp
  simp only [ho']
  have skip : ts.γ = false → (ts.e.cond = true → a8 G ts.e.v undef) → ts.σ = aR σ tr i → (if Region.wanted o (yielded l.toArray a.tmps) = true then o.wp P a w (StJ l tr E σ G0 (listed.setIfInBounds i true)) Q ∨ (o.asks P a w ∧ LetsOut Q) else StJ l tr E σ G0 (listed.setIfInBounds i true) (a.put o.dst undef) w) := by
    intro hγ hc hσ
    rw [if_neg (by rw [hwant, hγ]; simp)]
    exact stay G w undef (Gle.refl G) (bH.refl _) hinv hσ hc
  rcases hstep with ⟨C, v, hrun, hC, hrd, he, hσ⟩ | ⟨hγ, C, v, hrun, hC, he, _⟩ | ⟨C, f, args, r, hrun, hC, hargs, hres', he, hσ⟩ | ⟨hγ, he, hσ⟩ | ⟨hγ, C, f, args, r, hrun, hC, hto, he, _⟩
  · cases hγ : ts.γ with
    | false => exact skip hγ (by rw [he, hγ]; intro h; cases h) hσ
    | true =>
      rw [if_pos (by rw [hwant, hγ])]
      left
      rw [hγ] at hrun
      have hrun1 := (jr (P := P) (γ := true) (σ := aR σ tr i) o.op hops).trans hrun
      have hlo : ck o = false ∨ ck o = true := by cases ck o <;> simp
      have notbar : ∀ (j : Nat) (y : Oper), l[j]? = some y → ck y = true → listed.getD j false ≠ decide (j < i) → bs.getD j false = false := by
        intro j y hy hly hne
        cases hb : bs.getD j false with
        | false => rfl
        | true => exact (hne (hdone hy (.inr (c.bar j i y o hy ho hb)))).elim
      have one : ∀ (j : Nat), j < l.length → (∀ y, l[j]? = some y → ck y = true → listed.getD j false ≠ decide (j < i)) → lS pv (aR σ tr j) (aR σ tr (j + 1)) := by
        intro j hj hne
        have hy := List.getElem?_eq_getElem hj
        cases hly : ck l[j] with
        | false => rw [pr ht hy hly]; exact lS.refl _ _
        | true => exact (uM ht hy (notbar j _ hy hly (hne _ hy hly))).2
      have onePv : (∀ j y, l[j]? = some y → ps.getD j false = true → qc masks i j = true) → ∀ (j : Nat), j < l.length → (∀ y, l[j]? = some y → ck y = true → listed.getD j false ≠ decide (j < i)) → lS [] (aR σ tr j) (aR σ tr (j + 1)) := by
        intro hord j hj hne
        have hy := List.getElem?_eq_getElem hj
        cases hly : ck l[j] with
        | false => rw [pr ht hy hly]; exact lS.refl _ _
        | true =>
          refine .of_ext ((uM ht hy (notbar j _ hy hly (hne _ hy hly))).1 ?_)
          cases hp : ps.getD j false with
          | false => rfl
          | true => exact (hne _ hy hly (hdone hy (.inl (hord j _ hy hp)))).elim
      have reach : ∀ (q : List Nat), (∀ (j : Nat), j < l.length → (∀ y, l[j]? = some y → ck y = true → listed.getD j false ≠ decide (j < i)) → lS q (aR σ tr j) (aR σ tr (j + 1))) → lS q (aR σ tr p) (aR σ tr i) ∨ lS q (aR σ tr i) (aR σ tr p) := by
        intro q hone
        rcases Nat.le_total p i with h | h
        · left
          refine pq l htl p i h (by omega) fun j h1 h2 => hone j (by omega) fun y hy hly => ?_
          rw [hloud j y hy hly]; simp; omega
        · right
          refine pq l htl i p h hp fun j h1 h2 => hone j (by omega) fun y hy hly => ?_
          rw [hloud j y hy hly]; simp; omega
      have fromNear : ∀ (q : List Nat) (b : Nat) (ob : OB), lS q (aR σ tr p) (aR σ tr i) ∨ lS q (aR σ tr i) (aR σ tr p) → b ∉ q → b < (aR σ tr p).length → (aR σ tr i)[b]? = some ob → (aR σ tr p)[b]? = some ob := by
        intro q b ob hn hb hlt hob
        rcases hn with h | h
        · rw [← h.2 b hb hlt]; exact hob
        · rw [h.2 b hb (List.getElem?_eq_some_iff.1 hob).1]; exact hob
      obtain ⟨C', hrun2, hC'⟩ := uF (σ' := aR σ tr p) hrun1 hC (fun x hc b ob htop hb => by
        have hlt := uH hinv (cN hsim x hc) htop
        rcases hlo with hl | hl
        · rcases cP.see i o ho hl with hsee | hsee
          · refine fromNear pv b ob (reach pv one) ?_ hlt hb
            cases x with
            | tmp t =>
              by_cases hmem : t ∈ o.looksAt l.toArray
              · have h1 := List.all_eq_true.1 hrd t (hsee t hmem)
                have h2 : (eN (cm E l tr i) (o.looksAt l.toArray)).get t = (cm E l tr i).get t := hgetr t hmem
                have htop' : ot ((cm E l tr i).get t).v = some b := by rw [← h2]; exact htop
                simp only [zo, htop'] at h1
                simpa using h1
              · exfalso
                have : ((eN (cm E l tr i) (o.looksAt l.toArray)).get t).cond = true := hc
                rw [(hres t hlook).2 hmem] at this; cases this
            | const v =>
              exfalso
              have h1 : ot (qa v).v = some b := htop
              rw [zp] at h1; cases h1
            | func f => cases htop
            | global g => cases htop
          · exact fromNear [] b ob (reach [] (onePv hsee)) (by simp) hlt hb
        · rw [hheap hl]; exact hb)
      obtain ⟨val, e1, e2⟩ := vf hsim rfl o hrun2 hC'
      unfold Oper.wp
      rw [e1]
      exact stay G w val (Gle.refl G) (bH.refl _) hinv hσ fun _ => by rw [he]; exact e2
  · rw [if_pos (by rw [hwant, hγ])]
    left
    rw [hγ] at hrun
    have hl : ck o = true := by
      cases hl : ck o with
      | true => rfl
      | false => exact ((lk hl).1 _ _ _ hrun).elim
    have hrun1 := (jr (P := P) (γ := true) (σ := aR σ tr i) o.op hops).trans hrun
    rw [← hheap hl] at hrun1
    obtain ⟨nx, val, w', G', e1, e2, e3, e4, e5, e6⟩ := ta hsim rfl o hrun1 hC
    have hfin : StJ l tr E σ G0 (listed.setIfInBounds i true) (a.put o.dst val) w' :=
      ⟨hsz', hcl', G', i + 1, hG.trans (Gle.mk' e3 e4), by omega, hloud' hl, by rw [hnext]; exact e5, (hput val).1, (hput val).2, e3.na.trans hna,
        hslot' G' val (fun q v h => a8.mono e3.H e4 h) fun _ => by rw [he]; exact e6⟩
    unfold Oper.wp
    rw [e1]
    rcases e2 with rfl | ⟨rfl, rfl⟩
    · exact hfin
    · exact hfin
  · cases hγ : ts.γ with
    | false => exact skip hγ (by rw [he, hγ]; intro h; cases h) hσ
    | true =>
      rw [if_pos (by rw [hwant, hγ])]
      left
      rw [hγ] at hrun
      obtain ⟨hC1, hspec⟩ := hC hγ
      have hrun1 := (jr (P := P) (γ := true) (σ := aR σ tr i) o.op hops).trans hrun
      have hrun2 := pe (σ' := aR σ tr p) hrun1
      exact uG hsim o hrun2 hC1 hspec hargs hres' fun G' w' v h1 h2 h3 h4 => stay G' w' v h1 h2 h3 hσ fun _ => by rw [he]; exact h4
  · exact skip hγ (by rw [he]; exact fun _ => ⟨[], rfl, trivial⟩) hσ
  · rw [if_pos (by rw [hwant, hγ])]
    left
    rw [hγ] at hrun
    have hl : ck o = true := by
      cases hl : ck o with
      | true => rfl
      | false => exact ((lk hl).2 _ _ _ hrun).elim
    have hrun1 := (jr (P := P) (γ := true) (σ := aR σ tr i) o.op hops).trans hrun
    rw [← hheap hl] at hrun1 hto
    exact tc hsim o hrun1 hC hto fun G' w' v h1 h2 h3 h4 h5 =>
      ⟨hsz', hcl', G', i + 1, hG.trans h1, by omega, hloud' hl, by rw [hnext]; exact h4, (hput v).1, (hput v).2, h1.le.na.trans hna,
        hslot' G' v (fun q v h => a8.mono h2 h3 h) fun _ => by rw [he]; exact h5⟩
theorem yw {l : List Oper} {masks : List Nat} {bs ps : List Bool} {rd : List (List Nat)} {E : Env} {σ : List OB} {tr : List TS} (cP : BM l.toArray l masks bs ps rd) (ht : mZ P l.toArray pv l bs ps rd E σ tr) (G0 : Gh) {Q : Exit → Act → World → Prop}
    (fin : ∀ G a w, Gle G0 G → Sim G (cm E l tr l.length) (aR σ tr l.length) a w → Q .normal a w) :
    ∀ (fuel : Nat) (listed : Array Bool) (a : Act) (w : World), listed.toList.count false ≤ fuel → StJ l tr E σ G0 listed a w → wpAny P .any l.toArray Q fuel listed a w := by
  have c := cP.base
  have done : ∀ (listed : Array Bool) (a : Act) (w : World), StJ l tr E σ G0 listed a w → Region.ready .any l.toArray listed = [] → Q .normal a w := by
    intro listed a w hJ hr
    obtain ⟨hsz, hcl, G, p, hG, hp, hloud, hinv, hdef, htm, hna, hslot⟩ := hJ
    have hall := rE c hsz hr
    obtain ⟨htl, hat⟩ := ht.at
    have hE := pS l tr E l.length
    have hheap : aR σ tr l.length = aR σ tr p := qF ht hp (Nat.le_refl _) fun j y hy h1 h2 => by
      cases hly : ck y with
      | false => rfl
      | true =>
        have := hloud j y hy hly
        rw [hall j h2] at this
        have : j < p := by simpa using this.symm
        omega
    refine fin G a w hG ⟨by rw [hheap]; exact hinv, hdef, by rw [hE.1]; exact htm, by rw [hE.2]; exact hna, fun t hc => ?_⟩
    by_cases h512 : t < 512
    · have hg : (cm E l tr l.length).get t = fA t l tr (fun i => listed.getD i false) (E.get t) := by
        rw [nM t l tr E l.length (fun j o x hj hd => c.dst j o hj x hd) htl]
        apply gn
        intro j y hy _
        have hlt := (List.getElem?_eq_some_iff.1 hy).1
        simp [hlt, hall j hlt]
      rw [hg] at hc ⊢
      exact hslot t h512 hc
    · rw [Env.get_big _ t (by omega)] at hc; cases hc
  intro fuel
  induction fuel with
  | zero =>
    intro listed a w hf hJ
    have hr : Region.ready .any l.toArray listed = [] := by
      rw [List.eq_nil_iff_forall_not_mem]
      intro i hi
      obtain ⟨h1, o, ho, _⟩ := mem_ready.1 hi
      have hlt : i < listed.size := by rw [hJ.1]; have := (Array.getElem?_eq_some_iff.1 ho).1; simpa using this
      have : listed.toList[i]? = some false := by
        rw [Array.getD_eq_getD_getElem?, Array.getElem?_eq_getElem hlt] at h1
        rw [Array.getElem?_toList, Array.getElem?_eq_getElem hlt]
        simpa using h1
      have hpos := List.count_pos_iff.2 (List.mem_of_getElem? this)
      omega
    exact ⟨hr, done listed a w hJ hr⟩
  | succ fuel ih =>
    intro listed a w hf hJ
    refine ⟨fun hr => done listed a w hJ hr, fun i hi => ?_⟩
    have hstep := StJ.stepP (Q := Q) cP ht G0 listed a w i hJ hi
    refine wpOp_mono (fun a' w' hJ' => ih _ a' w' ?_ hJ') hstep
    obtain ⟨h1, o, ho, _⟩ := mem_ready.1 hi
    have hlt : i < listed.size := by rw [hJ.1]; have := (Array.getElem?_eq_some_iff.1 ho).1; simpa using this
    have : listed.toList[i]? = some false := by
      rw [Array.getD_eq_getD_getElem?, Array.getElem?_eq_getElem hlt] at h1
      rw [Array.getElem?_toList, Array.getElem?_eq_getElem hlt]
      simpa using h1
    have hc := pT _ _ this
    simp only [Array.toList_setIfInBounds]
    omega
def TRP (P : Program) (ops : Array Oper) (pv : List Nat) (l : List Oper) (bs ps : List Bool) (rd : List (List Nat)) (E : Env) (σ : List OB) (k : Env → List OB → Prop) : Prop :=
  ∃ tr, mZ P ops pv l bs ps rd E σ tr ∧ k (cm E l tr l.length) (aR σ tr l.length)
def kj (pv : List Nat) : Nat → List OB → List OB → Prop
  | _, [], _ => True
  | i, a :: as_, b :: bs => (pv.contains i = true ∨ a = b) ∧ kj pv (i + 1) as_ bs
  | _, _ :: _, [] => False
theorem wh : ∀ {i : Nat} {σ σ' : List OB}, kj pv i σ σ' → σ.length ≤ σ'.length ∧ ∀ b, b + i ∉ pv → b < σ.length → σ'[b]? = σ[b]?
  | _, [], _, _ => ⟨by simp, fun b _ h => by simp at h⟩
  | i, a :: as_, b :: bs, ⟨h1, h2⟩ => by
    obtain ⟨k1, k2⟩ := wh h2
    refine ⟨by simpa using k1, fun c hc hl => ?_⟩
    cases c with
    | zero =>
      rcases h1 with h | h
      · simp at hc; simp at h; exact (hc h).elim
      · simp [h]
    | succ c => simpa using k2 c (by simpa [Nat.add_assoc, Nat.add_comm 1] using hc) (by simpa using hl)
def tt (P : Program) (ops : Array Oper) (pv : List Nat) (γ : Bool) (C : Prop) (f : FuncId) (args : List PV) (o : Oper) (r : List Oper) (bs ps : List Bool) (rd : List (List Nat)) (E : Env) (σ : List OB) (k : Env → List OB → Prop) : Prop :=
  bO P γ E σ o.op = .call C f args → eh ops E o.guard = some γ → TRP P ops pv (o :: r) bs ps rd E σ k
def rK (P : Program) (ops : Array Oper) (pv : List Nat) (γ : Bool) (o : Oper) (r : List Oper) (bs ps : List Bool) (rd : List (List Nat)) (E : Env) (σ : List OB) (k : Env → List OB → Prop) (run : Env → List OB → Prop) : R → Prop
  | .ok C v => eM E o.dst ∧ C ∧ ((rd.headD []).all fun t => zo pv (E.get t).v) = true ∧ run (E.putD o.dst ⟨γ, v⟩) σ
  | .upd C v σ' => eM E o.dst ∧ γ = true ∧ C ∧ (bs.headD false = true ∨ fT σ σ' ∨ (ps.headD false = true ∧ kj pv 0 σ σ')) ∧ run (E.putD o.dst ⟨true, v⟩) σ'
  | .call C f args => tt P ops pv γ C f args o r bs ps rd E σ k
  | .bad => False
def lE (P : Program) (ops : Array Oper) (pv : List Nat) : List Oper → List Bool → List Bool → List (List Nat) → Env → List OB → (Env → List OB → Prop) → Prop
  | [], _, _, _, E, σ, k => k E σ
  | o :: r, bs, ps, rd, E, σ, k =>
    match eh ops E o.guard with
    | none => False
    | some false => eM E o.dst ∧ lE P ops pv r bs.tail ps.tail rd.tail (E.putD o.dst ⟨true, .t []⟩) σ k
    | some true => rK P ops pv true o r bs ps rd E σ k (fun E' σ' => lE P ops pv r bs.tail ps.tail rd.tail E' σ' k) (bO P true E σ o.op)
theorem TRP.cons {o : Oper} {r : List Oper} {bs ps : List Bool} {rd : List (List Nat)} {E : Env} {σ : List OB} {k : Env → List OB → Prop} {ts : TS} (h : w4 P ops pv E σ o (bs.headD false) (ps.headD false) (rd.headD []) ts) (ht : TRP P ops pv r bs.tail ps.tail rd.tail (E.putD o.dst ts.e) ts.σ k) : TRP P ops pv (o :: r) bs ps rd E σ k := by
  obtain ⟨tr, h1, h2⟩ := ht
  refine ⟨ts :: tr, ⟨ts, tr, rfl, h, h1⟩, ?_⟩
  simpa [cm, aR] using h2
theorem lv : ∀ (l : List Oper) (bs ps : List Bool) (rd : List (List Nat)) (E : Env) (σ : List OB) (k : Env → List OB → Prop), lE P ops pv l bs ps rd E σ k → TRP P ops pv l bs ps rd E σ k
  | [], bs, ps, rd, E, σ, k, h => ⟨[], rfl, by unfold lE at h; simpa [cm, aR] using h⟩
  | o :: r, bs, ps, rd, E, σ, k, h => by
    unfold lE at h
    split at h
    · exact h.elim
    · rename_i hγ
      exact TRP.cons (ts := ⟨false, ⟨true, .t []⟩, σ⟩) ⟨hγ, h.1, .inr (.inr (.inr (.inl ⟨rfl, rfl, rfl⟩)))⟩ (lv r _ _ _ _ _ _ h.2)
    · rename_i hγ
      unfold rK at h
      split at h
      · rename_i C v hrun
        obtain ⟨hd, hC, hrd, hr⟩ := h
        exact TRP.cons (ts := ⟨true, ⟨true, v⟩, σ⟩) ⟨hγ, hd, .inl ⟨C, v, hrun, hC, hrd, rfl, rfl⟩⟩ (lv r _ _ _ _ _ _ hr)
      · rename_i C v σ' hrun
        obtain ⟨hd, hg, hC, hb, hr⟩ := h
        refine TRP.cons (ts := ⟨true, ⟨true, v⟩, σ'⟩) ⟨hγ, hd, .inr (.inl ⟨rfl, C, v, hrun, hC, rfl, ?_⟩)⟩ (lv r _ _ _ _ _ _ hr)
        rcases hb with h | h | ⟨h, h'⟩
        · exact .inl h
        · exact .inr (.inl (pU h))
        · exact .inr (.inr ⟨h, by have := wh h'; exact ⟨this.1, fun b hb hl => this.2 b hb hl⟩⟩)
      · rename_i C f args hrun
        exact h hrun hγ
      · exact h.elim
theorem ur {γ : Bool} {C : Prop} {f : FuncId} {args : List PV} {o : Oper} {r : List Oper} {bs ps : List Bool} {rd : List (List Nat)} {E : Env} {σ : List OB} {k : Env → List OB → Prop} {res : PV}
    (hs : γ = true → bU P f args res) (hd : eM E o.dst) (hC : γ = true → C) (hargs : args.all PV.noOwn = true) (hres : ∀ n, res.ren (d5 n []) = res)
    (next : lE P ops pv r bs.tail ps.tail rd.tail (E.putD o.dst ⟨γ, res⟩) σ k) : tt P ops pv γ C f args o r bs ps rd E σ k := fun hrun hγ =>
  TRP.cons (ts := ⟨γ, ⟨γ, res⟩, σ⟩) ⟨hγ, hd, .inr (.inr (.inl ⟨C, f, args, res, hrun, fun h => ⟨hC h, hs h⟩, hargs, hres, rfl, rfl⟩))⟩ (lv r _ _ _ _ _ _ next)
theorem pt {C : Prop} {f : FuncId} {args : List PV} {o : Oper} {r : List Oper} {bs ps : List Bool} {rd : List (List Nat)} {E : Env} {σ σ2 : List OB} {k : Env → List OB → Prop} {res : PV}
    (hs : rB P σ f args res σ2) (hd : eM E o.dst) (hC : C) (hb : bs.headD false = true ∨ fT σ σ2)
    (next : lE P ops pv r bs.tail ps.tail rd.tail (E.putD o.dst ⟨true, res⟩) σ2 k) : tt P ops pv true C f args o r bs ps rd E σ k := fun hrun hγ =>
  TRP.cons (ts := ⟨true, ⟨true, res⟩, σ2⟩) ⟨hγ, hd, .inr (.inr (.inr (.inr ⟨rfl, C, f, args, res, hrun, hC, hs, rfl, hb.imp id pU⟩)))⟩ (lv r _ _ _ _ _ _ next)
theorem Aw {id : Nat} {l : List Oper} {K : Kt} {E : Env} {σ : List OB} (hm : P.follows .mixedOrders = true) (pv masks : List Nat) (bs ps : List Bool) (rd : List (List Nat)) (hc : Au l.toArray l masks bs ps rd = true)
    (h : TRP P l.toArray pv l bs ps rd E σ (K .normal)) : W P (.region id l.toArray true) K E σ := fun G a w hs => by
  obtain ⟨tr, ht, hk⟩ := h
  refine wp_region_any hm ?_
  refine yw (Av hc) ht G (fun G' a' w' hG hs' => ⟨G', _, _, .normal, hG, hs', rfl, hk⟩) _ _ a _ ?_ ?_
  · simp
  · have hfalse : ∀ i, (Array.replicate l.length false).getD i false = false := by
      intro i
      rw [Array.getD_eq_getD_getElem?, Array.getElem?_replicate]
      split <;> rfl
    refine ⟨by simp, fun i o ho hd => by simp [hfalse] at hd, G, 0, Gle.refl G, by omega, fun j o ho hl => by simp [hfalse], ?_, hs.defers, hs.size, hs.na, fun t ht hc => ?_⟩
    · have : aR σ tr 0 = σ := by cases tr <;> rfl
      rw [this]; exact hs.inv.drawn
    · have : fA t l tr (fun i => (Array.replicate l.length false).getD i false) (E.get t) = E.get t := lj t l tr _ _ fun j o _ _ => hfalse j
      simp only [List.size_toArray] at hc ⊢
      rw [this] at hc ⊢
      exact hs.slot t hc
theorem rc {id : Nat} {l : List Oper} {y : Code} {K : Kt} {E : Env} {σ : List OB} (ms : List Nat) (hm : P.follows .mixedOrders = true) (pv masks : List Nat) (bs ps : List Bool) (rd : List (List Nat)) (hc : Au l.toArray l masks bs ps rd = true)
    (h : ∀ (k : Env → List OB → Prop), (∀ E σ, W P y K E σ → k E σ) → lE P l.toArray pv l bs ps rd E σ (fun E σ => k (E.forget ms) σ)) : W P (.seq (.region id l.toArray true) y) K E σ :=
  sr (Aw hm pv masks bs ps rd hc (by
    obtain ⟨tr, h1, h2⟩ := lv l bs ps rd E σ _ (h (W P y K) fun _ _ h => h)
    exact ⟨tr, h1, nN ms h2⟩))
end
def bAP := And.intro (And.intro (And.intro @lE.eq_1 @lE.eq_2) bL) (And.intro bM (And.intro (And.intro @rK.eq_1 @rK.eq_2) (And.intro @rK.eq_3 @rK.eq_4)))
end Pam

namespace Pam
open Go
section
variable {P : Program} {ops : Array Oper}
theorem aS {l : List Oper} {bs : List Bool} {E : Env} {σ : List OB} {k : Env → List OB → Prop} (h : iI P ops l bs E σ k) : TR P ops l bs E σ k := je l bs E σ k h
theorem xQ : ∀ {l l' : List Oper} {bs bs' : List Bool} {E : Env} {σ : List OB} {k : Env → List OB → Prop}, bs.length = l.length → TR P ops l bs E σ (fun E' σ' => TR P ops l' bs' E' σ' k) → TR P ops (l ++ l') (bs ++ bs') E σ k
 | [], l', bs, bs', E, σ, k, hl, ⟨tr, h1, h2⟩ => by
  have : bs = [] := List.eq_nil_of_length_eq_zero (by simpa using hl)
  subst this
  simp only [nL] at h1
  subst h1
  simpa [cm, aR] using h2
 | o :: l, l', bs, bs', E, σ, k, hl, ⟨tr, h1, h2⟩ => by
  obtain ⟨ts, r, rfl, h3, h4⟩ := h1
  match bs, hl with
  | b :: bs, hl =>
   refine TR.cons (bs := b :: bs ++ bs') (ts := ts) ?_ ?_
   ·simpa using h3
   ·exact xQ (by simpa using hl) ⟨r, h4, by simpa [cm, aR] using h2⟩
theorem dS (n : Nat) {l : List Oper} {bs : List Bool} {E : Env} {σ : List OB} {k : Env → List OB → Prop} (hn : bs.length = l.length) (h : iI P ops (l.take n) (bs.take n) E σ (fun E' σ' => TR P ops (l.drop n) (bs.drop n) E' σ' k)) : TR P ops l bs E σ k := by
 have := xQ (by simp [hn]) (je _ _ _ _ _ h)
 rwa [List.take_append_drop, List.take_append_drop] at this
theorem bj {γ : Bool} {C : Prop} {f : FuncId} {args : List PV} {o : Oper} {r : List Oper} {bs : List Bool} {E : Env} {σ : List OB} {k : Env → List OB → Prop} {res : PV}
  (hs : γ = true → bU P f args res) (hd : eM E o.dst) (hC : γ = true → C) (hargs : args.all PV.noOwn = true) (hres : ∀ n, res.ren (d5 n []) = res)
  (next : TR P ops r bs.tail (E.putD o.dst ⟨γ, res⟩) σ k) : pV P ops γ C f args o r bs E σ k := fun hrun hγ =>
 TR.cons (ts := ⟨γ, ⟨γ, res⟩, σ⟩) ⟨hγ, hd, .inr (.inr (.inl ⟨C, f, args, res, hrun, fun h => ⟨hC h, hs h⟩, hargs, hres, rfl, rfl⟩))⟩ next
theorem iC {C : Prop} {f : FuncId} {args : List PV} {o : Oper} {r : List Oper} {bs : List Bool} {E : Env} {σ σ2 : List OB} {k : Env → List OB → Prop} {res : PV}
  (hs : rB P σ f args res σ2) (hd : eM E o.dst) (hC : C) (hb : bs.headD false = true ∨ fT σ σ2)
  (next : TR P ops r bs.tail (E.putD o.dst ⟨true, res⟩) σ2 k) : pV P ops true C f args o r bs E σ k := fun hrun hγ =>
 TR.cons (ts := ⟨true, ⟨true, res⟩, σ2⟩) ⟨hγ, hd, .inr (.inr (.inr (.inr ⟨rfl, C, f, args, res, hrun, hC, hs, rfl, hb.imp id pU⟩)))⟩ next
theorem vr {id : Nat} {l : List Oper} {K : Kt} {E : Env} {σ : List OB} (hm : P.follows .mixedOrders = true) (masks : List Nat) (bs : List Bool) (hc : chk l.toArray l masks bs = true)
  (h : ∀ (k : Env → List OB → Prop), (∀ E σ, K .normal E σ → k E σ) → TR P l.toArray l bs E σ k) : W P (.region id l.toArray true) K E σ :=
 vj hm masks bs hc (h (K .normal) fun _ _ h => h)
theorem dl {id : Nat} {l : List Oper} {y : Code} {K : Kt} {E : Env} {σ : List OB} (ms : List Nat) (hm : P.follows .mixedOrders = true) (masks : List Nat) (bs : List Bool) (hc : chk l.toArray l masks bs = true)
  (h : ∀ (k : Env → List OB → Prop), (∀ E σ, W P y K E σ → k E σ) → TR P l.toArray l bs E σ (fun E σ => k (E.forget ms) σ)) : W P (.seq (.region id l.toArray true) y) K E σ :=
 sr (vj hm masks bs hc (by
  obtain ⟨tr, h1, h2⟩ := h (W P y K) fun _ _ h => h
  exact ⟨tr, h1, nN ms h2⟩))
end
end Pam
