/- Regions whose order Go leaves open: evaluated in the order of the text, where the edges allow it. -/
import Derived.Test.YtcfgfffidnpciaaQBase1
set_option linter.all false
namespace Pam
open Go
theorem Env.get_put' (E : Env) (i j : Nat) (e : Ent) (h : i < 512) : (E.put i e).get j = if j = i then e else E.get j := by
  unfold Env.get Env.put
  simp only
  have hb : i / 64 < 8 := by omega
  rw [Tr.get_put _ _ _ _ hb]
  by_cases e1 : j / 64 = i / 64
  · rw [iP e1, Tr.get_put _ _ _ _ (Nat.mod_lt _ (by decide))]
    by_cases e2 : j / 8 % 8 = i / 8 % 8
    · rw [iP e2, Tr.get_put _ _ _ _ (Nat.mod_lt _ (by decide))]
      by_cases e3 : j % 8 = i % 8
      · have : j = i := by omega
        subst this
        simp [Tr.ent]
      · have : j ≠ i := by omega
        rw [iN e3, iN this, e1, e2]
    · have : j ≠ i := by omega
      rw [iN e2, iN this, e1]
  · have : j ≠ i := by omega
    rw [iN e1, iN this]
theorem Env.get_big (E : Env) (i : Nat) (h : 512 ≤ i) : (E.get i).cond = false := by
  unfold Env.get
  rw [Tr.get_big E.t (i / 64) (by omega)]
  simp [Tr.get, Tr.ent]
def e8 (o : Oper) : Bool :=
  match o.op with
  | .move _ | .assign _ | .pick .. | .load .. | .nilCheck _ | .binOp .. | .unOp .. | .convert .. | .fieldAddr .. | .field .. | .indexAddr .. | .index .. | .extract .. | .slice .. | .build .. | .makeFunc .. => false
  | .call c => (match c.callee with | .builtin .len | .builtin .min | .builtin .max => false | _ => true)
  | _ => true
def dj (o : Oper) : List Nat := (o.after.toList.filter (Region.binds .any)).map (·.on)
def orM (masks : List Nat) : List Nat → Nat
  | [] => 0
  | j :: r => (2 ^ j ||| masks.getD j 0) ||| orM masks r
theorem nL (masks : List Nat) (k : Nat) : ∀ l, (orM masks l).testBit k = true → ∃ j ∈ l, j = k ∨ (masks.getD j 0).testBit k = true
  | [], h => by simp [orM] at h
  | j :: r, h => by
    simp only [orM, Nat.testBit_or, Bool.or_eq_true, Nat.testBit_two_pow] at h
    rcases h with (h | h) | h
    · exact ⟨j, by simp, .inl (by simpa using h)⟩
    · exact ⟨j, by simp, .inr h⟩
    · obtain ⟨j', h1, h2⟩ := nL masks k r h
      exact ⟨j', by simp [h1], h2⟩
def rY (ops : Array Oper) (x y : Oper) : Bool :=
  match x.dst with
  | none => false
  | some d => (y.looksAt ops).contains d || y.dst == some d
def js (masks : List Nat) (i j : Nat) : Bool := i == j || (masks.getD i 0).testBit j || (masks.getD j 0).testBit i
def chk (ops : Array Oper) (l : List Oper) (masks : List Nat) (bar : List Bool) : Bool :=
  (l.zipIdx.all fun (o, i) => masks.getD i 0 == orM masks (dj o) && (dj o).all (· < i) &&
    (match o.dst with | some d => decide (d < 512) | none => true) && (o.looksAt ops).all (· < 512)) &&
  (l.zipIdx.all fun (x, i) => l.zipIdx.all fun (y, j) => (!(e8 x && e8 y) || js masks i j) && (!(rY ops x y) || js masks i j) && (!(bar.getD i false) || js masks i j))
structure TS where
  γ : Bool
  e : Ent
  σ : List OB
def Ext (σ σ' : List OB) : Prop := ∃ ρ, σ' = σ ++ ρ
def jW (P : Program) (σ : List OB) (f : FuncId) (args : List PV) (p : PV) (σ2 : List OB) : Prop :=
  ∃ (args' : List PV) (σc : List OB) (post pp : PV → List OB → Prop) (ρ : List Nat), eZ P f args' σc post pp ∧ ρ.Nodup ∧ (∀ b ∈ ρ, b < σ.length) ∧ args = args'.map (PV.ren (cT σ.length ρ)) ∧
    ρ.map (fun b => σ[b]?) = σc.map (fun ob => some (ob.ren (cT σ.length ρ))) ∧ ii ρ.length args' ∧ cg ρ.length σc ∧
    (∀ q τ, post q τ → ρ.length ≤ τ.length → q.ren (cT σ.length ρ) = p ∧ cB σ ρ (τ.map (OB.ren (cT σ.length ρ))) = σ2) ∧ (∀ q τ, pp q τ → False)
def vx (P : Program) (ops : Array Oper) (E : Env) (σ : List OB) (o : Oper) (bar : Bool) (ts : TS) : Prop :=
  dC ops E o.guard = some ts.γ ∧ cy E o.dst ∧
  ((∃ C v, bn P ts.γ E σ o.op = .ok C v ∧ C ∧ ts.e = ⟨ts.γ, v⟩ ∧ ts.σ = σ) ∨
   (ts.γ = true ∧ ∃ C v, bn P ts.γ E σ o.op = .upd C v ts.σ ∧ C ∧ ts.e = ⟨true, v⟩ ∧ (bar = true ∨ Ext σ ts.σ)) ∨
   (∃ C f args r, bn P ts.γ E σ o.op = .call C f args ∧ (ts.γ = true → C ∧ cz P f args r) ∧ args.all PV.noOwn = true ∧ (∀ n, r.ren (cT n []) = r) ∧ ts.e = ⟨ts.γ, r⟩ ∧ ts.σ = σ) ∨
   (ts.γ = false ∧ ts.e = ⟨true, .t []⟩ ∧ ts.σ = σ) ∨
   (ts.γ = true ∧ ∃ C f args p, bn P ts.γ E σ o.op = .call C f args ∧ C ∧ jW P σ f args p ts.σ ∧ ts.e = ⟨true, p⟩ ∧ (bar = true ∨ Ext σ ts.σ)) ∨
   (ts.γ = true ∧ e8 o = true ∧ ∃ v, (∀ E', (∀ x ∈ o.op.operands, ev E' x = ev E x) → ∀ G a w, Sim G E' σ a w → rk P G (execOp a.eval o) w v ts.σ) ∧ ts.e = ⟨true, v⟩ ∧ (bar = true ∨ Ext σ ts.σ)))
def lN (P : Program) (ops : Array Oper) : List Oper → List Bool → Env → List OB → List TS → Prop
  | [], _, _, _, tr => tr = []
  | o :: l, bs, E, σ, tr => ∃ ts r, tr = ts :: r ∧ vx P ops E σ o (bs.headD false) ts ∧ lN P ops l bs.tail (E.putD o.dst ts.e) ts.σ r
def ce (E : Env) : List Oper → List TS → Nat → Env
  | o :: l, ts :: tr, k + 1 => ce (E.putD o.dst ts.e) l tr k
  | _, _, _ => E
def aQ (σ : List OB) : List TS → Nat → List OB
  | ts :: tr, k + 1 => aQ ts.σ tr k
  | _, _ => σ
def eO (t : Tmp) : List Oper → List TS → (Nat → Bool) → Ent → Ent
  | o :: l, ts :: tr, d, e => eO t l tr (fun j => d (j + 1)) (if d 0 = true ∧ o.dst = some t then ts.e else e)
  | _, _, _, e => e
section
variable {P : Program} {ops : Array Oper}
theorem lN.at : ∀ {l : List Oper} {bs : List Bool} {E : Env} {σ : List OB} {tr : List TS}, lN P ops l bs E σ tr → tr.length = l.length ∧
    ∀ (i : Nat) (o : Oper), l[i]? = some o → ∃ ts, tr[i]? = some ts ∧ vx P ops (ce E l tr i) (aQ σ tr i) o (bs.getD i false) ts ∧ aQ σ tr (i + 1) = ts.σ
  | [], bs, E, σ, tr, h => by simp only [lN] at h; subst h; exact ⟨rfl, fun i o h => by simp at h⟩
  | o :: l, bs, E, σ, tr, h => by
    obtain ⟨ts, r, rfl, h1, h2⟩ := h
    obtain ⟨h3, h4⟩ := lN.at h2
    refine ⟨by simp [h3], fun i o' ho => ?_⟩
    cases i with
    | zero =>
      simp only [List.getElem?_cons_zero, sJ] at ho
      subst ho
      refine ⟨ts, rfl, ?_, ?_⟩
      · cases bs <;> exact h1
      · cases r <;> rfl
    | succ i =>
      obtain ⟨ts', k1, k2, k3⟩ := h4 i o' (by simpa using ho)
      refine ⟨ts', by simpa using k1, ?_, ?_⟩
      · cases bs <;> simpa [ce, aQ] using k2
      · simpa [aQ] using k3
theorem e9 (t : Tmp) : ∀ (l : List Oper) (tr : List TS) (d d' : Nat → Bool) (e : Ent), (∀ j o, l[j]? = some o → o.dst = some t → d j = d' j) → eO t l tr d e = eO t l tr d' e
  | [], tr, d, d', e, _ => by simp [eO]
  | o :: l, [], d, d', e, _ => by simp [eO]
  | o :: l, ts :: tr, d, d', e, h => by
    simp only [eO]
    have : (if d 0 = true ∧ o.dst = some t then ts.e else e) = (if d' 0 = true ∧ o.dst = some t then ts.e else e) := by
      by_cases ho : o.dst = some t
      · rw [h 0 o (by simp) ho]
      · simp [ho]
    rw [this]
    exact e9 t l tr _ _ _ fun j o' hj hd => h (j + 1) o' (by simpa using hj) hd
theorem jg (t : Tmp) (l : List Oper) (tr : List TS) (d : Nat → Bool) (e : Ent) (h : ∀ j o, l[j]? = some o → o.dst = some t → d j = false) : eO t l tr d e = e := by
  rw [e9 t l tr d (fun _ => false) e h]
  clear h
  induction l generalizing tr e with
  | nil => simp [eO]
  | cons o l ih =>
    cases tr with
    | nil => simp [eO]
    | cons ts tr => simp only [eO]; rw [ih]; simp
theorem qH (t : Tmp) : ∀ (l : List Oper) (tr : List TS) (d : Nat → Bool) (e : Ent) (i : Nat) (o : Oper) (ts : TS), l[i]? = some o → tr[i]? = some ts → o.dst = some t →
    (∀ j o', l[j]? = some o' → o'.dst = some t → i < j → d j = false) → eO t l tr (fun j => if j = i then true else d j) e = ts.e
  | [], tr, d, e, i, o, ts, h, _, _, _ => by simp at h
  | x :: l, [], d, e, i, o, ts, _, h, _, _ => by simp at h
  | x :: l, y :: tr, d, e, i, o, ts, h1, h2, h3, h4 => by
    simp only [eO]
    cases i with
    | zero =>
      simp only [List.getElem?_cons_zero, sJ] at h1 h2
      subst h1; subst h2
      rw [jg]
      · simp [h3]
      · intro j o' hj hd
        simp only [Nat.add_eq_zero_iff, Nat.one_ne_zero, and_false, if_false]
        exact h4 (j + 1) o' (by simpa using hj) hd (by omega)
    | succ i =>
      have := qH t l tr (fun j => d (j + 1)) (if (if 0 = i + 1 then true else d 0) = true ∧ x.dst = some t then y.e else e) i o ts (by simpa using h1) (by simpa using h2) h3
        (fun j o' hj hd hij => h4 (j + 1) o' (by simpa using hj) hd (by omega))
      rw [← this]
      apply e9
      intro j o' _ _
      simp
theorem kv (t : Tmp) (l : List Oper) (tr : List TS) (d : Nat → Bool) (e : Ent) (i : Nat) (o : Oper) (h : l[i]? = some o) (hd : o.dst ≠ some t) : eO t l tr (fun j => if j = i then true else d j) e = eO t l tr d e := by
  apply e9
  intro j o' hj hdj
  by_cases e : j = i
  · subst e; rw [h] at hj; simp only [sJ] at hj; subst hj; exact (hd hdj).elim
  · simp [e]
theorem vy (E : Env) (d : Option Tmp) (e : Ent) (t : Tmp) (h : ∀ x, d = some x → x < 512) : (E.putD d e).get t = if d = some t then e else E.get t := by
  cases d with
  | none => simp [Env.putD]
  | some x =>
    simp only [Env.putD]
    rw [Env.get_put' E x t e (h x rfl)]
    by_cases he : t = x
    · subst he; simp
    · have : x ≠ t := fun h => he h.symm
      simp [he, this]
theorem mF (t : Tmp) : ∀ (l : List Oper) (tr : List TS) (E : Env) (k : Nat), (∀ (j : Nat) (o : Oper) (x : Nat), l[j]? = some o → o.dst = some x → x < 512) → tr.length = l.length → (ce E l tr k).get t = eO t l tr (fun j => decide (j < k)) (E.get t)
  | [], tr, E, k, _, _ => by cases k <;> simp [ce, eO]
  | o :: l, [], E, k, _, h => by simp at h
  | o :: l, ts :: tr, E, 0, _, _ => by
    simp only [ce]
    rw [jg]
    intro j o' _ _; simp
  | o :: l, ts :: tr, E, k + 1, hx, h => by
    simp only [ce, eO]
    rw [mF t l tr _ k (fun j o' x hj hd => hx (j + 1) o' x (by simpa using hj) hd) (by simpa using h)]
    rw [vy _ _ _ _ (fun x hd => hx 0 o x (by simp) hd)]
    have e1 : (fun j => decide (j + 1 < k + 1)) = (fun j => decide (j < k)) := by funext j; simp
    simp [e1]
theorem nd {γ : Bool} {E : Env} {σ : List OB} {o : Oper} (h : e8 o = false) : (∀ C v σ', bn P γ E σ o.op ≠ .upd C v σ') ∧ ∀ C f args, bn P γ E σ o.op ≠ .call C f args := by
  unfold e8 at h
  constructor
  · intro C v σ' hr
    cases hop : o.op
    all_goals (rw [hop] at h hr; simp only [bn] at hr; try (simp at h; done))
    case move => cases hr
    case assign => cases hr
    case pick => unfold mU at hr; split at hr <;> cases hr
    case build => unfold ll at hr; split at hr <;> first | cases hr | (split at hr <;> cases hr)
    case load => unfold jS at hr; split at hr <;> first | cases hr | (split at hr <;> cases hr)
    case nilCheck => unfold fQ at hr; split at hr <;> cases hr
    case binOp => unfold iR at hr; split at hr <;> first | cases hr | (split at hr <;> first | cases hr | (split at hr <;> first | cases hr | (split at hr <;> cases hr)))
    case unOp => unfold unR at hr; split at hr <;> cases hr
    case convert => unfold mV at hr; split at hr <;> cases hr
    case fieldAddr => unfold dG at hr; split at hr <;> cases hr
    case field => unfold lk at hr; split at hr <;> cases hr
    case indexAddr => unfold di at hr; split at hr <;> first | cases hr | (split at hr <;> cases hr)
    case index => unfold jz at hr; split at hr <;> cases hr
    case extract => unfold iT at hr; split at hr <;> cases hr
    case slice =>
      unfold jA at hr
      split at hr
      · split at hr
        · split at hr
          · split at hr <;> cases hr
          · cases hr
        · cases hr
      · split at hr <;> first | cases hr | (split at hr <;> first | cases hr | (split at hr <;> cases hr))
    case makeFunc => unfold ie at hr; split at hr <;> cases hr
    case call c =>
      split at hr
      · simp_all
      · rename_i b hb
        simp only [hb] at h
        unfold eX at hr
        split at hr
        · unfold mP at hr; split at hr <;> cases hr
        · simp at h
        · unfold eW at hr; split at hr <;> cases hr
        · unfold eW at hr; split at hr <;> cases hr
        · cases hr
      · cases hr
  · intro C f args hr
    cases hop : o.op
    all_goals (rw [hop] at h hr; simp only [bn] at hr; try (simp at h; done))
    case move => cases hr
    case assign => cases hr
    case pick => unfold mU at hr; split at hr <;> cases hr
    case build => unfold ll at hr; split at hr <;> first | cases hr | (split at hr <;> cases hr)
    case load => unfold jS at hr; split at hr <;> first | cases hr | (split at hr <;> cases hr)
    case nilCheck => unfold fQ at hr; split at hr <;> cases hr
    case binOp => unfold iR at hr; split at hr <;> first | cases hr | (split at hr <;> first | cases hr | (split at hr <;> first | cases hr | (split at hr <;> cases hr)))
    case unOp => unfold unR at hr; split at hr <;> cases hr
    case convert => unfold mV at hr; split at hr <;> cases hr
    case fieldAddr => unfold dG at hr; split at hr <;> cases hr
    case field => unfold lk at hr; split at hr <;> cases hr
    case indexAddr => unfold di at hr; split at hr <;> first | cases hr | (split at hr <;> cases hr)
    case index => unfold jz at hr; split at hr <;> cases hr
    case extract => unfold iT at hr; split at hr <;> cases hr
    case slice =>
      unfold jA at hr
      split at hr
      · split at hr
        · split at hr
          · split at hr <;> cases hr
          · cases hr
        · cases hr
      · split at hr <;> first | cases hr | (split at hr <;> first | cases hr | (split at hr <;> cases hr))
    case makeFunc => unfold ie at hr; split at hr <;> cases hr
    case call c =>
      split at hr
      · simp_all
      · rename_i b hb
        unfold eX at hr
        split at hr
        · unfold mP at hr; split at hr <;> cases hr
        · split at hr
          · unfold jn at hr
            split at hr
            · cases hr
            · split at hr <;> first | cases hr | (split at hr <;> cases hr)
          · cases hr
        · unfold eW at hr; split at hr <;> cases hr
        · unfold eW at hr; split at hr <;> cases hr
        · cases hr
      · cases hr
end
end Pam
namespace Pam
open Go
section
variable {P : Program} {ops : Array Oper}
theorem vz {E E' : Env} {ts : List Tmp} (h : ∀ t ∈ ts, E.get t = E'.get t) (x : Operand) (hx : ∀ t, x = .tmp t → t ∈ ts) : ev E x = ev E' x := by
 cases x with
 | tmp t => exact h t (hx t rfl)
 | _ => rfl
theorem nM {E E' : Env} (l : List Operand) (h : ∀ x ∈ l, ev E x = ev E' x) : l.map (ev E) = l.map (ev E') := List.map_congr_left h
theorem lv {γ : Bool} {E E' : Env} {σ : List OB} (op : Op) (h : ∀ x ∈ op.operands, ev E x = ev E' x) : bn P γ E σ op = bn P γ E' σ op := by
 cases op
 case move x => simp only [bn]; rw [h x (by simp [Op.operands])]
 case assign x => simp only [bn]; rw [h x (by simp [Op.operands])]
 case pick c a b => simp only [bn]; rw [h c (by simp [Op.operands]), h a (by simp [Op.operands]), h b (by simp [Op.operands])]
 case box T x => simp only [bn]; rw [h x (by simp [Op.operands])]
 case build T parts =>
  simp only [bn, oB]
  rw [List.map_congr_left]
  intro p hp
  rw [h p.2 (by simp only [Op.operands, List.mem_toArray, List.mem_map]; exact ⟨p, hp, rfl⟩)]
 case buildSlice T len parts =>
  simp only [bn, oB]
  rw [List.map_congr_left]
  intro p hp
  rw [h p.2 (by simp only [Op.operands, List.mem_toArray, List.mem_map]; exact ⟨p, hp, rfl⟩)]
 case load T x => simp only [bn]; rw [h x (by simp [Op.operands])]
 case store T x y => simp only [bn]; rw [h x (by simp [Op.operands]), h y (by simp [Op.operands])]
 case nilCheck x => simp only [bn]; rw [h x (by simp [Op.operands])]
 case binOp op T x y T' => simp only [bn]; rw [h x (by simp [Op.operands]), h y (by simp [Op.operands])]
 case unOp op T x => simp only [bn]; rw [h x (by simp [Op.operands])]
 case convert s d x => simp only [bn]; rw [h x (by simp [Op.operands])]
 case fieldAddr T x i => simp only [bn]; rw [h x (by simp [Op.operands])]
 case field T x i => simp only [bn]; rw [h x (by simp [Op.operands])]
 case indexAddr T x i => simp only [bn]; rw [h x (by simp [Op.operands]), h i (by simp [Op.operands])]
 case index T x i => simp only [bn]; rw [h x (by simp [Op.operands]), h i (by simp [Op.operands])]
 case extract x i => simp only [bn]; rw [h x (by simp [Op.operands])]
 case slice T x lo hi mx =>
  simp only [bn]
  rw [h x (by simp [Op.operands])]
  have hl : ∀ o : Option Operand, (∀ y, o = some y → ev E y = ev E' y) → o.map (ev E) = o.map (ev E') := by
   intro o ho; cases o with
   | none => rfl
   | some y => simp [ho y rfl]
  rw [hl lo fun y hy => h y (by simp [Op.operands, hy]), hl hi fun y hy => h y (by simp [Op.operands, hy]), hl mx fun y hy => h y (by simp [Op.operands, hy])]
 case makeSlice T x y => simp only [bn]; rw [h x (by simp [Op.operands]), h y (by simp [Op.operands])]
 case makeFunc fn first caps =>
  simp only [bn]
  rw [nM]
  intro x hx
  exact h x (by simp only [Op.operands, Array.mem_append]; right; simpa using hx)
 case call c =>
  simp only [bn]
  have hargs : c.args.toList.map (ev E) = c.args.toList.map (ev E') := nM _ fun x hx => h x (by simp only [Op.operands, Call.operands, Array.mem_append]; right; simpa using hx)
  rw [hargs]
  split
  ·rename_i f hf
   rw [h f (by simp only [Op.operands, Call.operands, Array.mem_append]; left; simp [hf])]
  ·rfl
  ·rfl
 all_goals rfl
theorem ql {E E' : Env} (o : Oper) (h : ∀ t ∈ o.looksAt ops, E.get t = E'.get t) : dC ops E o.guard = dC ops E' o.guard := by
 unfold dC
 cases hg : o.guard with
 | none => rfl
 | some jw =>
  obtain ⟨j, want⟩ := jw
  simp only
  cases ho : ops[j]? with
  | none => rfl
  | some o' =>
   simp only
   cases hd : o'.dst with
   | none => rfl
   | some d =>
    simp only
    rw [h d (by simp [Oper.looksAt, hg, ho, hd])]
def lw : PV → Option Nat
 | .c (.optr b _) => some b
 | .c (.osl b _ _ _) => some b
 | .c (.oel b _ _ _) => some b
 | _ => none
theorem tj {σ σ' : List OB} {c : CV} (h : ∀ b ob, lw (.c c) = some b → σ[b]? = some ob → σ'[b]? = some ob) (ha : dU σ c) : dU σ' c := by
 cases c <;> simp only [dU] at ha ⊢
 all_goals
  split at ha
  ·rename_i hb; rw [h _ _ rfl hb]; exact ha
  ·exact ha.elim
theorem uM {E : Env} {σ σ' : List OB} {op : Op} {C : Prop} {v : PV} (h : bn P true E σ op = .ok C v) (hC : C)
  (hh : ∀ x, (ev E x).cond = true → ∀ b ob, lw (ev E x).v = some b → σ[b]? = some ob → σ'[b]? = some ob) : ∃ C', bn P true E σ' op = .ok C' v ∧ C' := by
 have al : ∀ x c, (ev E x).v = .c c → aF true (ev E x) → dU σ c → dU σ' c := fun x c hv hn ha => tj (fun b ob ht hb => hh x (hn rfl) b ob (by rw [hv]; exact ht) hb) ha
 have wd : ∀ x b ver lo len s, (ev E x).v = .c (.osl b ver lo len) → aF true (ev E x) → qA σ b s → qA σ' b s := by
  intro x b ver lo len s hv hn ha
  unfold qA at ha ⊢
  cases hb : σ[b]? with
  | none => rw [hb] at ha; exact ha.elim
  | some ob => rw [hh x (hn rfl) b ob (by rw [hv]; rfl) hb]; rw [hb] at ha; exact ha
 cases op
 case load T x =>
  simp only [bn, jS] at h ⊢
  split at h
  ·rename_i b off hv
   split at h
   ·rename_i cs hb
    simp only [R.ok.injEq] at h; obtain ⟨rfl, rfl⟩ := h
    have := hh x (hC.1 rfl) b _ (by rw [hv]; rfl) hb
    exact ⟨_, by first | rfl | (simp only [hv, this]; done) | (simp only [hv, this]; rfl) | (simp only [this]; done) | (simp only [this]; rfl), hC⟩
   ·cases h
  ·rename_i s es i j hv
   exact ⟨C, by first | exact h | (simp only [hv]; exact h), hC⟩
  ·rename_i b ver i j hv
   split at h
   ·rename_i s ver' T' es hb
    simp only [R.ok.injEq] at h; obtain ⟨rfl, rfl⟩ := h
    have := hh x (hC.1 rfl) b _ (by rw [hv]; rfl) hb
    exact ⟨_, by first | rfl | (simp only [hv, this]; done) | (simp only [hv, this]; rfl) | (simp only [this]; done) | (simp only [this]; rfl), hC⟩
   ·cases h
  ·cases h
 case nilCheck x =>
  simp only [bn, fQ] at h ⊢
  split at h
  ·rename_i b off hv
   simp only [R.ok.injEq] at h; obtain ⟨rfl, rfl⟩ := h
   refine ⟨_, by first | rfl | (simp only [hv]; done) | (simp only [hv]; rfl), ?_⟩
   exact ⟨hC.1, al x _ hv hC.1 hC.2⟩
  ·rename_i hv; exact ⟨C, by first | exact h | (simp only [hv]; exact h), hC⟩
  ·rename_i b ver i j hv
   simp only [R.ok.injEq] at h; obtain ⟨rfl, rfl⟩ := h
   refine ⟨_, by first | rfl | (simp only [hv]; done) | (simp only [hv]; rfl), ?_⟩
   exact ⟨hC.1, al x _ hv hC.1 hC.2⟩
  ·cases h
 case fieldAddr T x i =>
  simp only [bn, dG] at h ⊢
  split at h
  ·rename_i b off hv
   simp only [R.ok.injEq] at h; obtain ⟨rfl, rfl⟩ := h
   refine ⟨_, by first | rfl | (simp only [hv]; done) | (simp only [hv]; rfl), ?_⟩
   exact ⟨hC.1, al x _ hv hC.1 hC.2.1, hC.2.2⟩
  ·rename_i hv; exact ⟨C, by first | exact h | (simp only [hv]; exact h), hC⟩
  ·rename_i b ver k j hv
   simp only [R.ok.injEq] at h; obtain ⟨rfl, rfl⟩ := h
   refine ⟨_, by first | rfl | (simp only [hv]; done) | (simp only [hv]; rfl), ?_⟩
   exact ⟨hC.1, al x _ hv hC.1 hC.2.1, hC.2.2⟩
  ·cases h
 case indexAddr T x i =>
  simp only [bn, di] at h ⊢
  split at h
  ·rename_i hv hv2; exact ⟨C, by first | exact h | (simp only [hv, hv2]; exact h), hC⟩
  ·rename_i b ver lo len k n hv hv2
   split at h
   ·rename_i s ver' T' es hb
    simp only [R.ok.injEq] at h; obtain ⟨rfl, rfl⟩ := h
    have := hh x (hC.1 rfl) b _ (by rw [hv]; rfl) hb
    exact ⟨_, by first | rfl | (simp only [hv, hv2, this]; done) | (simp only [hv, hv2, this]; rfl) | (simp only [this]; done) | (simp only [this]; rfl), hC⟩
   ·cases h
  ·rename_i b off k n hv hv2
   simp only [R.ok.injEq] at h; obtain ⟨rfl, rfl⟩ := h
   refine ⟨_, by first | rfl | (simp only [hv, hv2]; done) | (simp only [hv, hv2]; rfl), ?_⟩
   exact ⟨hC.1, hC.2.1, al x _ hv hC.1 hC.2.2.1, hC.2.2.2⟩
  ·rename_i b ver k j k0 n hv hv2
   split at h
   ·rename_i s ver' T' es hb
    simp only [R.ok.injEq] at h; obtain ⟨rfl, rfl⟩ := h
    have := hh x (hC.1 rfl) b _ (by rw [hv]; rfl) hb
    exact ⟨_, by first | rfl | (simp only [hv, hv2, this]; done) | (simp only [hv, hv2, this]; rfl) | (simp only [this]; done) | (simp only [this]; rfl), hC⟩
   ·cases h
  ·cases h
 case slice T x lo hi mx =>
  simp only [bn, jA] at h ⊢
  split at h
  ·rename_i m hm
   exact ⟨C, by first | exact h | (simp only [hm]; exact h), hC⟩
  ·rename_i hm
   split at h
   ·rename_i s es hv
    split at h
    ·rename_i e1 e2; exact ⟨C, by first | exact h | (simp only [hm, hv, e1, e2]; exact h), hC⟩
    ·cases h
   ·rename_i b ver lo0 len hv
    split at h
    ·rename_i hlo
     split at h
     ·rename_i _ _ e2
      simp only [R.ok.injEq] at h; obtain ⟨rfl, rfl⟩ := h
      refine ⟨_, by first | rfl | (simp only [hm, hv, hlo, e2]; done) | (simp only [hm, hv, hlo, e2]; rfl), ?_⟩
      exact ⟨hC.1, hC.2.1, al x _ hv hC.1 hC.2.2.1, hC.2.2.2⟩
     ·cases h
    ·rename_i q hlo
     split at h
     ·rename_i _ _ _ _ e1 e2
      simp only [R.ok.injEq] at h; obtain ⟨rfl, rfl⟩ := h
      refine ⟨_, by first | rfl | (simp only [hm, hv, hlo, e1, e2]; done) | (simp only [hm, hv, hlo, e1, e2]; rfl), ?_⟩
      exact ⟨hC.1, hC.2.1, hC.2.2.1, al x _ hv hC.1 hC.2.2.2.1, hC.2.2.2.2.1, hC.2.2.2.2.2.1, wd x _ _ _ _ _ hv hC.1 hC.2.2.2.2.2.2.1, hC.2.2.2.2.2.2.2⟩
     ·cases h
   ·rename_i s hv
    split at h
    ·rename_i e1 e2; exact ⟨C, by first | exact h | (simp only [hm, hv, e1, e2]; exact h), hC⟩
    ·cases h
   ·cases h
 case call c =>
  simp only [bn] at h ⊢
  split at h
  ·unfold ph at h; split at h <;> cases h
  ·rename_i b hcal
   try simp only [hcal]
   unfold eX at h ⊢
   split at h
   ·rename_i T x hts hxs
    try simp only [hts, hxs]
    have hx : ∃ X, x = ev E X := by
     have : x ∈ c.args.toList.map (ev E) := by rw [hxs]; simp
     obtain ⟨X, _, hX⟩ := List.mem_map.1 this
     exact ⟨X, hX.symm⟩
    obtain ⟨X, rfl⟩ := hx
    unfold mP at h ⊢
    split at h
    ·rename_i hv; exact ⟨C, by first | exact h | (simp only [hv]; exact h), hC⟩
    ·rename_i b ver lo len hv
     simp only [R.ok.injEq] at h; obtain ⟨rfl, rfl⟩ := h
     refine ⟨_, by first | rfl | (simp only [hv]; done) | (simp only [hv]; rfl), ?_⟩
     exact ⟨hC.1, al X _ hv hC.1 hC.2.1, hC.2.2⟩
    ·rename_i hv; exact ⟨C, by first | exact h | (simp only [hv]; exact h), hC⟩
    ·rename_i hv; exact ⟨C, by first | exact h | (simp only [hv]; exact h), hC⟩
    ·rename_i hv; exact ⟨C, by first | exact h | (simp only [hv]; exact h), hC⟩
    ·rename_i hv; exact ⟨C, by first | exact h | (simp only [hv]; exact h), hC⟩
    ·cases h
   ·split at h
    ·unfold jn at h
     split at h
     ·cases h
     ·split at h <;> first | cases h | (split at h <;> cases h)
    ·cases h
   ·rename_i hxs; exact ⟨C, by first | exact h | (simp only [hxs]; exact h), hC⟩
   ·rename_i hxs; exact ⟨C, by first | exact h | (simp only [hxs]; exact h), hC⟩
   ·cases h
  ·cases h
 all_goals first
  | exact ⟨C, h, hC⟩
  | (simp only [bn] at h; unfold kC at h; split at h <;> cases h)
  | (simp only [bn] at h; unfold rh at h; cases h)
  | (simp only [bn] at h; unfold eV at h; split at h <;> first | cases h | (split at h <;> cases h))
  | (simp only [bn] at h; unfold jT at h; split at h <;> first | cases h | (split at h <;> cases h))
  | (simp only [bn] at h; unfold gm at h; split at h <;> cases h)
  | cases h
theorem pw {E : Env} {σ σ' : List OB} {γ : Bool} {op : Op} {C : Prop} {f : FuncId} {args : List PV} (h : bn P γ E σ op = .call C f args) : bn P γ E σ' op = .call C f args := by
 cases op
 case call c =>
  simp only [bn] at h ⊢
  split at h
  ·exact h
  ·unfold eX at h
   split at h
   ·unfold mP at h; split at h <;> cases h
   ·split at h
    ·unfold jn at h
     split at h
     ·cases h
     ·split at h <;> first | cases h | (split at h <;> cases h)
    ·cases h
   ·unfold eW at h; split at h <;> cases h
   ·unfold eW at h; split at h <;> cases h
   ·cases h
  ·cases h
 case load => simp only [bn] at h; unfold jS at h; split at h <;> first | cases h | (split at h <;> cases h)
 case nilCheck => simp only [bn] at h; unfold fQ at h; split at h <;> cases h
 case fieldAddr => simp only [bn] at h; unfold dG at h; split at h <;> cases h
 case indexAddr => simp only [bn] at h; unfold di at h; split at h <;> first | cases h | (split at h <;> cases h)
 case slice =>
  simp only [bn] at h
  unfold jA at h
  split at h
  ·split at h
   ·split at h
    ·split at h <;> cases h
    ·cases h
   ·cases h
  ·split at h <;> first | cases h | (split at h <;> first | cases h | (split at h <;> cases h))
 case alloc => simp only [bn] at h; unfold kC at h; split at h <;> cases h
 case box => simp only [bn] at h; unfold rh at h; cases h
 case buildSlice => simp only [bn] at h; unfold eV at h; split at h <;> first | cases h | (split at h <;> cases h)
 case store => simp only [bn] at h; unfold jT at h; split at h <;> first | cases h | (split at h <;> cases h)
 case makeSlice => simp only [bn] at h; unfold gm at h; split at h <;> cases h
 all_goals exact h
end
end Pam
namespace Pam
open Go
section
variable {P : Program}
theorem uN {G : Gh} {E : Env} {σ : List OB} {a : Act} {w : World} {C : Prop} {f : FuncId} {args : List PV} {res : PV} {K : Act → World → Prop} {Q : Exit → Act → World → Prop} (hsim : Sim G E σ a w) (o : Oper)
  (hrun : bn P true E σ o.op = .call C f args) (hC : C) (hs : cz P f args res) (hargs : args.all PV.noOwn = true) (hres : ∀ n, res.ren (cT n []) = res)
  (next : ∀ G' w' v, Gle G G' → bl G.own G'.own → Inv G' σ w' → aR G' res v → K (a.put o.dst v) w') : o.wp P a w K Q := by
 have ha : args.map (PV.ren (cT σ.length [])) = args ∧ ii 0 args := by
  clear hs hrun
  induction args with
  | nil => exact ⟨rfl, trivial⟩
  | cons p l ih =>
   simp only [List.all_cons, Bool.and_eq_true] at hargs
   obtain ⟨h1, h2⟩ := PV.noOwn_ren hargs.1 (cT σ.length [])
   obtain ⟨h3, h4⟩ := ih hargs.2
   exact ⟨by simp [h1, h3], h2 0, h4⟩
 obtain ⟨hf, hcall⟩ := hs
 obtain ⟨vs, e1, e2⟩ := oe hsim rfl o hrun hC hf
 have hi := hsim.inv
 have hnd : ([] : List Nat).Nodup := List.nodup_nil
 have hlt : ∀ b ∈ ([] : List Nat), b < σ.length := by simp
 have hci : Inv (cb G w []) [] w := nc (σc := []) hi hnd hlt rfl (fun k ob h => by simp at h) trivial
 have hown := jV (w := w) hi hlt
 rw [← ha.1] at e2
 have hcv := hcall (cb G w []) w vs (by simp [cb]) hci (aL.unmapP (G := G) (G' := cb G w []) rfl _ hown ha.2 e2)
 unfold Oper.wp
 rw [e1]
 refine hcv.mono fun e w' hr => ?_
 obtain ⟨G', σ', p, v, h1, h2, h3, h4⟩ := hr
 rcases h4 with ⟨rfl, rfl, rfl⟩ | ⟨_, h4⟩
 ·obtain ⟨G'', g1, g2, g3, g4⟩ := mc hi hnd hlt h1 h2 (by simp)
  have g5 := g4 _ v h3
  rw [hres] at g5
  exact next G'' w' v g1 g2 (by simpa [cB] using g3) g5
 ·exact h4.elim
theorem tk {G : Gh} {E : Env} {σ σ2 : List OB} {a : Act} {w : World} {C : Prop} {f : FuncId} {args : List PV} {res : PV} {K : Act → World → Prop} {Q : Exit → Act → World → Prop} (hsim : Sim G E σ a w) (o : Oper)
  (hrun : bn P true E σ o.op = .call C f args) (hC : C) (hs : jW P σ f args res σ2)
  (next : ∀ G' w' v, Gle G G' → (∀ b o, G.H b = some o → G'.H b = some o) → bl G.own G'.own → Inv G' σ2 w' → aR G' res v → K (a.put o.dst v) w') : o.wp P a w K Q := by
 obtain ⟨args', σc, post, pp, ρ, ⟨hf, hcall⟩, hnd, hlt, hargs, hσ, hu, hub, hpost, hpp⟩ := hs
 obtain ⟨vs, e1, e2⟩ := oe hsim rfl o hrun hC hf
 have hi := hsim.inv
 have hlen : σc.length = ρ.length := by have := congrArg List.length hσ; simpa using this.symm
 have hσ' : ∀ (k : Nat) (ob : OB), σc[k]? = some ob → ∃ b, ρ[k]? = some b ∧ σ[b]? = some (ob.ren (cT σ.length ρ)) := by
  intro k ob h
  have hk : k < ρ.length := by rw [← hlen]; exact (List.getElem?_eq_some_iff.1 h).1
  have := congrArg (fun l => l[k]?) hσ
  simp only [List.getElem?_map, h, Option.map_some, List.getElem?_eq_getElem hk, sJ] at this
  exact ⟨ρ[k], List.getElem?_eq_getElem hk, this⟩
 have hci := nc hi hnd hlt hlen hσ' hub
 have hown := jV (w := w) hi hlt
 rw [hargs] at e2
 have hcv := hcall (cb G w ρ) w vs (by simp [cb, hlen]) hci (aL.unmapP (G := G) (G' := cb G w ρ) rfl _ hown hu e2)
 unfold Oper.wp
 rw [e1]
 refine hcv.mono fun e w' hres => ?_
 obtain ⟨G', σ', p, v, h1, h2, h3, h4⟩ := hres
 have hl : ρ.length ≤ σ'.length := by
  rw [← h2.len]
  rcases Nat.eq_zero_or_pos ρ.length with e0 | e0
  ·omega
  ·have hlast : (cb G w ρ).own[ρ.length - 1]? = some ((cb G w ρ).own[ρ.length - 1]'(by simp [cb]; omega)) := List.getElem?_eq_getElem _
   obtain ⟨oo', q1, _⟩ := h1.own _ _ (by simp [cb]; omega) hlast
   have := (List.getElem?_eq_some_iff.1 q1).1
   omega
 obtain ⟨G'', g1, g2, g3, g4⟩ := mc hi hnd hlt h1 h2 hl
 rcases h4 with ⟨rfl, h4⟩ | ⟨rfl, h4⟩
 ·obtain ⟨k1, k2⟩ := hpost p σ' h4 hl
  rw [k2] at g3
  have g5 := g4 p v h3
  rw [k1] at g5
  exact next G'' w' v g1 g1.le.H g2 g3 g5
 ·exact (hpp _ _ h4).elim
theorem uO {G : Gh} {σ : List OB} {w : World} {p : PV} {v : Value} (hi : Inv G σ w) (h : aR G p v) {b : Nat} (hb : lw p = some b) : b < σ.length := by
 have : ∀ oo : Option OG, G.own[b]? = some oo → b < σ.length := fun oo h => by rw [← hi.len]; exact (List.getElem?_eq_some_iff.1 h).1
 unfold lw at hb
 split at hb <;> simp only [sJ, reduceCtorEq] at hb
 ·subst hb; have h' : cH G (.optr _ _) v := h; obtain ⟨_, oo, h1, _⟩ := h'; exact this oo h1
 ·subst hb; have h' : cH G (.osl _ _ _ _) v := h; obtain ⟨_, oo, h1, _⟩ := h'; exact this oo h1
 ·subst hb; have h' : cH G (.oel _ _ _ _) v := h; obtain ⟨_, oo, h1, _⟩ := h'; exact this oo h1
def fS (E : Env) : List Tmp → Env
 | [] => ⟨E.n, E.na, .nil⟩
 | t :: r => (fS E r).put t (E.get t)
theorem nf (E : Env) : ∀ l, (fS E l).n = E.n ∧ (fS E l).na = E.na
 | [] => ⟨rfl, rfl⟩
 | _ :: r => nf E r
theorem nN (E : Env) : ∀ (l : List Tmp) (t : Tmp), (∀ x ∈ l, x < 512) → (t ∈ l → (fS E l).get t = E.get t) ∧ (t ∉ l → ((fS E l).get t).cond = false)
 | [], t, _ => ⟨fun h => by simp at h, fun _ => by simp [fS, Env.get, Tr.get, Tr.ent]⟩
 | x :: l, t, h => by
  obtain ⟨h1, h2⟩ := nN E l t fun y hy => h y (by simp [hy])
  simp only [fS]
  rw [Env.get_put' _ x t _ (h x (by simp))]
  constructor
  ·intro ht
   by_cases e : t = x
   ·subst e; simp
   ·rw [iN e]; exact h1 (by simpa [e] using ht)
  ·intro ht
   simp only [List.mem_cons, not_or] at ht
   rw [iN ht.1]; exact h2 ht.2
theorem oZ : ∀ (l : List Oper) (tr : List TS) (E : Env) (k : Nat), (ce E l tr k).n = E.n ∧ (ce E l tr k).na = E.na
 | [], tr, E, k => by cases k <;> simp [ce]
 | o :: l, [], E, k => by cases k <;> simp [ce]
 | o :: l, ts :: tr, E, 0 => by simp [ce]
 | o :: l, ts :: tr, E, k + 1 => by
  simp only [ce]
  obtain ⟨h1, h2⟩ := oZ l tr (E.putD o.dst ts.e) k
  rw [h1, h2]
  cases o.dst <;> exact ⟨rfl, rfl⟩
structure Chk (ops : Array Oper) (l : List Oper) (masks : List Nat) (bar : List Bool) : Prop where
 mask : ∀ (i : Nat) (o : Oper), l[i]? = some o → masks.getD i 0 = orM masks (dj o)
 lt : ∀ (i : Nat) (o : Oper), l[i]? = some o → ∀ j ∈ dj o, j < i
 dst : ∀ (i : Nat) (o : Oper), l[i]? = some o → ∀ d, o.dst = some d → d < 512
 look : ∀ (i : Nat) (o : Oper), l[i]? = some o → ∀ t ∈ o.looksAt ops, t < 512
 loud : ∀ (i j : Nat) (x y : Oper), l[i]? = some x → l[j]? = some y → e8 x = true → e8 y = true → js masks i j = true
 hit : ∀ (i j : Nat) (x y : Oper), l[i]? = some x → l[j]? = some y → rY ops x y = true → js masks i j = true
 bar : ∀ (i j : Nat) (x y : Oper), l[i]? = some x → l[j]? = some y → bar.getD i false = true → js masks i j = true
theorem yd {ops : Array Oper} {l : List Oper} {masks : List Nat} {bar : List Bool} (h : chk ops l masks bar = true) : Chk ops l masks bar := by
 unfold chk at h
 simp only [Bool.and_eq_true, List.all_eq_true] at h
 obtain ⟨h1, h2⟩ := h
 have m : ∀ (i : Nat) (o : Oper), l[i]? = some o → (o, i) ∈ l.zipIdx := fun i o ho => by
  rw [List.mem_zipIdx_iff_getElem?]; simpa using ho
 constructor
 ·intro i o ho; have := h1 _ (m i o ho); simp only [Bool.and_eq_true, beq_iff_eq] at this; exact this.1.1.1
 ·intro i o ho j hj
  have := h1 _ (m i o ho)
  simp only [Bool.and_eq_true, List.all_eq_true, decide_eq_true_eq] at this
  exact this.1.1.2 j hj
 ·intro i o ho d hd
  have := h1 _ (m i o ho)
  simp only [Bool.and_eq_true, hd, decide_eq_true_eq] at this
  exact this.1.2
 ·intro i o ho t ht
  have := h1 _ (m i o ho)
  simp only [Bool.and_eq_true, List.all_eq_true, decide_eq_true_eq] at this
  exact this.2 t ht
 ·intro i j x y hx hy lx ly
  have := h2 _ (m i x hx) _ (m j y hy)
  simp only [Bool.and_eq_true, Bool.or_eq_true, Bool.not_eq_true', lx, ly] at this
  simpa using this.1.1
 ·intro i j x y hx hy hh
  have := h2 _ (m i x hx) _ (m j y hy)
  simp only [Bool.and_eq_true, Bool.or_eq_true, Bool.not_eq_true', hh] at this
  simpa using this.1.2
 ·intro i j x y hx hy hh
  have := h2 _ (m i x hx) _ (m j y hy)
  simp only [Bool.and_eq_true, Bool.or_eq_true, Bool.not_eq_true', hh] at this
  simpa using this.2
def ng (l : List Oper) (d : Nat → Bool) : Prop := ∀ (i : Nat) (o : Oper), l[i]? = some o → d i = true → ∀ j ∈ dj o, d j = true
theorem Chk.bit {ops : Array Oper} {l : List Oper} {masks : List Nat} {bar : List Bool} (c : Chk ops l masks bar) {d : Nat → Bool} (hd : ng l d) : ∀ (i : Nat) (o : Oper), l[i]? = some o → ∀ j, (masks.getD i 0).testBit j = true → j < i ∧ (d i = true → d j = true) := by
 intro i
 induction i using Nat.strongRecOn with
 | _ i ih =>
  intro o ho j hj
  rw [c.mask i o ho] at hj
  obtain ⟨k, hk, h⟩ := nL masks j _ hj
  have hlt := c.lt i o ho k hk
  have hkl : k < l.length := by have := (List.getElem?_eq_some_iff.1 ho).1; omega
  rcases h with rfl | h
  ·exact ⟨hlt, fun hi => hd i o ho hi k hk⟩
  ·obtain ⟨h1, h2⟩ := ih k hlt l[k] (List.getElem?_eq_getElem hkl) j h
   exact ⟨by omega, fun hi => h2 (hd i o ho hi k hk)⟩
theorem Chk.done {ops : Array Oper} {l : List Oper} {masks : List Nat} {bar : List Bool} (c : Chk ops l masks bar) {d : Nat → Bool} (hd : ng l d) {i : Nat} {o : Oper} (ho : l[i]? = some o) (hi : d i = false)
  (hr : ∀ j ∈ dj o, d j = true) {j : Nat} {y : Oper} (hy : l[j]? = some y) (hord : js masks i j = true ∨ js masks j i = true) : d j = decide (j < i) := by
 by_cases e : j = i
 ·subst e; simp [hi]
 ·have hord' : (masks.getD i 0).testBit j = true ∨ (masks.getD j 0).testBit i = true := by
   rcases hord with h | h <;> simp only [js, Bool.or_eq_true, beq_iff_eq] at h
   ·rcases h with (h | h) | h
    ·exact (e h.symm).elim
    ·exact .inl h
    ·exact .inr h
   ·rcases h with (h | h) | h
    ·exact (e h).elim
    ·exact .inr h
    ·exact .inl h
  rcases hord' with h | h
  ·have hlt := (c.bit hd i o ho j h).1
   rw [c.mask i o ho] at h
   obtain ⟨k, hk, h⟩ := nL masks j _ h
   have hkl : k < l.length := by have := (List.getElem?_eq_some_iff.1 ho).1; have := c.lt i o ho k hk; omega
   have hdj : d j = true := by
    rcases h with rfl | h
    ·exact hr k hk
    ·exact (c.bit hd k l[k] (List.getElem?_eq_getElem hkl) j h).2 (hr k hk)
   rw [hdj]; simp [hlt]
  ·obtain ⟨h1, h2⟩ := c.bit hd j y hy i h
   have hdj : d j = false := by
    cases hh : d j with
    | false => rfl
    | true => rw [h2 hh] at hi; cases hi
   rw [hdj]; simp; omega
def StJ (l : List Oper) (tr : List TS) (E : Env) (σ : List OB) (G0 : Gh) (listed : Array Bool) (a : Act) (w : World) : Prop :=
 listed.size = l.length ∧ ng l (fun i => listed.getD i false) ∧
 ∃ G p, Gle G0 G ∧ p ≤ l.length ∧ (∀ (j : Nat) (o : Oper), l[j]? = some o → e8 o = true → listed.getD j false = decide (j < p)) ∧
  Inv G (aQ σ tr p) w ∧ a.defers = [] ∧ a.tmps.size = E.n ∧ G.na = E.na ∧
  ∀ t, t < 512 → (eO t l tr (fun i => listed.getD i false) (E.get t)).cond = true → aR G (eO t l tr (fun i => listed.getD i false) (E.get t)).v (a.tmps.getD t undef)
theorem tm (listed : Array Bool) (i j : Nat) (hi : i < listed.size) : (listed.setIfInBounds i true).getD j false = if j = i then true else listed.getD j false := by
 simp only [Array.getD_eq_getD_getElem?, Array.getElem?_setIfInBounds]
 by_cases e : i = j
 ·subst e; simp [hi]
 ·simp [e, Ne.symm e]
end
end Pam
namespace Pam
open Go
def uc (pv : List Nat) (p : PV) : Bool := match lw p with | some b => !pv.contains b | none => true
def iD (pv : List Nat) (σ σ' : List OB) : Prop := σ.length ≤ σ'.length ∧ ∀ b, b ∉ pv → b < σ.length → σ'[b]? = σ[b]?
theorem iD.refl (pv : List Nat) (σ : List OB) : iD pv σ σ := ⟨Nat.le_refl _, fun _ _ _ => rfl⟩
theorem iD.trans {pv : List Nat} {σ σ' σ'' : List OB} (h : iD pv σ σ') (h' : iD pv σ' σ'') : iD pv σ σ'' :=
  ⟨Nat.le_trans h.1 h'.1, fun b hb hl => (h'.2 b hb (Nat.lt_of_lt_of_le hl h.1)).trans (h.2 b hb hl)⟩
theorem iD.of_ext {pv : List Nat} {σ σ' : List OB} (h : Ext σ σ') : iD pv σ σ' := by
  obtain ⟨ρ, rfl⟩ := h
  exact ⟨by simp, fun b _ hb => List.getElem?_append_left hb⟩
def ld (lt : List Bool) (i : Nat) (o : Oper) : Bool := e8 o && !(lt.getD i false)
def rZ (ops : Array Oper) (l : List Oper) (masks : List Nat) (bar prv : List Bool) (rd : List (List Nat)) (lt : List Bool) : Bool :=
  (l.zipIdx.all fun (o, i) => masks.getD i 0 == orM masks (dj o) && (dj o).all (· < i) &&
    (match o.dst with | some d => decide (d < 512) | none => true) && (o.looksAt ops).all (· < 512)) &&
  (l.zipIdx.all fun (x, i) => l.zipIdx.all fun (y, j) => (!(ld lt i x && ld lt j y) || js masks i j) && (!(rY ops x y) || js masks i j) && (!(bar.getD i false) || js masks i j)) &&
  (l.zipIdx.all fun (x, i) => e8 x || (x.looksAt ops).all (fun t => (rd.getD i []).contains t) || l.zipIdx.all fun (_, j) => !(prv.getD j false) || js masks i j)
structure rm (ops : Array Oper) (l : List Oper) (masks : List Nat) (bar prv : List Bool) (rd : List (List Nat)) (lt : List Bool) : Prop where
  mask : ∀ (i : Nat) (o : Oper), l[i]? = some o → masks.getD i 0 = orM masks (dj o)
  lts : ∀ (i : Nat) (o : Oper), l[i]? = some o → ∀ j ∈ dj o, j < i
  dst : ∀ (i : Nat) (o : Oper), l[i]? = some o → ∀ d, o.dst = some d → d < 512
  look : ∀ (i : Nat) (o : Oper), l[i]? = some o → ∀ t ∈ o.looksAt ops, t < 512
  loud : ∀ (i j : Nat) (x y : Oper), l[i]? = some x → l[j]? = some y → ld lt i x = true → ld lt j y = true → js masks i j = true
  hit : ∀ (i j : Nat) (x y : Oper), l[i]? = some x → l[j]? = some y → rY ops x y = true → js masks i j = true
  bar : ∀ (i j : Nat) (x y : Oper), l[i]? = some x → l[j]? = some y → bar.getD i false = true → js masks i j = true
  see : ∀ (i : Nat) (o : Oper), l[i]? = some o → e8 o = false → (∀ t ∈ o.looksAt ops, t ∈ rd.getD i []) ∨ ∀ j y, l[j]? = some y → prv.getD j false = true → js masks i j = true
theorem wN {ops : Array Oper} {l : List Oper} {masks : List Nat} {bar prv : List Bool} {rd : List (List Nat)} {lt : List Bool} (h : rZ ops l masks bar prv rd lt = true) : rm ops l masks bar prv rd lt := by
  unfold rZ at h
  simp only [Bool.and_eq_true, List.all_eq_true] at h
  obtain ⟨⟨h1, h2⟩, h3⟩ := h
  have m : ∀ (i : Nat) (o : Oper), l[i]? = some o → (o, i) ∈ l.zipIdx := fun i o ho => by
    rw [List.mem_zipIdx_iff_getElem?]; simpa using ho
  constructor
  · intro i o ho; have := h1 _ (m i o ho); simp only [Bool.and_eq_true, beq_iff_eq] at this; exact this.1.1.1
  · intro i o ho j hj
    have := h1 _ (m i o ho)
    simp only [Bool.and_eq_true, List.all_eq_true, decide_eq_true_eq] at this
    exact this.1.1.2 j hj
  · intro i o ho d hd
    have := h1 _ (m i o ho)
    simp only [Bool.and_eq_true, hd, decide_eq_true_eq] at this
    exact this.1.2
  · intro i o ho t ht
    have := h1 _ (m i o ho)
    simp only [Bool.and_eq_true, List.all_eq_true, decide_eq_true_eq] at this
    exact this.2 t ht
  · intro i j x y hx hy lx ly
    have := h2 _ (m i x hx) _ (m j y hy)
    simp only [Bool.and_eq_true, Bool.or_eq_true, Bool.not_eq_true', lx, ly] at this
    simpa using this.1.1
  · intro i j x y hx hy hh
    have := h2 _ (m i x hx) _ (m j y hy)
    simp only [Bool.and_eq_true, Bool.or_eq_true, Bool.not_eq_true', hh] at this
    simpa using this.1.2
  · intro i j x y hx hy hh
    have := h2 _ (m i x hx) _ (m j y hy)
    simp only [Bool.and_eq_true, Bool.or_eq_true, Bool.not_eq_true', hh] at this
    simpa using this.2
  · intro i o ho hq
    have := h3 _ (m i o ho)
    simp only [Bool.or_eq_true, hq, Bool.false_eq_true, false_or, List.all_eq_true] at this
    rcases this with h | h
    · exact .inl fun t ht => by simpa using h t ht
    · right
      intro j y hy hp
      have := h _ (m j y hy)
      simpa only [hp, Bool.not_true, Bool.false_or, Bool.false_eq_true, false_or] using this
theorem rm.bit {ops : Array Oper} {l : List Oper} {masks : List Nat} {bar prv lt : List Bool} {rd : List (List Nat)} (c : rm ops l masks bar prv rd lt) {d : Nat → Bool} (hd : ng l d) : ∀ (i : Nat) (o : Oper), l[i]? = some o → ∀ j, (masks.getD i 0).testBit j = true → j < i ∧ (d i = true → d j = true) := by
  intro i
  induction i using Nat.strongRecOn with
  | _ i ih =>
    intro o ho j hj
    rw [c.mask i o ho] at hj
    obtain ⟨k, hk, h⟩ := nL masks j _ hj
    have hlt := c.lts i o ho k hk
    have hkl : k < l.length := by have := (List.getElem?_eq_some_iff.1 ho).1; omega
    rcases h with rfl | h
    · exact ⟨hlt, fun hi => hd i o ho hi k hk⟩
    · obtain ⟨h1, h2⟩ := ih k hlt l[k] (List.getElem?_eq_getElem hkl) j h
      exact ⟨by omega, fun hi => h2 (hd i o ho hi k hk)⟩
theorem rm.done {ops : Array Oper} {l : List Oper} {masks : List Nat} {bar prv lt : List Bool} {rd : List (List Nat)} (c : rm ops l masks bar prv rd lt) {d : Nat → Bool} (hd : ng l d) {i : Nat} {o : Oper} (ho : l[i]? = some o) (hi : d i = false)
    (hr : ∀ j ∈ dj o, d j = true) {j : Nat} {y : Oper} (hy : l[j]? = some y) (hord : js masks i j = true ∨ js masks j i = true) : d j = decide (j < i) := by
  by_cases e : j = i
  · subst e; simp [hi]
  · have hord' : (masks.getD i 0).testBit j = true ∨ (masks.getD j 0).testBit i = true := by
      rcases hord with h | h <;> simp only [js, Bool.or_eq_true, beq_iff_eq] at h
      · rcases h with (h | h) | h
        · exact (e h.symm).elim
        · exact .inl h
        · exact .inr h
      · rcases h with (h | h) | h
        · exact (e h).elim
        · exact .inr h
        · exact .inl h
    rcases hord' with h | h
    · have hlt := (c.bit hd i o ho j h).1
      rw [c.mask i o ho] at h
      obtain ⟨k, hk, h⟩ := nL masks j _ h
      have hkl : k < l.length := by have := (List.getElem?_eq_some_iff.1 ho).1; have := c.lts i o ho k hk; omega
      have hdj : d j = true := by
        rcases h with rfl | h
        · exact hr k hk
        · exact (c.bit hd k l[k] (List.getElem?_eq_getElem hkl) j h).2 (hr k hk)
      rw [hdj]; simp [hlt]
    · obtain ⟨h1, h2⟩ := c.bit hd j y hy i h
      have hdj : d j = false := by
        cases hh : d j with
        | false => rfl
        | true => rw [h2 hh] at hi; cases hi
      rw [hdj]; simp; omega
def tn (P : Program) (ops : Array Oper) (pv : List Nat) (E : Env) (σ : List OB) (o : Oper) (bar prv : Bool) (rd : List Nat) (lt : Bool) (ts : TS) : Prop :=
  dC ops E o.guard = some ts.γ ∧ cy E o.dst ∧
  ((lt = false ∧ ((∃ C v, bn P ts.γ E σ o.op = .ok C v ∧ C ∧ (rd.all fun t => uc pv (E.get t).v) = true ∧ ts.e = ⟨ts.γ, v⟩ ∧ ts.σ = σ) ∨
   (ts.γ = true ∧ ∃ C v, bn P ts.γ E σ o.op = .upd C v ts.σ ∧ C ∧ ts.e = ⟨true, v⟩ ∧ (bar = true ∨ Ext σ ts.σ ∨ (prv = true ∧ iD pv σ ts.σ))) ∨
   (∃ C f args r, bn P ts.γ E σ o.op = .call C f args ∧ (ts.γ = true → C ∧ cz P f args r) ∧ args.all PV.noOwn = true ∧ (∀ n, r.ren (cT n []) = r) ∧ ts.e = ⟨ts.γ, r⟩ ∧ ts.σ = σ) ∨
   (ts.γ = false ∧ ts.e = ⟨true, .t []⟩ ∧ ts.σ = σ) ∨
   (ts.γ = true ∧ ∃ C f args p, bn P ts.γ E σ o.op = .call C f args ∧ C ∧ jW P σ f args p ts.σ ∧ ts.e = ⟨true, p⟩ ∧ (bar = true ∨ Ext σ ts.σ)) ∨
   (ts.γ = true ∧ e8 o = true ∧ ∃ v, (∀ E', (∀ x ∈ o.op.operands, ev E' x = ev E x) → ∀ G a w, Sim G E' σ a w → rk P G (execOp a.eval o) w v ts.σ) ∧ ts.e = ⟨true, v⟩ ∧ (bar = true ∨ Ext σ ts.σ ∨ (prv = true ∧ iD pv σ ts.σ))))) ∨
   (ts.γ = true ∧ (∃ v, (∀ E', (∀ x ∈ o.op.operands, ev E' x = ev E x) → ∀ σ' G a w, Sim G E' σ' a w → rk P G (execOp a.eval o) w v σ') ∧ ts.e = ⟨true, v⟩) ∧ ts.σ = σ) ∨
   (ts.γ = false ∧ ts.e = ⟨true, .t []⟩ ∧ ts.σ = σ))
def eP (P : Program) (ops : Array Oper) (pv : List Nat) : List Oper → List Bool → List Bool → List (List Nat) → List Bool → Env → List OB → List TS → Prop
  | [], _, _, _, _, _, _, tr => tr = []
  | o :: l, bs, ps, rd, lt, E, σ, tr => ∃ ts r, tr = ts :: r ∧ tn P ops pv E σ o (bs.headD false) (ps.headD false) (rd.headD []) (lt.headD false) ts ∧ eP P ops pv l bs.tail ps.tail rd.tail lt.tail (E.putD o.dst ts.e) ts.σ r
section
variable {P : Program} {ops : Array Oper} {pv : List Nat}
theorem oh : ∀ (l : List Bool) (i : Nat), l[i]? = some false → (l.set i true).count false + 1 = l.count false
  | [], i, h => by simp at h
  | b :: l, 0, h => by
    simp only [List.getElem?_cons_zero, sJ] at h
    subst h
    simp
  | b :: l, i + 1, h => by
    have := oh l i (by simpa using h)
    simp only [List.set_cons_succ, List.count_cons]
    omega
theorem Inv.drawn {G : Gh} {σ : List OB} {w : World} (h : Inv G σ w) : Inv G σ { w with drawn := w.drawn + 1 } :=
  ⟨h.hH, h.hF, h.HF, h.len, fun b ob hb => (h.own b ob hb).keep (fun _ _ h => h) (bl.refl _) rfl (fun _ _ _ => rfl), h.inj, h.sep, h.os, h.tape, h.output, h.grow⟩
theorem md {σ : List OB} {tr : List TS} (l : List Oper) (hlen : tr.length = l.length) (p : Nat) : ∀ (q : Nat), p ≤ q → q ≤ l.length → (∀ j, p ≤ j → j < q → iD pv (aQ σ tr j) (aQ σ tr (j + 1))) → iD pv (aQ σ tr p) (aQ σ tr q)
  | 0, h, _, _ => by have : p = 0 := by omega
                     subst this; exact iD.refl _ _
  | q + 1, h, hq, he => by
    by_cases e : p = q + 1
    · subst e; exact iD.refl _ _
    · exact (md l hlen p q (by omega) (by omega) fun j h1 h2 => he j h1 (by omega)).trans (he q (by omega) (by omega))
theorem tp {v : Value} {c : CV} (h : iS v = some c) : lw (.c c) = none := by
  unfold iS at h
  split at h <;> first | (cases h; rfl) | cases h
theorem vA (v : Value) : lw (mO v).v = none := by
  unfold mO
  split
  · split <;> rfl
  · split
    · rename_i h; exact tp h
    · rfl
theorem tq {l : List Oper} {masks : List Nat} {bs ps lt : List Bool} {rd : List (List Nat)} (c : rm l.toArray l masks bs ps rd lt) {listed : Array Bool} (hs : listed.size = l.length) (h : Region.ready .any l.toArray listed = []) : ∀ i, i < l.length → listed.getD i false = true := by
  intro i
  induction i using Nat.strongRecOn with
  | _ i ih =>
    intro hi
    cases hd : listed.getD i false with
    | true => rfl
    | false =>
      exfalso
      have ho := List.getElem?_eq_getElem hi
      have : i ∈ Region.ready .any l.toArray listed := by
        refine mem_ready.2 ⟨?_, l[i], by simp, fun e he hb => ?_⟩
        · rw [Array.getD_eq_getD_getElem?] at hd ⊢
          rw [Array.getElem?_eq_getElem (by omega)] at hd ⊢
          simpa using hd
        · have hlt := c.lts i _ ho e.on (by simp only [dj, List.mem_map, List.mem_filter]; exact ⟨e, ⟨by simpa using he, hb⟩, rfl⟩)
          exact ih e.on hlt (by omega)
      rw [h] at this; simp at this
def nh (lt : List Bool) (l : List Oper) (tr : List TS) (E : Env) (σ : List OB) (G0 : Gh) (listed : Array Bool) (a : Act) (w : World) : Prop :=
  listed.size = l.length ∧ ng l (fun i => listed.getD i false) ∧
  ∃ G p, Gle G0 G ∧ p ≤ l.length ∧ (∀ (j : Nat) (o : Oper), l[j]? = some o → ld lt j o = true → listed.getD j false = decide (j < p)) ∧
    Inv G (aQ σ tr p) w ∧ a.defers = [] ∧ a.tmps.size = E.n ∧ G.na = E.na ∧
    ∀ t, t < 512 → (eO t l tr (fun i => listed.getD i false) (E.get t)).cond = true → aR G (eO t l tr (fun i => listed.getD i false) (E.get t)).v (a.tmps.getD t undef)
theorem eP.at : ∀ {l : List Oper} {bs ps : List Bool} {rd : List (List Nat)} {lt : List Bool} {E : Env} {σ : List OB} {tr : List TS}, eP P ops pv l bs ps rd lt E σ tr → tr.length = l.length ∧
    ∀ (i : Nat) (o : Oper), l[i]? = some o → ∃ ts, tr[i]? = some ts ∧ tn P ops pv (ce E l tr i) (aQ σ tr i) o (bs.getD i false) (ps.getD i false) (rd.getD i []) (lt.getD i false) ts ∧ aQ σ tr (i + 1) = ts.σ
  | [], bs, ps, rd, lt, E, σ, tr, h => by simp only [eP] at h; subst h; exact ⟨rfl, fun i o h => by simp at h⟩
  | o :: l, bs, ps, rd, lt, E, σ, tr, h => by
    obtain ⟨ts, r, rfl, h1, h2⟩ := h
    obtain ⟨h3, h4⟩ := eP.at h2
    refine ⟨by simp [h3], fun i o' ho => ?_⟩
    cases i with
    | zero =>
      simp only [List.getElem?_cons_zero, sJ] at ho
      subst ho
      refine ⟨ts, rfl, ?_, ?_⟩
      · cases bs <;> cases ps <;> cases rd <;> cases lt <;> exact h1
      · cases r <;> rfl
    | succ i =>
      obtain ⟨ts', k1, k2, k3⟩ := h4 i o' (by simpa using ho)
      refine ⟨ts', by simpa using k1, ?_, ?_⟩
      · cases bs <;> cases ps <;> cases rd <;> cases lt <;> simpa [ce, aQ] using k2
      · simpa [aQ] using k3
theorem me {l : List Oper} {bs ps : List Bool} {rd : List (List Nat)} {lt : List Bool} {E : Env} {σ : List OB} {tr : List TS} (ht : eP P ops pv l bs ps rd lt E σ tr) {j : Nat} {o : Oper} (ho : l[j]? = some o) (hq : ld lt j o = false) : aQ σ tr (j + 1) = aQ σ tr j := by
  obtain ⟨_, h⟩ := ht.at
  obtain ⟨ts, _, h2, h3⟩ := h j o ho
  rw [h3]
  rcases h2.2.2 with ⟨hlt, h2⟩ | ⟨_, _, h⟩ | ⟨_, _, h⟩
  rotate_left
  · exact h
  · exact h
  have hq : e8 o = false := by unfold ld at hq; rw [hlt] at hq; simpa using hq
  obtain ⟨q1, q2⟩ := nd (P := P) (γ := ts.γ) (E := ce E l tr j) (σ := aQ σ tr j) hq
  rcases h2 with ⟨_, _, _, _, _, _, h⟩ | ⟨_, C, v, h, _⟩ | ⟨C, f, args, r, h, _⟩ | ⟨_, _, h⟩ | ⟨_, C, f, args, p, h, _⟩ | ⟨_, h, _⟩
  · exact h
  · exact (q1 _ _ _ h).elim
  · exact (q2 _ _ _ h).elim
  · exact h
  · exact (q2 _ _ _ h).elim
  · rw [hq] at h; cases h
theorem nl {l : List Oper} {bs ps : List Bool} {rd : List (List Nat)} {lt : List Bool} {E : Env} {σ : List OB} {tr : List TS} (ht : eP P ops pv l bs ps rd lt E σ tr) {p q : Nat} (hpq : p ≤ q) (hq : q ≤ l.length)
    (h : ∀ (j : Nat) (o : Oper), l[j]? = some o → p ≤ j → j < q → ld lt j o = false) : aQ σ tr q = aQ σ tr p := by
  induction q with
  | zero => have : p = 0 := by omega
            subst this; rfl
  | succ q ih =>
    by_cases e : p = q + 1
    · subst e; rfl
    · have hl : q < l.length := by omega
      rw [me ht (List.getElem?_eq_getElem hl) (h q _ (List.getElem?_eq_getElem hl) (by omega) (by omega))]
      exact ih (by omega) (by omega) fun j o ho h1 h2 => h j o ho h1 (by omega)
theorem py {l : List Oper} {bs ps : List Bool} {rd : List (List Nat)} {lt : List Bool} {E : Env} {σ : List OB} {tr : List TS} (ht : eP P ops pv l bs ps rd lt E σ tr) {j : Nat} {o : Oper} (ho : l[j]? = some o) (hb : bs.getD j false = false) :
    (ps.getD j false = false → Ext (aQ σ tr j) (aQ σ tr (j + 1))) ∧ iD pv (aQ σ tr j) (aQ σ tr (j + 1)) := by
  obtain ⟨_, h⟩ := ht.at
  obtain ⟨ts, _, h2, h3⟩ := h j o ho
  rw [h3]
  have same : ∀ σ' : List OB, σ' = aQ σ tr j → (ps.getD j false = false → Ext (aQ σ tr j) σ') ∧ iD pv (aQ σ tr j) σ' := fun σ' e => by
    subst e; exact ⟨fun _ => ⟨[], by simp⟩, iD.refl _ _⟩
  have ext : Ext (aQ σ tr j) ts.σ → (ps.getD j false = false → Ext (aQ σ tr j) ts.σ) ∧ iD pv (aQ σ tr j) ts.σ := fun e => ⟨fun _ => e, .of_ext e⟩
  rcases h2.2.2 with ⟨_, h2⟩ | ⟨_, _, h⟩ | ⟨_, _, h⟩
  rotate_left
  · exact same _ h
  · exact same _ h
  rcases h2 with ⟨_, _, _, _, _, _, h⟩ | ⟨_, C, v, h, _, _, h'⟩ | ⟨C, f, args, r, h, _, _, _, _, h'⟩ | ⟨_, _, h'⟩ | ⟨_, C, f, args, p, h, _, _, _, h'⟩ | ⟨_, _, v, _, _, h'⟩
  · exact same _ h
  · rcases h' with h' | h' | ⟨h', h''⟩
    · rw [hb] at h'; cases h'
    · exact ext h'
    · exact ⟨fun hp => by (rw [hp] at h'; cases h'), h''⟩
  · exact same _ h'
  · exact same _ h'
  · rcases h' with h' | h'
    · rw [hb] at h'; cases h'
    · exact ext h'
  · rcases h' with h' | h' | ⟨h', h''⟩
    · rw [hb] at h'; cases h'
    · exact ext h'
    · exact ⟨fun hp => by (rw [hp] at h'; cases h'), h''⟩
theorem nh.stepQ {l : List Oper} {bs ps : List Bool} {rd : List (List Nat)} {lt : List Bool} {masks : List Nat} {E : Env} {σ : List OB} {tr : List TS} (c : rm l.toArray l masks bs ps rd lt) (ht : eP P l.toArray pv l bs ps rd lt E σ tr) (G0 : Gh) {Q : Exit → Act → World → Prop} (listed : Array Bool) (a : Act) (w : World) (i : Nat)
    (hJ : nh lt l tr E σ G0 listed a w) (hready : i ∈ Region.ready .any l.toArray listed) : wpOp P l.toArray Q i (nh lt l tr E σ G0 (listed.setIfInBounds i true)) a w := by
  obtain ⟨hsz, hcl, G, p, hG, hp, hloud, hinv, hdef, htm, hna, hslot⟩ := hJ
  obtain ⟨hun, o, ho', hdeps⟩ := mem_ready.1 hready
  have ho : l[i]? = some o := by simpa using ho'
  have hil : i < l.length := (List.getElem?_eq_some_iff.1 ho).1
  have hi0 : listed.getD i false = false := by
    rw [Array.getD_eq_getD_getElem?] at hun ⊢
    rw [Array.getElem?_eq_getElem (by omega)] at hun ⊢
    simpa using hun
  have hr : ∀ j ∈ dj o, listed.getD j false = true := by
    intro j hj
    simp only [dj, List.mem_map, List.mem_filter] at hj
    obtain ⟨e, ⟨h1, h2⟩, rfl⟩ := hj
    exact hdeps e (by simpa using h1) h2
  have hdone := fun {j : Nat} {y : Oper} (hy : l[j]? = some y) (hord : js masks i j = true ∨ js masks j i = true) => c.done hcl ho hi0 hr hy hord
  obtain ⟨htl, hat⟩ := ht.at
  obtain ⟨ts, hts, ⟨hguard, hdst, hstep⟩, hnext⟩ := hat i o ho
  have hcl' : ng l (fun k => (listed.setIfInBounds i true).getD k false) := by
    intro k ok hk hd j hj
    simp only at hd ⊢
    rw [tm _ _ _ (by omega)] at hd ⊢
    by_cases e : k = i
    · subst e; rw [ho] at hk; simp only [sJ] at hk; subst hk
      by_cases e' : j = k
      · rw [iP e']
      · rw [iN e']; exact hr j hj
    · rw [iN e] at hd
      by_cases e' : j = i
      · rw [iP e']
      · rw [iN e']; exact hcl k ok hk hd j hj
  have hsz' : (listed.setIfInBounds i true).size = l.length := by simpa using hsz
  have hEn := oZ l tr E i
  have hlook := c.look i o ho
  have hreads : ∀ t ∈ o.looksAt l.toArray, (ce E l tr i).get t = eO t l tr (fun j => listed.getD j false) (E.get t) := by
    intro t htm'
    rw [mF t l tr E i (fun j o x hj hd => c.dst j o hj x hd) htl]
    apply e9
    intro j y hy hd
    refine (hdone hy (.inr ?_)).symm
    refine c.hit j i y o hy ho ?_
    simp only [rY, hd, Bool.or_eq_true]
    left
    simpa using htm'
  have hres := nN (ce E l tr i) (o.looksAt l.toArray)
  have hgetr : ∀ t ∈ o.looksAt l.toArray, (fS (ce E l tr i) (o.looksAt l.toArray)).get t = (ce E l tr i).get t := fun t h => (hres t hlook).1 h
  have hsim : Sim G (fS (ce E l tr i) (o.looksAt l.toArray)) (aQ σ tr p) a w := by
    refine ⟨hinv, hdef, by rw [(nf _ _).1, hEn.1]; exact htm, by rw [(nf _ _).2, hEn.2]; exact hna, fun t hc => ?_⟩
    by_cases hmem : t ∈ o.looksAt l.toArray
    · rw [hgetr t hmem, hreads t hmem] at hc ⊢
      exact hslot t (hlook t hmem) hc
    · rw [(hres t hlook).2 hmem] at hc; cases hc
  have hops : ∀ x ∈ o.op.operands, ev (fS (ce E l tr i) (o.looksAt l.toArray)) x = ev (ce E l tr i) x := by
    intro x hx
    refine vz (ts := o.looksAt l.toArray) (fun t h => hgetr t h) x fun t e => ?_
    subst e
    simp only [Oper.looksAt, List.mem_append, List.mem_filterMap]
    left
    exact ⟨.tmp t, by simpa using hx, rfl⟩
  have hguard' : dC l.toArray (fS (ce E l tr i) (o.looksAt l.toArray)) o.guard = some ts.γ := by
    rw [ql o hgetr]; exact hguard
  have hwant := kL (P := P) hsim hguard'
  have hdlt : ∀ d, o.dst = some d → d < a.tmps.size := by
    intro d hd
    rw [htm]
    rw [hd] at hdst
    have h' : d < (ce E l tr i).n := hdst
    rwa [hEn.1] at h'
  have hslot' : ∀ (G' : Gh) (val : Value), (∀ q v, aR G q v → aR G' q v) → (ts.e.cond = true → aR G' ts.e.v val) → ∀ t, t < 512 →
      (eO t l tr (fun k => (listed.setIfInBounds i true).getD k false) (E.get t)).cond = true →
      aR G' (eO t l tr (fun k => (listed.setIfInBounds i true).getD k false) (E.get t)).v ((a.put o.dst val).tmps.getD t undef) := by
    intro G' val hmono hval t ht512 hc
    have hfun : (fun k => (listed.setIfInBounds i true).getD k false) = (fun k => if k = i then true else listed.getD k false) := by
      funext k; exact tm _ _ _ (by omega)
    rw [hfun] at hc ⊢
    by_cases hd : o.dst = some t
    · rw [qH t l tr _ _ i o ts ho hts hd (fun j y hy hdy hij => by
          have := hdone hy (.inr (c.hit j i y o hy ho (by simp [rY, hdy, hd])))
          rw [this]; simp; omega)] at hc ⊢
      have hlt := hdlt t hd
      have : (a.put o.dst val).tmps.getD t undef = val := by rw [hd]; simp [Act.put, Array.getD, hlt]
      rw [this]; exact hval hc
    · rw [kv t l tr _ _ i o ho hd] at hc ⊢
      have : (a.put o.dst val).tmps.getD t undef = a.tmps.getD t undef := by
        cases hod : o.dst with
        | none => rfl
        | some d =>
          have hne : d ≠ t := fun e => hd (by rw [hod, e])
          simp only [Act.put, Array.getD_eq_getD_getElem?]
          rw [Array.getElem?_setIfInBounds_ne hne]
      rw [this]
      exact hmono _ _ (hslot t ht512 hc)
  have hput : ∀ val, (a.put o.dst val).defers = [] ∧ (a.put o.dst val).tmps.size = E.n := by
    intro val; cases o.dst <;> simp [Act.put, hdef, htm]
  have hheap : ld lt i o = true → aQ σ tr p = aQ σ tr i := by
    intro hl
    have key : ∀ (j : Nat) (y : Oper), l[j]? = some y → ld lt j y = true → (j < p ↔ j < i) := by
      intro j y hy hly
      have h1 := hloud j y hy hly
      have h2 := hdone hy (.inl (c.loud i j o y ho hy hl hly))
      rw [h2] at h1
      simpa using h1.symm
    rcases Nat.le_total p i with h | h
    · exact (nl ht h (by omega) fun j y hy h1 h2 => by
        cases hly : ld lt j y with
        | false => rfl
        | true => have := (key j y hy hly).2 h2; omega).symm
    · exact nl ht h hp fun j y hy h1 h2 => by
        cases hly : ld lt j y with
        | false => rfl
        | true => have := (key j y hy hly).1 h2; omega
  have hloud' : ld lt i o = true → ∀ (j : Nat) (y : Oper), l[j]? = some y → ld lt j y = true → (listed.setIfInBounds i true).getD j false = decide (j < i + 1) := by
    intro hl j y hy hly
    rw [tm _ _ _ (by omega)]
    by_cases e : j = i
    · subst e; simp
    · rw [iN e, hdone hy (.inl (c.loud i j o y ho hy hl hly))]
      simp; omega
  have hquiet' : ld lt i o = false → ∀ (j : Nat) (y : Oper), l[j]? = some y → ld lt j y = true → (listed.setIfInBounds i true).getD j false = decide (j < p) := by
    intro hl j y hy hly
    rw [tm _ _ _ (by omega)]
    by_cases e : j = i
    · subst e; rw [ho] at hy; simp only [sJ] at hy; subst hy; rw [hl] at hly; cases hly
    · rw [iN e]; exact hloud j y hy hly
  have stay : ∀ (G' : Gh) (w' : World) (val : Value), Gle G G' → bl G.own G'.own → Inv G' (aQ σ tr p) w' → ts.σ = aQ σ tr i → (ts.e.cond = true → aR G' ts.e.v val) → nh lt l tr E σ G0 (listed.setIfInBounds i true) (a.put o.dst val) w' := by
    intro G' w' val h1 h2 h3 h4 h5
    refine ⟨hsz', hcl', ?_⟩
    have hm : ∀ q v, aR G q v → aR G' q v := fun q v h => aR.mono h1.le.H h2 h
    cases hl : ld lt i o with
    | true =>
      refine ⟨G', i + 1, hG.trans h1, by omega, hloud' hl, ?_, (hput val).1, (hput val).2, h1.le.na.trans hna, hslot' G' val hm h5⟩
      rw [hnext, h4, ← hheap hl]; exact h3
    | false => exact ⟨G', p, hG.trans h1, hp, hquiet' hl, h3, (hput val).1, (hput val).2, h1.le.na.trans hna, hslot' G' val hm h5⟩
  unfold wpOp
  simp only [ho']
  have skip : ts.γ = false → (ts.e.cond = true → aR G ts.e.v undef) → ts.σ = aQ σ tr i → (if Region.wanted o (yielded l.toArray a.tmps) = true then o.wp P a w (nh lt l tr E σ G0 (listed.setIfInBounds i true)) Q ∨ (o.asks P a w ∧ LetsOut Q) else nh lt l tr E σ G0 (listed.setIfInBounds i true) (a.put o.dst undef) w) := by
    intro hγ hc hσ
    rw [iN (by rw [hwant, hγ]; simp)]
    exact stay G w undef (Gle.refl G) (bl.refl _) hinv hσ hc
  rcases hstep with ⟨hlt, hstep⟩ | ⟨hγ, ⟨v, hx, he⟩, hσ⟩ | ⟨hγ, he, hσ⟩
  rotate_left
  · rw [iP (by rw [hwant, hγ])]
    left
    obtain ⟨nx, val, w', G', e1, e2, e3, e4, e5, e6⟩ := hx _ hops _ G a w hsim
    have hfin := stay G' w' val (Gle.mk' e3 e4) e4 e5 hσ (fun _ => by rw [he]; exact e6)
    unfold Oper.wp
    rw [e1]
    rcases e2 with rfl | ⟨rfl, rfl⟩
    · exact hfin
    · exact hfin
  · exact skip hγ (by rw [he]; exact fun _ => ⟨[], rfl, trivial⟩) hσ
  have hld : ld lt i o = e8 o := by unfold ld; rw [hlt]; simp
  rcases hstep with ⟨C, v, hrun, hC, hrd, he, hσ⟩ | ⟨hγ, C, v, hrun, hC, he, _⟩ | ⟨C, f, args, r, hrun, hC, hargs, hres', he, hσ⟩ | ⟨hγ, he, hσ⟩ | ⟨hγ, C, f, args, r, hrun, hC, hto, he, _⟩ | ⟨hγ, hl, v, hx, he, _⟩
  · cases hγ : ts.γ with
    | false => exact skip hγ (by rw [he, hγ]; intro h; cases h) hσ
    | true =>
      rw [iP (by rw [hwant, hγ])]
      left
      rw [hγ] at hrun
      have hrun1 := (lv (P := P) (γ := true) (σ := aQ σ tr i) o.op hops).trans hrun
      have hlo : e8 o = false ∨ e8 o = true := by cases e8 o <;> simp
      have notbar : ∀ (j : Nat) (y : Oper), l[j]? = some y → ld lt j y = true → listed.getD j false ≠ decide (j < i) → bs.getD j false = false := by
        intro j y hy hly hne
        cases hb : bs.getD j false with
        | false => rfl
        | true => exact (hne (hdone hy (.inr (c.bar j i y o hy ho hb)))).elim
      have one : ∀ (j : Nat), j < l.length → (∀ y, l[j]? = some y → ld lt j y = true → listed.getD j false ≠ decide (j < i)) → iD pv (aQ σ tr j) (aQ σ tr (j + 1)) := by
        intro j hj hne
        have hy := List.getElem?_eq_getElem hj
        cases hly : ld lt j l[j] with
        | false => rw [me ht hy hly]; exact iD.refl _ _
        | true => exact (py ht hy (notbar j _ hy hly (hne _ hy hly))).2
      have onePv : (∀ j y, l[j]? = some y → ps.getD j false = true → js masks i j = true) → ∀ (j : Nat), j < l.length → (∀ y, l[j]? = some y → ld lt j y = true → listed.getD j false ≠ decide (j < i)) → iD [] (aQ σ tr j) (aQ σ tr (j + 1)) := by
        intro hord j hj hne
        have hy := List.getElem?_eq_getElem hj
        cases hly : ld lt j l[j] with
        | false => rw [me ht hy hly]; exact iD.refl _ _
        | true =>
          refine .of_ext ((py ht hy (notbar j _ hy hly (hne _ hy hly))).1 ?_)
          cases hp : ps.getD j false with
          | false => rfl
          | true => exact (hne _ hy hly (hdone hy (.inl (hord j _ hy hp)))).elim
      have reach : ∀ (q : List Nat), (∀ (j : Nat), j < l.length → (∀ y, l[j]? = some y → ld lt j y = true → listed.getD j false ≠ decide (j < i)) → iD q (aQ σ tr j) (aQ σ tr (j + 1))) → iD q (aQ σ tr p) (aQ σ tr i) ∨ iD q (aQ σ tr i) (aQ σ tr p) := by
        intro q hone
        rcases Nat.le_total p i with h | h
        · left
          refine md l htl p i h (by omega) fun j h1 h2 => hone j (by omega) fun y hy hly => ?_
          rw [hloud j y hy hly]; simp; omega
        · right
          refine md l htl i p h hp fun j h1 h2 => hone j (by omega) fun y hy hly => ?_
          rw [hloud j y hy hly]; simp; omega
      have fromNear : ∀ (q : List Nat) (b : Nat) (ob : OB), iD q (aQ σ tr p) (aQ σ tr i) ∨ iD q (aQ σ tr i) (aQ σ tr p) → b ∉ q → b < (aQ σ tr p).length → (aQ σ tr i)[b]? = some ob → (aQ σ tr p)[b]? = some ob := by
        intro q b ob hn hb hlt hob
        rcases hn with h | h
        · rw [← h.2 b hb hlt]; exact hob
        · rw [h.2 b hb (List.getElem?_eq_some_iff.1 hob).1]; exact hob
      obtain ⟨C', hrun2, hC'⟩ := uM (σ' := aQ σ tr p) hrun1 hC (fun x hc b ob htop hb => by
        have hlt := uO hinv (cr hsim x hc) htop
        rcases hlo with hl | hl
        · rcases c.see i o ho hl with hsee | hsee
          · refine fromNear pv b ob (reach pv one) ?_ hlt hb
            cases x with
            | tmp t =>
              by_cases hmem : t ∈ o.looksAt l.toArray
              · have h1 := List.all_eq_true.1 hrd t (hsee t hmem)
                have h2 : (fS (ce E l tr i) (o.looksAt l.toArray)).get t = (ce E l tr i).get t := hgetr t hmem
                have htop' : lw ((ce E l tr i).get t).v = some b := by rw [← h2]; exact htop
                simp only [uc, htop'] at h1
                simpa using h1
              · exfalso
                have : ((fS (ce E l tr i) (o.looksAt l.toArray)).get t).cond = true := hc
                rw [(hres t hlook).2 hmem] at this; cases this
            | const v =>
              exfalso
              have h1 : lw (mO v).v = some b := htop
              rw [vA] at h1; cases h1
            | func f => cases htop
            | global g => cases htop
          · exact fromNear [] b ob (reach [] (onePv hsee)) (by simp) hlt hb
        · rw [hheap (hld.trans hl)]; exact hb)
      obtain ⟨val, e1, e2⟩ := t8 hsim rfl o hrun2 hC'
      unfold Oper.wp
      rw [e1]
      exact stay G w val (Gle.refl G) (bl.refl _) hinv hσ fun _ => by rw [he]; exact e2
  · rw [iP (by rw [hwant, hγ])]
    left
    rw [hγ] at hrun
    have hl : ld lt i o = true := by
      rw [hld]
      cases hl : e8 o with
      | true => rfl
      | false => exact ((nd hl).1 _ _ _ hrun).elim
    have hrun1 := (lv (P := P) (γ := true) (σ := aQ σ tr i) o.op hops).trans hrun
    rw [← hheap hl] at hrun1
    obtain ⟨nx, val, w', G', e1, e2, e3, e4, e5, e6⟩ := rX hsim rfl o hrun1 hC
    have hfin : nh lt l tr E σ G0 (listed.setIfInBounds i true) (a.put o.dst val) w' :=
      ⟨hsz', hcl', G', i + 1, hG.trans (Gle.mk' e3 e4), by omega, hloud' hl, by rw [hnext]; exact e5, (hput val).1, (hput val).2, e3.na.trans hna,
        hslot' G' val (fun q v h => aR.mono e3.H e4 h) fun _ => by rw [he]; exact e6⟩
    unfold Oper.wp
    rw [e1]
    rcases e2 with rfl | ⟨rfl, rfl⟩
    · exact hfin
    · exact hfin
  · cases hγ : ts.γ with
    | false => exact skip hγ (by rw [he, hγ]; intro h; cases h) hσ
    | true =>
      rw [iP (by rw [hwant, hγ])]
      left
      rw [hγ] at hrun
      obtain ⟨hC1, hspec⟩ := hC hγ
      have hrun1 := (lv (P := P) (γ := true) (σ := aQ σ tr i) o.op hops).trans hrun
      have hrun2 := pw (σ' := aQ σ tr p) hrun1
      exact uN hsim o hrun2 hC1 hspec hargs hres' fun G' w' v h1 h2 h3 h4 => stay G' w' v h1 h2 h3 hσ fun _ => by rw [he]; exact h4
  · exact skip hγ (by rw [he]; exact fun _ => ⟨[], rfl, trivial⟩) hσ
  · rw [iP (by rw [hwant, hγ])]
    left
    rw [hγ] at hrun
    have hl : ld lt i o = true := by
      rw [hld]
      cases hl : e8 o with
      | true => rfl
      | false => exact ((nd hl).2 _ _ _ hrun).elim
    have hrun1 := (lv (P := P) (γ := true) (σ := aQ σ tr i) o.op hops).trans hrun
    rw [← hheap hl] at hrun1 hto
    exact tk hsim o hrun1 hC hto fun G' w' v h1 h2 h3 h4 h5 =>
      ⟨hsz', hcl', G', i + 1, hG.trans h1, by omega, hloud' hl, by rw [hnext]; exact h4, (hput v).1, (hput v).2, h1.le.na.trans hna,
        hslot' G' v (fun q v h => aR.mono h2 h3 h) fun _ => by rw [he]; exact h5⟩
  · rw [iP (by rw [hwant, hγ])]
    left
    have hl : ld lt i o = true := hld.trans hl
    rw [← hheap hl] at hx
    obtain ⟨nx, val, w', G', e1, e2, e3, e4, e5, e6⟩ := hx _ hops G a w hsim
    have hfin : nh lt l tr E σ G0 (listed.setIfInBounds i true) (a.put o.dst val) w' :=
      ⟨hsz', hcl', G', i + 1, hG.trans (Gle.mk' e3 e4), by omega, hloud' hl, by rw [hnext]; exact e5, (hput val).1, (hput val).2, e3.na.trans hna,
        hslot' G' val (fun q v h => aR.mono e3.H e4 h) fun _ => by rw [he]; exact e6⟩
    unfold Oper.wp
    rw [e1]
    rcases e2 with rfl | ⟨rfl, rfl⟩
    · exact hfin
    · exact hfin
theorem qI {l : List Oper} {masks : List Nat} {bs ps : List Bool} {rd : List (List Nat)} {lt : List Bool} {E : Env} {σ : List OB} {tr : List TS} (c : rm l.toArray l masks bs ps rd lt) (ht : eP P l.toArray pv l bs ps rd lt E σ tr) (G0 : Gh) {Q : Exit → Act → World → Prop}
    (fin : ∀ G a w, Gle G0 G → Sim G (ce E l tr l.length) (aQ σ tr l.length) a w → Q .normal a w) :
    ∀ (fuel : Nat) (listed : Array Bool) (a : Act) (w : World), listed.toList.count false ≤ fuel → nh lt l tr E σ G0 listed a w → wpAny P .any l.toArray Q fuel listed a w := by
  have done : ∀ (listed : Array Bool) (a : Act) (w : World), nh lt l tr E σ G0 listed a w → Region.ready .any l.toArray listed = [] → Q .normal a w := by
    intro listed a w hJ hr
    obtain ⟨hsz, hcl, G, p, hG, hp, hloud, hinv, hdef, htm, hna, hslot⟩ := hJ
    have hall := tq c hsz hr
    obtain ⟨htl, hat⟩ := ht.at
    have hE := oZ l tr E l.length
    have hheap : aQ σ tr l.length = aQ σ tr p := nl ht hp (Nat.le_refl _) fun j y hy h1 h2 => by
      cases hly : ld lt j y with
      | false => rfl
      | true =>
        have := hloud j y hy hly
        rw [hall j h2] at this
        have : j < p := by simpa using this.symm
        omega
    refine fin G a w hG ⟨by rw [hheap]; exact hinv, hdef, by rw [hE.1]; exact htm, by rw [hE.2]; exact hna, fun t hc => ?_⟩
    by_cases h512 : t < 512
    · have hg : (ce E l tr l.length).get t = eO t l tr (fun i => listed.getD i false) (E.get t) := by
        rw [mF t l tr E l.length (fun j o x hj hd => c.dst j o hj x hd) htl]
        apply e9
        intro j y hy _
        have hlt := (List.getElem?_eq_some_iff.1 hy).1
        simp [hlt, hall j hlt]
      rw [hg] at hc ⊢
      exact hslot t h512 hc
    · rw [Env.get_big _ t (by omega)] at hc; cases hc
  intro fuel
  induction fuel with
  | zero =>
    intro listed a w hf hJ
    have hr : Region.ready .any l.toArray listed = [] := by
      rw [List.eq_nil_iff_forall_not_mem]
      intro i hi
      obtain ⟨h1, o, ho, _⟩ := mem_ready.1 hi
      have hlt : i < listed.size := by rw [hJ.1]; have := (Array.getElem?_eq_some_iff.1 ho).1; simpa using this
      have : listed.toList[i]? = some false := by
        rw [Array.getD_eq_getD_getElem?, Array.getElem?_eq_getElem hlt] at h1
        rw [Array.getElem?_toList, Array.getElem?_eq_getElem hlt]
        simpa using h1
      have hpos := List.count_pos_iff.2 (List.mem_of_getElem? this)
      omega
    exact ⟨hr, done listed a w hJ hr⟩
  | succ fuel ih =>
    intro listed a w hf hJ
    refine ⟨fun hr => done listed a w hJ hr, fun i hi => ?_⟩
    have hstep := nh.stepQ (Q := Q) c ht G0 listed a w i hJ hi
    refine wpOp_mono (fun a' w' hJ' => ih _ a' w' ?_ hJ') hstep
    obtain ⟨h1, o, ho, _⟩ := mem_ready.1 hi
    have hlt : i < listed.size := by rw [hJ.1]; have := (Array.getElem?_eq_some_iff.1 ho).1; simpa using this
    have : listed.toList[i]? = some false := by
      rw [Array.getD_eq_getD_getElem?, Array.getElem?_eq_getElem hlt] at h1
      rw [Array.getElem?_toList, Array.getElem?_eq_getElem hlt]
      simpa using h1
    have hc := oh _ _ this
    simp only [Array.toList_setIfInBounds]
    omega
def TRQ (P : Program) (ops : Array Oper) (pv : List Nat) (l : List Oper) (bs ps : List Bool) (rd : List (List Nat)) (lt : List Bool) (E : Env) (σ : List OB) (k : Env → List OB → Prop) : Prop :=
  ∃ tr, eP P ops pv l bs ps rd lt E σ tr ∧ k (ce E l tr l.length) (aQ σ tr l.length)
theorem rn {id : Nat} {l : List Oper} {K : Kt} {E : Env} {σ : List OB} (hm : P.follows .mixedOrders = true) (pv masks : List Nat) (bs ps : List Bool) (rd : List (List Nat)) (lt : List Bool) (hc : rZ l.toArray l masks bs ps rd lt = true)
    (h : TRQ P l.toArray pv l bs ps rd lt E σ (K .normal)) : W P (.region id l.toArray true) K E σ := fun G a w hs => by
  obtain ⟨tr, ht, hk⟩ := h
  refine wp_region_any hm ?_
  refine qI (wN hc) ht G (fun G' a' w' hG hs' => ⟨G', _, _, .normal, hG, hs', rfl, hk⟩) _ _ a _ ?_ ?_
  · simp
  · have hfalse : ∀ i, (Array.replicate l.length false).getD i false = false := by
      intro i
      rw [Array.getD_eq_getD_getElem?, Array.getElem?_replicate]
      split <;> rfl
    refine ⟨by simp, fun i o ho hd => by simp [hfalse] at hd, G, 0, Gle.refl G, by omega, fun j o ho hl => by simp [hfalse], ?_, hs.defers, hs.size, hs.na, fun t ht hc => ?_⟩
    · have : aQ σ tr 0 = σ := by cases tr <;> rfl
      rw [this]; exact hs.inv.drawn
    · have : eO t l tr (fun i => (Array.replicate l.length false).getD i false) (E.get t) = E.get t := jg t l tr _ _ fun j o _ _ => hfalse j
      simp only [List.size_toArray] at hc ⊢
      rw [this] at hc ⊢
      exact hs.slot t hc
theorem eP.of {ops : Array Oper} : ∀ {l : List Oper} {bs : List Bool} {E : Env} {σ : List OB} {tr : List TS}, lN P ops l bs E σ tr → eP P ops [] l bs [] [] [] E σ tr
  | [], _, _, _, _, h => h
  | o :: l, bs, E, σ, tr, ⟨ts, r, h1, ⟨h2, h3, h4⟩, h5⟩ => by
    refine ⟨ts, r, h1, ⟨h2, h3, .inl ⟨rfl, ?_⟩⟩, eP.of h5⟩
    rcases h4 with ⟨C, v, a, b, c, d⟩ | ⟨a, C, v, b, c, d, e⟩ | h | h | h | h
    · exact .inl ⟨C, v, a, b, rfl, c, d⟩
    · exact .inr (.inl ⟨a, C, v, b, c, d, e.imp id .inl⟩)
    · exact .inr (.inr (.inl h))
    · exact .inr (.inr (.inr (.inl h)))
    · exact .inr (.inr (.inr (.inr (.inl h))))
    · obtain ⟨a, b, v, c, d, e⟩ := h
      exact .inr (.inr (.inr (.inr (.inr ⟨a, b, v, c, d, e.imp id .inl⟩))))
theorem pz (i : Nat) (o : Oper) : ld [] i o = e8 o := by simp [ld]
theorem wO {ops : Array Oper} {l : List Oper} {masks : List Nat} {bs : List Bool} (h : chk ops l masks bs = true) : rZ ops l masks bs [] [] [] = true := by
  unfold chk at h
  unfold rZ
  rw [show ld ([] : List Bool) = fun _ o => e8 o from by funext i o; exact pz i o]
  refine Bool.and_eq_true_iff.2 ⟨h, ?_⟩
  rw [List.all_eq_true]
  intro x _
  simp only [Bool.or_eq_true, List.all_eq_true]
  right
  intro y _
  simp
end
end Pam
namespace Pam
open Go
section
variable {P : Program}
theorem uP {l : List Oper} {masks : List Nat} {bs : List Bool} (c : Chk l.toArray l masks bs) {listed : Array Bool} (hs : listed.size = l.length) (h : Region.ready .any l.toArray listed = []) : ∀ i, i < l.length → listed.getD i false = true := by
 intro i
 induction i using Nat.strongRecOn with
 | _ i ih =>
  intro hi
  cases hd : listed.getD i false with
  | true => rfl
  | false =>
   exfalso
   have ho := List.getElem?_eq_getElem hi
   have : i ∈ Region.ready .any l.toArray listed := by
    refine mem_ready.2 ⟨?_, l[i], by simp, fun e he hb => ?_⟩
    ·rw [Array.getD_eq_getD_getElem?] at hd ⊢
     rw [Array.getElem?_eq_getElem (by omega)] at hd ⊢
     simpa using hd
    ·have hlt := c.lt i _ ho e.on (by simp only [dj, List.mem_map, List.mem_filter]; exact ⟨e, ⟨by simpa using he, hb⟩, rfl⟩)
     exact ih e.on hlt (by omega)
   rw [h] at this; simp at this
theorem Chk.q {ops : Array Oper} {l : List Oper} {masks : List Nat} {bs : List Bool} (c : Chk ops l masks bs) : rm ops l masks bs [] [] [] :=
 ⟨c.mask, c.lt, c.dst, c.look, fun i j x y h1 h2 h3 h4 => c.loud i j x y h1 h2 (by rwa [pz] at h3) (by rwa [pz] at h4), c.hit, c.bar, fun _ _ _ _ => .inr fun j y _ h => by simp at h⟩
theorem pA (l : List Oper) (tr : List TS) (E : Env) (σ : List OB) (G0 : Gh) (listed : Array Bool) (a : Act) (w : World) : nh [] l tr E σ G0 listed a w = StJ l tr E σ G0 listed a w := by
 unfold nh StJ
 rw [show ld ([] : List Bool) = fun _ o => e8 o from by funext i o; exact pz i o]
theorem StJ.step {l : List Oper} {bs : List Bool} {masks : List Nat} {E : Env} {σ : List OB} {tr : List TS} (c : Chk l.toArray l masks bs) (ht : lN P l.toArray l bs E σ tr) (G0 : Gh) {Q : Exit → Act → World → Prop} (listed : Array Bool) (a : Act) (w : World) (i : Nat)
  (hJ : StJ l tr E σ G0 listed a w) (hready : i ∈ Region.ready .any l.toArray listed) : wpOp P l.toArray Q i (StJ l tr E σ G0 (listed.setIfInBounds i true)) a w := by
 have h := nh.stepQ (Q := Q) c.q (eP.of ht) G0 listed a w i (by rw [pA]; exact hJ) hready
 rwa [show (nh [] l tr E σ G0 (listed.setIfInBounds i true)) = StJ l tr E σ G0 (listed.setIfInBounds i true) from by funext a w; exact pA _ _ _ _ _ _ _ _] at h
theorem vB {l : List Oper} {masks : List Nat} {bs : List Bool} {E : Env} {σ : List OB} {tr : List TS} (c : Chk l.toArray l masks bs) (ht : lN P l.toArray l bs E σ tr) (G0 : Gh) {Q : Exit → Act → World → Prop}
  (fin : ∀ G a w, Gle G0 G → Sim G (ce E l tr l.length) (aQ σ tr l.length) a w → Q .normal a w) :
  ∀ (fuel : Nat) (listed : Array Bool) (a : Act) (w : World), listed.toList.count false ≤ fuel → StJ l tr E σ G0 listed a w → wpAny P .any l.toArray Q fuel listed a w := by
 intro fuel listed a w h1 h2
 exact qI c.q (eP.of ht) G0 fin fuel listed a w h1 (by rw [pA]; exact h2)
def TR (P : Program) (ops : Array Oper) (l : List Oper) (bs : List Bool) (E : Env) (σ : List OB) (k : Env → List OB → Prop) : Prop :=
 ∃ tr, lN P ops l bs E σ tr ∧ k (ce E l tr l.length) (aQ σ tr l.length)
def lT : List OB → List OB → Prop
 | [], _ => True
 | a :: az, b :: bs => a = b ∧ lT az bs
 | _ :: _, [] => False
theorem mG : ∀ {σ σ' : List OB}, lT σ σ' → Ext σ σ'
 | [], σ', _ => ⟨σ', rfl⟩
 | a :: az, b :: bs, ⟨h1, h2⟩ => by obtain ⟨ρ, h⟩ := mG h2; exact ⟨ρ, by rw [h1, h]; rfl⟩
def jH (P : Program) (ops : Array Oper) (γ : Bool) (C : Prop) (f : FuncId) (args : List PV) (o : Oper) (r : List Oper) (bs : List Bool) (E : Env) (σ : List OB) (k : Env → List OB → Prop) : Prop :=
 bn P γ E σ o.op = .call C f args → dC ops E o.guard = some γ → TR P ops (o :: r) bs E σ k
def qJ (P : Program) (ops : Array Oper) (γ : Bool) (o : Oper) (r : List Oper) (bs : List Bool) (E : Env) (σ : List OB) (k : Env → List OB → Prop) (run : Env → List OB → Prop) : R → Prop
 | .ok C v => cy E o.dst ∧ C ∧ run (E.putD o.dst ⟨γ, v⟩) σ
 | .upd C v σ' => cy E o.dst ∧ γ = true ∧ C ∧ (bs.headD false = true ∨ lT σ σ') ∧ run (E.putD o.dst ⟨true, v⟩) σ'
 | .call C f args => jH P ops γ C f args o r bs E σ k
 | .bad => False
def gn (P : Program) (ops : Array Oper) : List Oper → List Bool → Env → List OB → (Env → List OB → Prop) → Prop
 | [], _, E, σ, k => k E σ
 | o :: r, bs, E, σ, k =>
  match dC ops E o.guard with
  | none => False
  | some false => cy E o.dst ∧ gn P ops r bs.tail (E.putD o.dst ⟨true, .t []⟩) σ k
  | some true => qJ P ops true o r bs E σ k (fun E' σ' => gn P ops r bs.tail E' σ' k) (bn P true E σ o.op)
theorem TR.cons {ops : Array Oper} {o : Oper} {r : List Oper} {bs : List Bool} {E : Env} {σ : List OB} {k : Env → List OB → Prop} {ts : TS} (h : vx P ops E σ o (bs.headD false) ts) (ht : TR P ops r bs.tail (E.putD o.dst ts.e) ts.σ k) : TR P ops (o :: r) bs E σ k := by
 obtain ⟨tr, h1, h2⟩ := ht
 refine ⟨ts :: tr, ⟨ts, tr, rfl, h, h1⟩, ?_⟩
 simpa [ce, aQ] using h2
theorem gL {ops : Array Oper} : ∀ (l : List Oper) (bs : List Bool) (E : Env) (σ : List OB) (k : Env → List OB → Prop), gn P ops l bs E σ k → TR P ops l bs E σ k
 | [], bs, E, σ, k, h => ⟨[], rfl, by unfold gn at h; simpa [ce, aQ] using h⟩
 | o :: r, bs, E, σ, k, h => by
  unfold gn at h
  split at h
  ·exact h.elim
  ·rename_i hγ
   exact TR.cons (ts := ⟨false, ⟨true, .t []⟩, σ⟩) ⟨hγ, h.1, .inr (.inr (.inr (.inl ⟨rfl, rfl, rfl⟩)))⟩ (gL r _ _ _ _ h.2)
  ·rename_i hγ
   unfold qJ at h
   split at h
   ·rename_i C v hrun
    obtain ⟨hd, hC, hr⟩ := h
    exact TR.cons (ts := ⟨true, ⟨true, v⟩, σ⟩) ⟨hγ, hd, .inl ⟨C, v, hrun, hC, rfl, rfl⟩⟩ (gL r _ _ _ _ hr)
   ·rename_i C v σ' hrun
    obtain ⟨hd, hg, hC, hb, hr⟩ := h
    exact TR.cons (ts := ⟨true, ⟨true, v⟩, σ'⟩) ⟨hγ, hd, .inr (.inl ⟨rfl, C, v, hrun, hC, rfl, hb.imp id mG⟩)⟩ (gL r _ _ _ _ hr)
   ·rename_i C f args hrun
    exact h hrun hγ
   ·exact h.elim
theorem ro {ops : Array Oper} {γ : Bool} {C : Prop} {f : FuncId} {args : List PV} {o : Oper} {r : List Oper} {bs : List Bool} {E : Env} {σ : List OB} {k : Env → List OB → Prop} {res : PV}
  (hs : γ = true → cz P f args res) (hd : cy E o.dst) (hC : γ = true → C) (hargs : args.all PV.noOwn = true) (hres : ∀ n, res.ren (cT n []) = res)
  (next : gn P ops r bs.tail (E.putD o.dst ⟨γ, res⟩) σ k) : jH P ops γ C f args o r bs E σ k := fun hrun hγ =>
 TR.cons (ts := ⟨γ, ⟨γ, res⟩, σ⟩) ⟨hγ, hd, .inr (.inr (.inl ⟨C, f, args, res, hrun, fun h => ⟨hC h, hs h⟩, hargs, hres, rfl, rfl⟩))⟩ (gL r _ _ _ _ next)
theorem tt {ops : Array Oper} {C : Prop} {f : FuncId} {args : List PV} {o : Oper} {r : List Oper} {bs : List Bool} {E : Env} {σ σ2 : List OB} {k : Env → List OB → Prop} {res : PV}
  (hs : jW P σ f args res σ2) (hd : cy E o.dst) (hC : C) (hb : bs.headD false = true ∨ lT σ σ2)
  (next : gn P ops r bs.tail (E.putD o.dst ⟨true, res⟩) σ2 k) : jH P ops true C f args o r bs E σ k := fun hrun hγ =>
 TR.cons (ts := ⟨true, ⟨true, res⟩, σ2⟩) ⟨hγ, hd, .inr (.inr (.inr (.inr (.inl ⟨rfl, C, f, args, res, hrun, hC, hs, rfl, hb.imp id mG⟩))))⟩ (gL r _ _ _ _ next)
theorem rp {id : Nat} {l : List Oper} {K : Kt} {E : Env} {σ : List OB} (hm : P.follows .mixedOrders = true) (masks : List Nat) (bs : List Bool) (hc : chk l.toArray l masks bs = true)
  (h : TR P l.toArray l bs E σ (K .normal)) : W P (.region id l.toArray true) K E σ := by
 obtain ⟨tr, ht, hk⟩ := h
 exact rn hm [] masks bs [] [] [] (wO hc) ⟨tr, eP.of ht, hk⟩
theorem sa {id : Nat} {l : List Oper} {K : Kt} {E : Env} {σ : List OB} (hm : P.follows .mixedOrders = true) (masks : List Nat) (bs : List Bool) (hc : chk l.toArray l masks bs = true)
  (h : ∀ (k : Env → List OB → Prop), (∀ E σ, K .normal E σ → k E σ) → gn P l.toArray l bs E σ k) : W P (.region id l.toArray true) K E σ :=
 rp hm masks bs hc (gL l bs E σ _ (h (K .normal) fun _ _ h => h))
end
end Pam
namespace Pam
open Go
theorem ud (γ : Bool) (v : PV) : aF γ ⟨true, v⟩ = True := by simp [aF]
theorem qK (γ : Bool) (v : PV) : aF γ ⟨γ, v⟩ = True := by simp [aF]
section
variable (n na : Nat) (t x a0 a1 a2 a3 a4 a5 a6 a7 : Tr) (e : Ent) (i : Nat)
theorem vC :
    ((∀ (n na : Nat) (t : Tr) (i : Nat), Env.get ⟨n, na, t⟩ i = (((t.get (i / 64)).get (i / 8 % 8)).get (i % 8)).ent) ∧
     (∀ (n na : Nat) (t : Tr) (i : Nat) (e : Ent), Env.put ⟨n, na, t⟩ i e = ⟨n, na, t.put (i / 64) ((t.get (i / 64)).put (i / 8 % 8) (((t.get (i / 64)).get (i / 8 % 8)).put (i % 8) (.leaf e)))⟩) ∧
     (∀ (E : Env) (i : Nat) (e : Ent), Env.putD E (some i) e = E.put i e) ∧ (∀ (E : Env) (e : Ent), Env.putD E none e = E) ∧
     (∀ (n na : Nat) (t : Tr) (d : Tmp), cy ⟨n, na, t⟩ (some d) = (d < n)) ∧ (∀ E : Env, cy E none = True)) ∧
    ((∀ i, Tr.get .nil i = .nil) ∧ (∀ e, Tr.ent (.leaf e) = e) ∧ Tr.ent .nil = ⟨false, .x⟩) :=
  ⟨⟨fun _ _ _ _ => rfl, fun _ _ _ _ _ => rfl, fun _ _ _ => rfl, fun _ _ => rfl, fun _ _ _ _ => rfl, fun _ => rfl⟩, fun _ => rfl, fun _ => rfl, rfl⟩
theorem vD :
    ((∀ a0 a1 a2 a3 a4 a5 a6 a7, Tr.get (.node a0 a1 a2 a3 a4 a5 a6 a7) 0 = a0) ∧ (∀ a0 a1 a2 a3 a4 a5 a6 a7, Tr.get (.node a0 a1 a2 a3 a4 a5 a6 a7) 1 = a1) ∧
     (∀ a0 a1 a2 a3 a4 a5 a6 a7, Tr.get (.node a0 a1 a2 a3 a4 a5 a6 a7) 2 = a2) ∧ (∀ a0 a1 a2 a3 a4 a5 a6 a7, Tr.get (.node a0 a1 a2 a3 a4 a5 a6 a7) 3 = a3)) ∧
    ((∀ a0 a1 a2 a3 a4 a5 a6 a7, Tr.get (.node a0 a1 a2 a3 a4 a5 a6 a7) 4 = a4) ∧ (∀ a0 a1 a2 a3 a4 a5 a6 a7, Tr.get (.node a0 a1 a2 a3 a4 a5 a6 a7) 5 = a5) ∧
     (∀ a0 a1 a2 a3 a4 a5 a6 a7, Tr.get (.node a0 a1 a2 a3 a4 a5 a6 a7) 6 = a6) ∧ (∀ a0 a1 a2 a3 a4 a5 a6 a7, Tr.get (.node a0 a1 a2 a3 a4 a5 a6 a7) 7 = a7)) := by
  refine ⟨⟨?_, ?_, ?_, ?_⟩, ?_, ?_, ?_, ?_⟩ <;> (intros; rfl)
theorem vE :
    (((∀ a0 a1 a2 a3 a4 a5 a6 a7 x, Tr.put (.node a0 a1 a2 a3 a4 a5 a6 a7) 0 x = .node x a1 a2 a3 a4 a5 a6 a7) ∧ (∀ a0 a1 a2 a3 a4 a5 a6 a7 x, Tr.put (.node a0 a1 a2 a3 a4 a5 a6 a7) 1 x = .node a0 x a2 a3 a4 a5 a6 a7) ∧
      (∀ a0 a1 a2 a3 a4 a5 a6 a7 x, Tr.put (.node a0 a1 a2 a3 a4 a5 a6 a7) 2 x = .node a0 a1 x a3 a4 a5 a6 a7) ∧ (∀ a0 a1 a2 a3 a4 a5 a6 a7 x, Tr.put (.node a0 a1 a2 a3 a4 a5 a6 a7) 3 x = .node a0 a1 a2 x a4 a5 a6 a7)) ∧
     ((∀ a0 a1 a2 a3 a4 a5 a6 a7 x, Tr.put (.node a0 a1 a2 a3 a4 a5 a6 a7) 4 x = .node a0 a1 a2 a3 x a5 a6 a7) ∧ (∀ a0 a1 a2 a3 a4 a5 a6 a7 x, Tr.put (.node a0 a1 a2 a3 a4 a5 a6 a7) 5 x = .node a0 a1 a2 a3 a4 x a6 a7) ∧
      (∀ a0 a1 a2 a3 a4 a5 a6 a7 x, Tr.put (.node a0 a1 a2 a3 a4 a5 a6 a7) 6 x = .node a0 a1 a2 a3 a4 a5 x a7) ∧ (∀ a0 a1 a2 a3 a4 a5 a6 a7 x, Tr.put (.node a0 a1 a2 a3 a4 a5 a6 a7) 7 x = .node a0 a1 a2 a3 a4 a5 a6 x))) ∧
    (((∀ x, Tr.put .nil 0 x = .node x .nil .nil .nil .nil .nil .nil .nil) ∧ (∀ x, Tr.put .nil 1 x = .node .nil x .nil .nil .nil .nil .nil .nil) ∧
      (∀ x, Tr.put .nil 2 x = .node .nil .nil x .nil .nil .nil .nil .nil) ∧ (∀ x, Tr.put .nil 3 x = .node .nil .nil .nil x .nil .nil .nil .nil)) ∧
     ((∀ x, Tr.put .nil 4 x = .node .nil .nil .nil .nil x .nil .nil .nil) ∧ (∀ x, Tr.put .nil 5 x = .node .nil .nil .nil .nil .nil x .nil .nil) ∧
      (∀ x, Tr.put .nil 6 x = .node .nil .nil .nil .nil .nil .nil x .nil) ∧ (∀ x, Tr.put .nil 7 x = .node .nil .nil .nil .nil .nil .nil .nil x))) ∧
    (((∀ e x, Tr.put (.leaf e) 0 x = .node x .nil .nil .nil .nil .nil .nil .nil))) := by
  refine ⟨⟨⟨?_, ?_, ?_, ?_⟩, ?_, ?_, ?_, ?_⟩, ⟨⟨?_, ?_, ?_, ?_⟩, ?_, ?_, ?_, ?_⟩, ?_⟩ <;> (intros; rfl)
end
theorem zz :
    ((∀ E t, ev E (.tmp t) = E.get t) ∧ (∀ E v, ev E (.const v) = mO v) ∧ (∀ E f, ev E (.func f) = ⟨true, .c (.fn f [])⟩)) ∧
    ((∀ k n, mO (.int k n) = ⟨true, .c (.int k n)⟩) ∧ (∀ b, mO (.bool b) = ⟨true, .c (.bool b)⟩) ∧ (∀ s, mO (.string s) = ⟨true, .c (.str s.data.toList)⟩) ∧
     (mO (.pointer none) = ⟨true, .c .nilp⟩) ∧ (mO (.slice none 0 0) = ⟨true, .c .nils⟩) ∧ (mO .nilFunc = ⟨true, .c .nilf⟩) ∧ (mO .nilIface = ⟨true, .c .nili⟩)) ∧
    ((∀ cs, mO (.agg cs) = (match iu cs.toList with | some l => ⟨true, .a l⟩ | none => ⟨false, .x⟩)) ∧ (iu [] = some []) ∧
     (∀ v r, iu (v :: r) = (match iS v, iu r with | some c, some cs => some (c :: cs) | _, _ => none)) ∧
     (∀ k n, iS (.int k n) = some (.int k n)) ∧ (∀ b, iS (.bool b) = some (.bool b)) ∧ (∀ s, iS (.string s) = some (.str s.data.toList)) ∧
     (iS (.pointer none) = some .nilp) ∧ (iS (.slice none 0 0) = some .nils) ∧ (iS .nilFunc = some .nilf) ∧ (iS .nilIface = some .nili)) := by
  refine ⟨⟨?_, ?_, ?_⟩, ⟨?_, ?_, ?_, ?_, ?_, ?_, ?_⟩, ?_, ?_, ?_, ?_, ?_, ?_, ?_, ?_, ?_, ?_⟩ <;> (intros; rfl)
theorem yY :
    ((∀ P γ E σ x, bn P γ E σ (.move x) = .ok (aF γ (ev E x)) (ev E x).v) ∧ (∀ P γ E σ x, bn P γ E σ (.assign x) = .ok (aF γ (ev E x)) (ev E x).v) ∧
     (∀ P γ E σ c a b, bn P γ E σ (.pick c a b) = mU γ (ev E c) (ev E a) (ev E b)) ∧ (∀ P γ E σ T, bn P γ E σ (.alloc T) = kC P σ T) ∧
     (∀ P γ E σ T x, bn P γ E σ (.box T x) = rh P σ T (ev E x)) ∧ (∀ P γ E σ T p, bn P γ E σ (.load T p) = jS P γ σ T (ev E p)) ∧
     (∀ P γ E σ T p x, bn P γ E σ (.store T p x) = jT P σ T (ev E p) (ev E x)) ∧ (∀ P γ E σ x, bn P γ E σ (.nilCheck x) = fQ γ σ (ev E x))) ∧
    ((∀ P γ E σ op T x y T', bn P γ E σ (.binOp op T x y T') = iR P γ op T (ev E x) (ev E y)) ∧ (∀ P γ E σ op T x, bn P γ E σ (.unOp op T x) = unR γ op (ev E x)) ∧
     (∀ P γ E σ s d x, bn P γ E σ (.convert s d x) = mV P γ s d (ev E x)) ∧ (∀ P γ E σ T x i, bn P γ E σ (.fieldAddr T x i) = dG P γ σ T (ev E x) i) ∧
     (∀ P γ E σ T x i, bn P γ E σ (.field T x i) = lk P γ T (ev E x) i) ∧ (∀ P γ E σ T x i, bn P γ E σ (.indexAddr T x i) = di P γ σ T (ev E x) (ev E i)) ∧
     (∀ P γ E σ T x i, bn P γ E σ (.index T x i) = jz P γ T (ev E x) (ev E i)) ∧ (∀ P γ E σ x i, bn P γ E σ (.extract x i) = iT γ (ev E x) i)) ∧
    ((∀ P γ E σ T x lo hi mx, bn P γ E σ (.slice T x lo hi mx) = jA P γ σ T (ev E x) (lo.map (ev E)) (hi.map (ev E)) (mx.map (ev E))) ∧
     (∀ P γ E σ T x y, bn P γ E σ (.makeSlice T x y) = gm P σ T (ev E x) (ev E y)) ∧
     (∀ P γ E σ T (l : List (Nat × Operand)), bn P γ E σ (.build T l.toArray) = ll P γ T (oB E l)) ∧
     (∀ P γ E σ T n (l : List (Nat × Operand)), bn P γ E σ (.buildSlice T n l.toArray) = eV P σ T n (oB E l)) ∧
     (∀ P γ E σ fn (first caps : List Operand), bn P γ E σ (.makeFunc fn first.toArray caps.toArray) = ie γ fn first (caps.map (ev E))) ∧
     (∀ P γ E σ f (args : List Operand) ts, bn P γ E σ (.call ⟨.value f, args.toArray, ts⟩) = ph γ (ev E f) (args.map (ev E))) ∧
     (∀ P γ E σ b (args : List Operand) (ts : List TypeId), bn P γ E σ (.call ⟨.builtin b, args.toArray, ts.toArray⟩) = eX P γ σ b ts (args.map (ev E)))) := by
  refine ⟨⟨?_, ?_, ?_, ?_, ?_, ?_, ?_, ?_⟩, ⟨?_, ?_, ?_, ?_, ?_, ?_, ?_, ?_⟩, ?_, ?_, ?_, ?_, ?_, ?_, ?_⟩ <;> (intros; rfl)
theorem xA :
    ((∀ P γ σ T c b off, jS P γ σ T ⟨c, .c (.optr b off)⟩ = (match σ[b]? with
        | some (.box cs) => .ok (aF γ ⟨c, .c (.optr b off)⟩ ∧ bt P T = true ∧ 0 < P.cellsOf T ∧ off + P.cellsOf T ≤ cs.length ∧ (jc P T = true ∨ P.cellsOf T = 1)) (mkV P T ((cs.drop off).take (P.cellsOf T)))
        | _ => .bad)) ∧
     (∀ P γ σ T c s es i j, jS P γ σ T ⟨c, .c (.tptr s es i j)⟩ = .ok (aF γ ⟨c, .c (.tptr s es i j)⟩ ∧ bt P T = true ∧ 0 < P.cellsOf T ∧ (γ = true → i < es.length) ∧ j + P.cellsOf T ≤ s ∧ (jc P T = true ∨ P.cellsOf T = 1)) (mkV P T (((elt es i).drop j).take (P.cellsOf T)))) ∧
     (∀ P γ σ T c b ver i j, jS P γ σ T ⟨c, .c (.oel b ver i j)⟩ = (match σ[b]? with
        | some (.arr s ver' _ es) => .ok (aF γ ⟨c, .c (.oel b ver i j)⟩ ∧ ver = ver' ∧ bt P T = true ∧ 0 < P.cellsOf T ∧ (γ = true → i < es.length) ∧ j + P.cellsOf T ≤ s ∧ (jc P T = true ∨ P.cellsOf T = 1)) (mkV P T (((elt es i).drop j).take (P.cellsOf T)))
        | _ => .bad))) ∧
    ((∀ P σ T c b off x, jT P σ T ⟨c, .c (.optr b off)⟩ x = (match σ[b]? with
        | some (.box cs) => .upd (c = true ∧ x.cond = true ∧ bt P T = true ∧ 0 < P.cellsOf T ∧ x.v.cells.length = P.cellsOf T ∧ off + P.cellsOf T ≤ cs.length) .x (σ.set b (.box (dS cs off x.v.cells)))
        | _ => .bad)) ∧
     (∀ P σ T c b ver i j x, jT P σ T ⟨c, .c (.oel b ver i j)⟩ x = (match σ[b]? with
        | some (.arr s ver' T' es) => .upd (c = true ∧ x.cond = true ∧ ver = ver' ∧ bt P T = true ∧ 0 < P.cellsOf T ∧ x.v.cells.length = P.cellsOf T ∧ (x.v.cells.all CV.flat) = true ∧ i < es.length ∧ j + P.cellsOf T ≤ s) .x
            (σ.set b (.arr s ver' T' (es.set i (dS (elt es i) j x.v.cells))))
        | _ => .bad))) ∧
    ((∀ y, PV.cells (.c y) = [y]) ∧ (∀ ys, PV.cells (.a ys) = ys) ∧ (∀ P σ T x, rh P σ T x = .upd (x.cond = true ∧ bt P T = true ∧ 0 < x.v.cells.length) (.c (.optr σ.length 0)) (σ ++ [.box x.v.cells])) ∧
     (∀ P σ T, kC P σ T = (match iv P T with | some z => .upd (0 < z.length) (.c (.optr σ.length 0)) (σ ++ [.box z]) | none => .bad))) ∧
    ((∀ (σ : List OB) b off, dU σ (.optr b off) = (match σ[b]? with | some (.box _) => True | _ => False)) ∧ (∀ (σ : List OB) b ver lo len, dU σ (.osl b ver lo len) = (match σ[b]? with | some (.arr _ ver' _ _) => ver = ver' | _ => False)) ∧
     (∀ (σ : List OB) b ver i j, dU σ (.oel b ver i j) = (match σ[b]? with | some (.arr _ ver' _ _) => ver = ver' | _ => False)) ∧ (∀ P T cs, mkV P T cs = (match jc P T with | true => .a cs | false => .c (cs.headD .junk)))) := by
  refine ⟨⟨?_, ?_, ?_⟩, ⟨?_, ?_⟩, ⟨?_, ?_, ?_, ?_⟩, ?_, ?_, ?_, ?_⟩ <;> (intros; rfl)
theorem yZ :
    ((∀ P γ T c c' k a k' b, iR P γ .add T ⟨c, .c (.int k a)⟩ ⟨c', .c (.int k' b)⟩ = if k = k' then .ok (aF γ ⟨c, .c (.int k a)⟩ ∧ aF γ ⟨c', .c (.int k' b)⟩ ∧ (γ = true → True)) (.c (.int k (k.wrap (a + b)))) else .bad) ∧
     (∀ P γ T c c' k a k' b, iR P γ .sub T ⟨c, .c (.int k a)⟩ ⟨c', .c (.int k' b)⟩ = if k = k' then .ok (aF γ ⟨c, .c (.int k a)⟩ ∧ aF γ ⟨c', .c (.int k' b)⟩ ∧ (γ = true → True)) (.c (.int k (k.wrap (a - b)))) else .bad) ∧
     (∀ P γ T c c' k a k' b, iR P γ .mul T ⟨c, .c (.int k a)⟩ ⟨c', .c (.int k' b)⟩ = if k = k' then .ok (aF γ ⟨c, .c (.int k a)⟩ ∧ aF γ ⟨c', .c (.int k' b)⟩ ∧ (γ = true → True)) (.c (.int k (k.wrap (a * b)))) else .bad) ∧
     (∀ P γ T c c' k a k' b, iR P γ .quo T ⟨c, .c (.int k a)⟩ ⟨c', .c (.int k' b)⟩ = if k = k' then .ok (aF γ ⟨c, .c (.int k a)⟩ ∧ aF γ ⟨c', .c (.int k' b)⟩ ∧ (γ = true → b ≠ 0)) (.c (.int k (k.wrap (a.tdiv b)))) else .bad) ∧
     (∀ P γ T c c' k a k' b, iR P γ .rem T ⟨c, .c (.int k a)⟩ ⟨c', .c (.int k' b)⟩ = if k = k' then .ok (aF γ ⟨c, .c (.int k a)⟩ ∧ aF γ ⟨c', .c (.int k' b)⟩ ∧ (γ = true → b ≠ 0)) (.c (.int k (a.tmod b))) else .bad)) ∧
    ((∀ P γ T c c' k a k' b, iR P γ .and T ⟨c, .c (.int k a)⟩ ⟨c', .c (.int k' b)⟩ = if k = k' then .ok (aF γ ⟨c, .c (.int k a)⟩ ∧ aF γ ⟨c', .c (.int k' b)⟩ ∧ (γ = true → True)) (.c (.int k (bits .and k a b))) else .bad) ∧
     (∀ P γ T c c' k a k' b, iR P γ .or T ⟨c, .c (.int k a)⟩ ⟨c', .c (.int k' b)⟩ = if k = k' then .ok (aF γ ⟨c, .c (.int k a)⟩ ∧ aF γ ⟨c', .c (.int k' b)⟩ ∧ (γ = true → True)) (.c (.int k (bits .or k a b))) else .bad) ∧
     (∀ P γ T c c' k a k' b, iR P γ .xor T ⟨c, .c (.int k a)⟩ ⟨c', .c (.int k' b)⟩ = if k = k' then .ok (aF γ ⟨c, .c (.int k a)⟩ ∧ aF γ ⟨c', .c (.int k' b)⟩ ∧ (γ = true → True)) (.c (.int k (bits .xor k a b))) else .bad) ∧
     (∀ P γ T c c' k a k' b, iR P γ .shl T ⟨c, .c (.int k a)⟩ ⟨c', .c (.int k' b)⟩ = .ok (aF γ ⟨c, .c (.int k a)⟩ ∧ aF γ ⟨c', .c (.int k' b)⟩ ∧ (γ = true → 0 ≤ b)) (.c (.int k (k.wrap (a * 2 ^ (min b.toNat k.bits)))))) ∧
     (∀ P γ T c c' k a k' b, iR P γ .shr T ⟨c, .c (.int k a)⟩ ⟨c', .c (.int k' b)⟩ = .ok (aF γ ⟨c, .c (.int k a)⟩ ∧ aF γ ⟨c', .c (.int k' b)⟩ ∧ (γ = true → 0 ≤ b)) (.c (.int k (a.fdiv (2 ^ (min b.toNat k.bits))))))) ∧
    ((∀ P γ T c c' k a k' b, iR P γ .eql T ⟨c, .c (.int k a)⟩ ⟨c', .c (.int k' b)⟩ = if k = k' then .ok (aF γ ⟨c, .c (.int k a)⟩ ∧ aF γ ⟨c', .c (.int k' b)⟩ ∧ (γ = true → True)) (.c (.bool (a == b))) else .bad) ∧
     (∀ P γ T c c' k a k' b, iR P γ .neq T ⟨c, .c (.int k a)⟩ ⟨c', .c (.int k' b)⟩ = if k = k' then .ok (aF γ ⟨c, .c (.int k a)⟩ ∧ aF γ ⟨c', .c (.int k' b)⟩ ∧ (γ = true → True)) (.c (.bool (a != b))) else .bad) ∧
     (∀ P γ T c c' k a k' b, iR P γ .lss T ⟨c, .c (.int k a)⟩ ⟨c', .c (.int k' b)⟩ = if k = k' then .ok (aF γ ⟨c, .c (.int k a)⟩ ∧ aF γ ⟨c', .c (.int k' b)⟩ ∧ (γ = true → True)) (.c (.bool (decide (a < b)))) else .bad) ∧
     (∀ P γ T c c' k a k' b, iR P γ .leq T ⟨c, .c (.int k a)⟩ ⟨c', .c (.int k' b)⟩ = if k = k' then .ok (aF γ ⟨c, .c (.int k a)⟩ ∧ aF γ ⟨c', .c (.int k' b)⟩ ∧ (γ = true → True)) (.c (.bool (decide (a ≤ b)))) else .bad) ∧
     (∀ P γ T c c' k a k' b, iR P γ .gtr T ⟨c, .c (.int k a)⟩ ⟨c', .c (.int k' b)⟩ = if k = k' then .ok (aF γ ⟨c, .c (.int k a)⟩ ∧ aF γ ⟨c', .c (.int k' b)⟩ ∧ (γ = true → True)) (.c (.bool (decide (a > b)))) else .bad) ∧
     (∀ P γ T c c' k a k' b, iR P γ .geq T ⟨c, .c (.int k a)⟩ ⟨c', .c (.int k' b)⟩ = if k = k' then .ok (aF γ ⟨c, .c (.int k a)⟩ ∧ aF γ ⟨c', .c (.int k' b)⟩ ∧ (γ = true → True)) (.c (.bool (decide (a ≥ b)))) else .bad)) := by
  refine ⟨⟨?_, ?_, ?_, ?_, ?_⟩, ⟨?_, ?_, ?_, ?_, ?_⟩, ?_, ?_, ?_, ?_, ?_, ?_⟩ <;> (intros; rfl)
theorem za :
    ((∀ P γ op T c c' a b, iR P γ op T ⟨c, .c (.str a)⟩ ⟨c', .c (.str b)⟩ = (match pg op a b with | some (C, v) => .ok (aF γ ⟨c, .c (.str a)⟩ ∧ aF γ ⟨c', .c (.str b)⟩ ∧ (γ = true → C)) v | none => .bad)) ∧
     (∀ P γ op T c c' a b, iR P γ op T ⟨c, .c (.bool a)⟩ ⟨c', .c (.bool b)⟩ = (match op, eqV P T (.c (.bool a)) (.c (.bool b)) with
        | .eql, some (C, r) => .ok (aF γ ⟨c, .c (.bool a)⟩ ∧ aF γ ⟨c', .c (.bool b)⟩ ∧ C) (.c (.bool r)) | .neq, some (C, r) => .ok (aF γ ⟨c, .c (.bool a)⟩ ∧ aF γ ⟨c', .c (.bool b)⟩ ∧ C) (.c (.bool (!r))) | _, _ => .bad)) ∧
     (∀ P γ op T c c' a b, iR P γ op T ⟨c, .a a⟩ ⟨c', .a b⟩ = (match op, eqV P T (.a a) (.a b) with
        | .eql, some (C, r) => .ok (aF γ ⟨c, .a a⟩ ∧ aF γ ⟨c', .a b⟩ ∧ C) (.c (.bool r)) | .neq, some (C, r) => .ok (aF γ ⟨c, .a a⟩ ∧ aF γ ⟨c', .a b⟩ ∧ C) (.c (.bool (!r))) | _, _ => .bad)) ∧
     (∀ P T a b, eqV P T (.c (.bool a)) (.c (.bool b)) = some (pe P T = true, a == b)) ∧ (∀ P T s es, eqV P T (.c (.tree s es)) (.c .nils) = some (fN P T = true ∧ es ≠ [], false)) ∧ (∀ P T, eqV P T (.c .nils) (.c .nils) = some (fN P T = true, true)) ∧ (∀ P T, eqV P T (.c .emn) (.c .nils) = some (fN P T = true, false)) ∧
     (∀ P γ op T c c' s es, iR P γ op T ⟨c, .c (.tree s es)⟩ ⟨c', .c .nils⟩ = (match op, eqV P T (.c (.tree s es)) (.c .nils) with
        | .eql, some (C, r) => .ok (aF γ ⟨c, .c (.tree s es)⟩ ∧ aF γ ⟨c', .c .nils⟩ ∧ C) (.c (.bool r)) | .neq, some (C, r) => .ok (aF γ ⟨c, .c (.tree s es)⟩ ∧ aF γ ⟨c', .c .nils⟩ ∧ C) (.c (.bool (!r))) | _, _ => .bad)) ∧
     (∀ P γ op T c c', iR P γ op T ⟨c, .c .nils⟩ ⟨c', .c .nils⟩ = (match op, eqV P T (.c .nils) (.c .nils) with
        | .eql, some (C, r) => .ok (aF γ ⟨c, .c .nils⟩ ∧ aF γ ⟨c', .c .nils⟩ ∧ C) (.c (.bool r)) | .neq, some (C, r) => .ok (aF γ ⟨c, .c .nils⟩ ∧ aF γ ⟨c', .c .nils⟩ ∧ C) (.c (.bool (!r))) | _, _ => .bad)) ∧
     (∀ P γ op T c c', iR P γ op T ⟨c, .c .emn⟩ ⟨c', .c .nils⟩ = (match op, eqV P T (.c .emn) (.c .nils) with
        | .eql, some (C, r) => .ok (aF γ ⟨c, .c .emn⟩ ∧ aF γ ⟨c', .c .nils⟩ ∧ C) (.c (.bool r)) | .neq, some (C, r) => .ok (aF γ ⟨c, .c .emn⟩ ∧ aF γ ⟨c', .c .nils⟩ ∧ C) (.c (.bool (!r))) | _, _ => .bad)) ∧ (∀ P T xs ys, eqV P T (.a xs) (.a ys) = (match qg xs ys with | some b => some (rN P T = some (xs.map pf), b) | none => none))) ∧
    ((∀ γ c b, unR γ .not ⟨c, .c (.bool b)⟩ = .ok (aF γ ⟨c, .c (.bool b)⟩) (.c (.bool (!b)))) ∧ (∀ γ c k n, unR γ .neg ⟨c, .c (.int k n)⟩ = .ok (aF γ ⟨c, .c (.int k n)⟩) (.c (.int k (k.wrap (0 - n))))) ∧
     (∀ γ c k n, unR γ .xor ⟨c, .c (.int k n)⟩ = .ok (aF γ ⟨c, .c (.int k n)⟩) (.c (.int k (bits .xor k (if k.signed then -1 else k.max) n)))) ∧
     (∀ γ c a b, mU γ ⟨c, .c (.bool true)⟩ a b = .ok (aF γ ⟨c, .c (.bool true)⟩ ∧ aF γ a) a.v) ∧ (∀ γ c a b, mU γ ⟨c, .c (.bool false)⟩ a b = .ok (aF γ ⟨c, .c (.bool false)⟩ ∧ aF γ b) b.v) ∧
     (∀ P γ s d c k n, mV P γ s d ⟨c, .c (.int k n)⟩ = .ok (aF γ ⟨c, .c (.int k n)⟩ ∧ (P.underlying s).isSome = true ∧ qz P d = true) (.c (.int (P.intKind d) ((P.intKind d).wrap n)))) ∧
     (∀ P γ s d c n, mV P γ s d ⟨c, .c (.str n)⟩ = .ok (aF γ ⟨c, .c (.str n)⟩ ∧ (P.underlying s).isSome = true ∧ kq P d = true) (.c (.str n)))) ∧
    ((∀ P γ σ T c b off i, dG P γ σ T ⟨c, .c (.optr b off)⟩ i = .ok (aF γ ⟨c, .c (.optr b off)⟩ ∧ dU σ (.optr b off) ∧ ko P T i = true) (.c (.optr b (off + ir P T i)))) ∧
     (∀ P γ σ T c s es k j i, dG P γ σ T ⟨c, .c (.tptr s es k j)⟩ i = .ok (aF γ ⟨c, .c (.tptr s es k j)⟩ ∧ ko P T i = true) (.c (.tptr s es k (j + ir P T i)))) ∧
     (∀ P γ σ T c b ver k j i, dG P γ σ T ⟨c, .c (.oel b ver k j)⟩ i = .ok (aF γ ⟨c, .c (.oel b ver k j)⟩ ∧ dU σ (.oel b ver k j) ∧ ko P T i = true) (.c (.oel b ver k (j + ir P T i)))) ∧
     (∀ P γ T c ys i, lk P γ T ⟨c, .a ys⟩ i = .ok (aF γ ⟨c, .a ys⟩ ∧ ko P T i = true ∧ bt P (lW P T i) = true ∧ ir P T i + P.cellsOf (lW P T i) ≤ ys.length ∧ (jc P (lW P T i) = true ∨ P.cellsOf (lW P T i) = 1))
      (mkV P (lW P T i) ((ys.drop (ir P T i)).take (P.cellsOf (lW P T i)))))) := by
  refine ⟨⟨?_, ?_, ?_, ?_, ?_, ?_, ?_, ?_, ?_, ?_, ?_⟩, ⟨?_, ?_, ?_, ?_, ?_, ?_, ?_⟩, ?_, ?_, ?_, ?_⟩ <;> (intros; rfl)
theorem zA :
    ((∀ P γ σ T c c' s es k n, di P γ σ T ⟨c, .c (.tree s es)⟩ ⟨c', .c (.int k n)⟩ = .ok (aF γ ⟨c, .c (.tree s es)⟩ ∧ aF γ ⟨c', .c (.int k n)⟩ ∧ fN P T = true ∧ bt P (P.elem T) = true ∧ P.cellsOf (P.elem T) = s ∧ (γ = true → 0 ≤ n ∧ n < es.length)) (.c (.tptr s es n.toNat 0))) ∧
     (∀ P γ σ T c c' b ver lo len k n, di P γ σ T ⟨c, .c (.osl b ver lo len)⟩ ⟨c', .c (.int k n)⟩ = (match σ[b]? with
        | some (.arr s ver' _ _) => .ok (aF γ ⟨c, .c (.osl b ver lo len)⟩ ∧ aF γ ⟨c', .c (.int k n)⟩ ∧ ver = ver' ∧ fN P T = true ∧ bt P (P.elem T) = true ∧ P.cellsOf (P.elem T) = s ∧ (γ = true → 0 ≤ n ∧ n < len)) (.c (.oel b ver (lo + n.toNat) 0))
        | _ => .bad)) ∧
     (∀ P γ σ T c c' b off k n, di P γ σ T ⟨c, .c (.optr b off)⟩ ⟨c', .c (.int k n)⟩ = .ok (aF γ ⟨c, .c (.optr b off)⟩ ∧ aF γ ⟨c', .c (.int k n)⟩ ∧ dU σ (.optr b off) ∧ lL P T = true ∧ bt P (P.elem T) = true ∧ (γ = true → 0 ≤ n ∧ n < P.arrayLen T)) (.c (.optr b (off + n.toNat * P.cellsOf (P.elem T))))) ∧
     (∀ P γ σ T c c' b ver i j k n, di P γ σ T ⟨c, .c (.oel b ver i j)⟩ ⟨c', .c (.int k n)⟩ = (match σ[b]? with
        | some (.arr s ver' _ _) => .ok (aF γ ⟨c, .c (.oel b ver i j)⟩ ∧ aF γ ⟨c', .c (.int k n)⟩ ∧ ver = ver' ∧ lL P T = true ∧ bt P (P.elem T) = true ∧ P.cellsOf (P.elem T) = s ∧ j = 0 ∧ (γ = true → 0 ≤ n ∧ n < P.arrayLen T)) (.c (.oel b ver (i + n.toNat) 0))
        | _ => .bad)) ∧
     (∀ P γ T c c' s k n, jz P γ T ⟨c, .c (.str s)⟩ ⟨c', .c (.int k n)⟩ = .ok (aF γ ⟨c, .c (.str s)⟩ ∧ aF γ ⟨c', .c (.int k n)⟩ ∧ kq P T = true ∧ (γ = true → 0 ≤ n ∧ n < s.length)) (.c (.int .u8 ((s.getD n.toNat 0).toNat)))) ∧
     (∀ P γ T c c' ys k n, jz P γ T ⟨c, .a ys⟩ ⟨c', .c (.int k n)⟩ = .ok (aF γ ⟨c, .a ys⟩ ∧ aF γ ⟨c', .c (.int k n)⟩ ∧ lL P T = true ∧ bt P (P.elem T) = true ∧ P.arrayLen T * P.cellsOf (P.elem T) ≤ ys.length ∧ jc P (P.elem T) = false ∧ P.cellsOf (P.elem T) = 1 ∧ (γ = true → 0 ≤ n ∧ n < P.arrayLen T)) (.c (ys.getD n.toNat .junk)))) ∧
    ((∀ γ c ps i, iT γ ⟨c, .t ps⟩ i = .ok (aF γ ⟨c, .t ps⟩ ∧ i < ps.length) (ps.getD i .x)) ∧
     (∀ P γ σ T c s es, mP P γ σ T ⟨c, .c (.tree s es)⟩ = .ok (aF γ ⟨c, .c (.tree s es)⟩ ∧ fN P T = true) (.c (.int .i64 es.length))) ∧
     (∀ P γ σ T c b ver lo len, mP P γ σ T ⟨c, .c (.osl b ver lo len)⟩ = .ok (aF γ ⟨c, .c (.osl b ver lo len)⟩ ∧ dU σ (.osl b ver lo len) ∧ fN P T = true) (.c (.int .i64 len))) ∧
     (∀ P γ σ T c, mP P γ σ T ⟨c, .c .nils⟩ = .ok (aF γ ⟨c, .c .nils⟩ ∧ fN P T = true) (.c (.int .i64 0))) ∧ (∀ P γ σ T c, mP P γ σ T ⟨c, .c .emn⟩ = .ok (aF γ ⟨c, .c .emn⟩ ∧ fN P T = true) (.c (.int .i64 0))) ∧ (∀ P γ σ T c, mP P γ σ T ⟨c, .c .emp⟩ = .ok (aF γ ⟨c, .c .emp⟩ ∧ fN P T = true) (.c (.int .i64 0))) ∧
     (∀ P γ σ T c s, mP P γ σ T ⟨c, .c (.str s)⟩ = .ok (aF γ ⟨c, .c (.str s)⟩ ∧ kq P T = true) (.c (.int .i64 s.length)))) ∧
    ((∀ P γ σ T x, eX P γ σ .len [T] [x] = mP P γ σ T x) ∧ (∀ P γ σ T T' x y, eX P γ σ .append [T, T'] [x, y] = if T = T' ∨ kq P T' then jn P σ T x y else .bad) ∧
     (∀ P γ σ l x y, eX P γ σ .min l [x, y] = eW γ false x y) ∧ (∀ P γ σ l x y, eX P γ σ .max l [x, y] = eW γ true x y) ∧
     (∀ γ mx c c' k a k' b, eW γ mx ⟨c, .c (.int k a)⟩ ⟨c', .c (.int k' b)⟩ = .ok (aF γ ⟨c, .c (.int k a)⟩ ∧ aF γ ⟨c', .c (.int k' b)⟩ ∧ k = k') (.c (.int k (if mx then (if b > a then b else a) else (if b < a then b else a))))) ∧
     (∀ γ c g caps args, ph γ ⟨c, .c (.fn g caps)⟩ args = .call (c = true ∧ ∀ e ∈ args, aF γ e) g (args.map (·.v) ++ caps.map .c)) ∧
     (∀ γ σ c b off, fQ γ σ ⟨c, .c (.optr b off)⟩ = .ok (aF γ ⟨c, .c (.optr b off)⟩ ∧ dU σ (.optr b off)) (.c (.optr b off)))) := by
  refine ⟨⟨?_, ?_, ?_, ?_, ?_, ?_⟩, ⟨?_, ?_, ?_, ?_, ?_, ?_, ?_⟩, ?_, ?_, ?_, ?_, ?_, ?_, ?_⟩ <;> (intros; rfl)
theorem wP :
    (∀ ops E, dC ops E none = some true) ∧ (∀ (l : List Oper) E j w, dC l.toArray E (some (j, w)) = (match l[j]? with
      | none => none
      | some o => (match o.dst with | none => none | some d => (match (E.get d).cond, (E.get d).v with | true, .c (.bool X) => some (X == w) | true, .t [] => some false | _, _ => none)))) := by
  refine ⟨?_, ?_⟩
  · intros; rfl
  · intro l E j w; rw [← List.getElem?_toArray]; rfl
end Pam
namespace Pam
open Go
theorem wQ {α : Type} [Inhabited α] (f : α → List CV) (xs : List α) (i : Nat) (h : i < xs.length) : elt (xs.map f) i = f (xs.getD i default) := by
 simp [elt, List.getD, h]
end Pam
namespace Pam
open Go
def Tr.le : Tr → Tr → Prop
  | _, .nil => True
  | t, .leaf e' => e'.cond = false ∨ t = .leaf e'
  | .node a0 a1 a2 a3 a4 a5 a6 a7, .node b0 b1 b2 b3 b4 b5 b6 b7 => Tr.le a0 b0 ∧ Tr.le a1 b1 ∧ Tr.le a2 b2 ∧ Tr.le a3 b3 ∧ Tr.le a4 b4 ∧ Tr.le a5 b5 ∧ Tr.le a6 b6 ∧ Tr.le a7 b7
  | .nil, .node b0 b1 b2 b3 b4 b5 b6 b7 => Tr.le .nil b0 ∧ Tr.le .nil b1 ∧ Tr.le .nil b2 ∧ Tr.le .nil b3 ∧ Tr.le .nil b4 ∧ Tr.le .nil b5 ∧ Tr.le .nil b6 ∧ Tr.le .nil b7
  | _, .node _ _ _ _ _ _ _ _ => False
def Tr.under (n : Nat) : Tr → Prop
  | .nil => True
  | .leaf e => e.cond = false ∨ e.v.under n
  | .node a0 a1 a2 a3 a4 a5 a6 a7 => Tr.under n a0 ∧ Tr.under n a1 ∧ Tr.under n a2 ∧ Tr.under n a3 ∧ Tr.under n a4 ∧ Tr.under n a5 ∧ Tr.under n a6 ∧ Tr.under n a7
theorem Tr.le_get {t t' : Tr} (h : Tr.le t t') (j : Nat) : Tr.le (t.get j) (t'.get j) := by
  rcases Nat.lt_or_ge j 8 with hj | hj
  · have hj' : j = 0 ∨ j = 1 ∨ j = 2 ∨ j = 3 ∨ j = 4 ∨ j = 5 ∨ j = 6 ∨ j = 7 := by omega
    cases t' with
    | nil => show Tr.le _ .nil; cases t.get j <;> trivial
    | leaf e => show Tr.le _ .nil; cases t.get j <;> trivial
    | node b0 b1 b2 b3 b4 b5 b6 b7 =>
      cases t with
      | nil =>
        obtain ⟨h0, h1, h2, h3, h4, h5, h6, h7⟩ := h
        rcases hj' with rfl | rfl | rfl | rfl | rfl | rfl | rfl | rfl <;> assumption
      | leaf e => exact h.elim
      | node a0 a1 a2 a3 a4 a5 a6 a7 =>
        obtain ⟨h0, h1, h2, h3, h4, h5, h6, h7⟩ := h
        rcases hj' with rfl | rfl | rfl | rfl | rfl | rfl | rfl | rfl <;> assumption
  · rw [Tr.get_big t' j hj]; cases t.get j <;> trivial
theorem Tr.le_ent {t t' : Tr} (h : Tr.le t t') (hc : t'.ent.cond = true) : t.ent = t'.ent := by
  cases t' with
  | nil => cases hc
  | node => cases hc
  | leaf e =>
    have h' : e.cond = false ∨ t = .leaf e := by cases t <;> exact h
    rcases h' with h' | h'
    · simp only [Tr.ent] at hc; rw [h'] at hc; cases hc
    · rw [h']
theorem Tr.under_get {n : Nat} {t : Tr} (h : Tr.under n t) (j : Nat) : Tr.under n (t.get j) := by
  rcases Nat.lt_or_ge j 8 with hj | hj
  · have hj' : j = 0 ∨ j = 1 ∨ j = 2 ∨ j = 3 ∨ j = 4 ∨ j = 5 ∨ j = 6 ∨ j = 7 := by omega
    cases t with
    | nil => trivial
    | leaf e => trivial
    | node a0 a1 a2 a3 a4 a5 a6 a7 =>
      obtain ⟨h0, h1, h2, h3, h4, h5, h6, h7⟩ := h
      rcases hj' with rfl | rfl | rfl | rfl | rfl | rfl | rfl | rfl <;> assumption
  · rw [Tr.get_big t j hj]; trivial
theorem Tr.under_ent {n : Nat} {t : Tr} (h : Tr.under n t) (hc : t.ent.cond = true) : t.ent.v.under n := by
  cases t with
  | nil => cases hc
  | node => cases hc
  | leaf e => rcases h with h | h
              · simp only [Tr.ent] at hc; rw [h] at hc; cases hc
              · exact h
def lO (E : Env) (σ : List OB) (E' : Env) (τ : List OB) : Prop :=
  (E.n = E'.n ∧ E.na = E'.na) ∧ Tr.le E.t E'.t ∧ (∃ ρ, σ = τ ++ ρ) ∧ E.na ≤ τ.length ∧ cg τ.length τ ∧ Tr.under τ.length E'.t
theorem lO.sim {G : Gh} {E E' : Env} {σ τ : List OB} {a : Act} {w : World} (h : lO E σ E' τ) (hs : Sim G E σ a w) :
    ∃ G', Gle G G' ∧ Sim G' E' τ a w := by
  obtain ⟨⟨hn, hna'⟩, hk, ⟨ρ, rfl⟩, hna, hob, hsl⟩ := h
  refine ⟨{ G with own := G.own.take τ.length }, ⟨⟨fun _ _ h => h, rfl, rfl, rfl⟩, ?_⟩, hs.inv.drop hob, hs.defers, by rw [← hn]; exact hs.size, by rw [← hna']; exact hs.na, fun i hc => ?_⟩
  · intro b oo hb hoo
    refine ⟨oo, ?_, fun o' e => ⟨o', e, .inl rfl⟩⟩
    rw [hs.na] at hb
    simp only
    rw [List.getElem?_take_of_lt (by omega)]; exact hoo
  · have hE : E.get i = E'.get i := Tr.le_ent (Tr.le_get (Tr.le_get (Tr.le_get hk _) _) _) hc
    have hu : (E'.get i).v.under τ.length := Tr.under_ent (Tr.under_get (Tr.under_get (Tr.under_get hsl _) _) _) hc
    have hr := hs.slot i (by rw [hE]; exact hc)
    rw [hE] at hr
    exact aR.drop (G := G) (G' := { G with own := G.own.take τ.length }) rfl rfl hu hr
def Env.erase (E : Env) (i : Nat) : Env := ⟨E.n, E.na, E.t.put (i / 64) ((E.t.get (i / 64)).put (i / 8 % 8) (((E.t.get (i / 64)).get (i / 8 % 8)).put (i % 8) .nil))⟩
def Env.forget (E : Env) : List Nat → Env
  | [] => E
  | i :: r => Env.forget (E.erase i) r
def Env.puts (E : Env) : List (Nat × PV) → Env
  | [] => E
  | (i, p) :: r => Env.puts (E.put i ⟨true, p⟩) r
def Env.over (E : Env) (ms : List Nat) (l : List (Nat × PV)) : Env := (E.forget ms).puts l
section
variable {P : Program} {K : Kt} {E E0 : Env} {σ : List OB}
theorem wR {c : Code} {E' : Env} {τ : List OB} (h : lO E σ E' τ) (hw : W P c K E' τ) : W P c K E σ := fun G a w hs => by
  obtain ⟨G', h1, h2⟩ := h.sim hs
  exact Code.wp_mono (fun _ _ _ hq => dL.back h1 hq) (hw G' a w h2)
theorem Tr.get_erase (t : Tr) (i j : Nat) (x : Tr) : (t.put i x).get j = .nil ∨ (t.put i x).get j = t.get j ∨ (j = i ∧ (t.put i x).get j = x) := by
  rcases Nat.lt_or_ge i 8 with hi | hi
  · rw [Tr.get_put t i j x hi]
    by_cases e : j = i
    · subst e; simp
    · simp [e]
  · rcases Tr.put_big t i j x hi with h | h
    · exact .inr (.inl h)
    · exact .inl h
theorem Env.erase_get (E : Env) (i j : Nat) (h : ((E.erase i).get j).cond = true) : (E.erase i).get j = E.get j := by
  unfold Env.erase Env.get at *
  simp only at *
  have nil1 : ∀ k, (Tr.nil.get k) = .nil := fun _ => rfl
  rcases Tr.get_erase E.t (i / 64) (j / 64) ((E.t.get (i / 64)).put (i / 8 % 8) (((E.t.get (i / 64)).get (i / 8 % 8)).put (i % 8) .nil)) with e | e | ⟨e0, e⟩
  · rw [e] at h; simp [nil1, Tr.ent] at h
  · rw [e]
  · rw [e] at h ⊢
    rcases Tr.get_erase (E.t.get (i / 64)) (i / 8 % 8) (j / 8 % 8) (((E.t.get (i / 64)).get (i / 8 % 8)).put (i % 8) .nil) with f | f | ⟨f0, f⟩
    · rw [f] at h; simp [nil1, Tr.ent] at h
    · rw [f, e0]
    · rw [f] at h ⊢
      rcases Tr.get_erase ((E.t.get (i / 64)).get (i / 8 % 8)) (i % 8) (j % 8) .nil with g | g | ⟨g0, g⟩
      · rw [g] at h; simp [Tr.ent] at h
      · rw [g, e0, f0]
      · rw [g] at h; simp [Tr.ent] at h
theorem Env.erase_sim {G : Gh} {E : Env} {σ : List OB} {a : Act} {w : World} (h : Sim G E σ a w) (i : Nat) : Sim G (E.erase i) σ a w :=
  ⟨h.inv, h.defers, h.size, h.na, fun j hc => by have e := Env.erase_get E i j hc; rw [e] at hc ⊢; exact h.slot j hc⟩
theorem Env.forget_sim {G : Gh} {σ : List OB} {a : Act} {w : World} : ∀ (ms : List Nat) {E : Env}, Sim G E σ a w → Sim G (E.forget ms) σ a w
  | [], _, h => h
  | i :: r, _, h => Env.forget_sim r (Env.erase_sim h i)
theorem kM {c : Code} (ms : List Nat) (h : W P c K (E.forget ms) σ) : W P c K E σ := fun G a w hs => h G a w (Env.forget_sim ms hs)
theorem aY {id : Nat} {l : List Oper} {y : Code} (ms : List Nat)
    (h : ∀ (k : Env → List OB → Prop) (kp : PV → Env → List OB → Prop), (∀ E σ, W P y K E σ → k E σ) → (∀ p E σ, K (.panic p) E σ → kp p E σ) → dA P l.toArray l E σ (fun E σ => k (E.forget ms) σ) kp) :
    W P (.seq (.region id l.toArray false) y) K E σ := oD fun G a w hs =>
  wp_region_lit (cS (fun _ _ _ hp => dL.mono (fun x E σ hk => by
      cases x with
      | normal => exact kM ms hk
      | exit id => exact hk.elim
      | ret => exact hk.elim
      | panic p => exact hk) hp)
    l a w (ig l E σ _ _ (h (W P y K) (fun p => K (.panic p)) (fun _ _ h => h) (fun _ _ _ h => h)) G a w hs))
theorem nm {id : Nat} {l : List Oper} {y : Code} (ms : List Nat) (hm : P.follows .mixedOrders = true) (masks : List Nat) (bs : List Bool) (hc : chk l.toArray l masks bs = true)
    (h : ∀ (k : Env → List OB → Prop), (∀ E σ, W P y K E σ → k E σ) → gn P l.toArray l bs E σ (fun E σ => k (E.forget ms) σ)) : W P (.seq (.region id l.toArray true) y) K E σ :=
  oD (rp hm masks bs hc (by
    obtain ⟨tr, h1, h2⟩ := gL l bs E σ _ (h (W P y K) fun _ _ h => h)
    exact ⟨tr, h1, kM ms h2⟩))
theorem aj {k : Env → List OB → Prop} (h : k E σ) : qF k K .normal E σ := h
theorem aW {k : Env → List OB → Prop} {i : Nat} (h : K (.exit i) E σ) : qF k K (.exit i) E σ := h
theorem ai {k : Env → List OB → Prop} (h : K .ret E σ) : qF k K .ret E σ := h
theorem az {i : Nat} (h : K .normal E σ) : od i K .normal E σ := h
theorem aC {i : Nat} (h : K .normal E σ) : od i K (.exit i) E σ := by simp only [od, if_true]; exact h
theorem af {i : Nat} (h : K .ret E σ) : od i K .ret E σ := h
section
variable {α : Type} {ms : List Nat} {slots : α → List (Nat × PV)} {heap : α → List OB} {inv : α → Prop} {μ : α → Nat} {x : α}
end
theorem ag {c : Operand} {x y : Code} {X : Bool} (hc : ev E c = ⟨true, .c (.bool X)⟩) (hX : X = true) (h : W P x K E σ) : W P (.cond c x y) K E σ :=
  vw hc (fun _ => h) (fun h' => by rw [hX] at h'; cases h')
theorem ah {c : Operand} {x y : Code} {X : Bool} (hc : ev E c = ⟨true, .c (.bool X)⟩) (hX : X = false) (h : W P y K E σ) : W P (.cond c x y) K E σ :=
  vw hc (fun h' => by rw [hX] at h'; cases h') (fun _ => h)
end
def kN : List OB → List OB → Prop
  | [], _ => True
  | a :: az, b :: bs => a = b ∧ kN az bs
  | _ :: _, [] => False
theorem pB : ∀ {τ σ : List OB}, kN τ σ → ∃ ρ, σ = τ ++ ρ
  | [], σ, _ => ⟨σ, rfl⟩
  | a :: az, b :: bs, h => by obtain ⟨ρ, hr⟩ := pB h.2; exact ⟨ρ, by rw [h.1, hr]; rfl⟩
theorem uQ (τ ρ : List OB) : kN τ (τ ++ ρ) := by
  induction τ with
  | nil => trivial
  | cons a az ih => exact ⟨rfl, ih⟩
theorem vF :
    ((∀ E σ E' τ, lO E σ E' τ = ((E.n = E'.n ∧ E.na = E'.na) ∧ Tr.le E.t E'.t ∧ kN τ σ ∧ E.na ≤ τ.length ∧ cg τ.length τ ∧ Tr.under τ.length E'.t)) ∧
     (∀ τ, kN [] τ = True) ∧ (∀ a az b bs, kN (a :: az) (b :: bs) = (a = b ∧ kN az bs)) ∧ (∀ a az, kN (a :: az) [] = False) ∧
     (∀ t, Tr.le t .nil = True) ∧ (∀ e t, Tr.le t (.leaf ⟨false, e⟩) = True) ∧ (∀ c v v', Tr.le (.leaf ⟨c, v⟩) (.leaf ⟨true, v'⟩) = (c = true ∧ v = v')) ∧
     (∀ b0 b1 b2 b3 b4 b5 b6 b7, Tr.le .nil (.node b0 b1 b2 b3 b4 b5 b6 b7) = (Tr.le .nil b0 ∧ Tr.le .nil b1 ∧ Tr.le .nil b2 ∧ Tr.le .nil b3 ∧ Tr.le .nil b4 ∧ Tr.le .nil b5 ∧ Tr.le .nil b6 ∧ Tr.le .nil b7)) ∧
     (∀ a0 a1 a2 a3 a4 a5 a6 a7 b0 b1 b2 b3 b4 b5 b6 b7, Tr.le (.node a0 a1 a2 a3 a4 a5 a6 a7) (.node b0 b1 b2 b3 b4 b5 b6 b7) = (Tr.le a0 b0 ∧ Tr.le a1 b1 ∧ Tr.le a2 b2 ∧ Tr.le a3 b3 ∧ Tr.le a4 b4 ∧ Tr.le a5 b5 ∧ Tr.le a6 b6 ∧ Tr.le a7 b7))) ∧
    ((∀ n, Tr.under n .nil = True) ∧ (∀ n v, Tr.under n (.leaf ⟨false, v⟩) = True) ∧ (∀ n v, Tr.under n (.leaf ⟨true, v⟩) = v.under n) ∧
     (∀ n a0 a1 a2 a3 a4 a5 a6 a7, Tr.under n (.node a0 a1 a2 a3 a4 a5 a6 a7) = (Tr.under n a0 ∧ Tr.under n a1 ∧ Tr.under n a2 ∧ Tr.under n a3 ∧ Tr.under n a4 ∧ Tr.under n a5 ∧ Tr.under n a6 ∧ Tr.under n a7))) ∧
    ((∀ E ms l, Env.over E ms l = (E.forget ms).puts l) ∧      (∀ E, Env.puts E [] = E) ∧ (∀ E i p r, Env.puts E ((i, p) :: r) = Env.puts (E.put i ⟨true, p⟩) r)) ∧
    ((∀ n, cg n [] = True) ∧ (∀ n o r, cg n (o :: r) = (o.under n ∧ cg n r)) ∧ (∀ n cs, OB.under n (.box cs) = dD n cs) ∧ (∀ n, OB.under n .dead = True) ∧ (∀ n s v T es, OB.under n (.arr s v T es) = True) ∧
     (∀ n, dD n [] = True) ∧ (∀ n c r, dD n (c :: r) = (c.under n ∧ dD n r)) ∧ (∀ n y, PV.under n (.c y) = y.under n) ∧ (∀ n ys, PV.under n (.a ys) = dD n ys) ∧ (∀ n, PV.under n .x = True)) ∧
    ((∀ n b, CV.under n (.bool b) = True) ∧ (∀ n k m, CV.under n (.int k m) = True) ∧ (∀ n s, CV.under n (.str s) = True) ∧ (∀ n s es, CV.under n (.tree s es) = True) ∧ (∀ n s es i j, CV.under n (.tptr s es i j) = True) ∧
     (∀ n, CV.under n .nilp = True) ∧ (∀ n, CV.under n .nils = True) ∧ (∀ n, CV.under n .nilf = True) ∧ (∀ n, CV.under n .nili = True) ∧ (∀ n, CV.under n .emp = True) ∧ (∀ n, CV.under n .emn = True) ∧ (∀ n, CV.under n .junk = True) ∧
     (∀ n b off, CV.under n (.optr b off) = (b < n)) ∧ (∀ n b v l k, CV.under n (.osl b v l k) = (b < n)) ∧ (∀ n b v i j, CV.under n (.oel b v i j) = (b < n)) ∧ (∀ n f, CV.under n (.fn f []) = True) ∧ (∀ n t g cs, CV.under n (.ifc t g cs) = True)) := by
  refine ⟨⟨?_, ?_, ?_, ?_, ?_, ?_, ?_, ?_, ?_⟩, ⟨?_, ?_, ?_, ?_⟩, ⟨?_, ?_, ?_⟩, ⟨?_, ?_, ?_, ?_, ?_, ?_, ?_, ?_, ?_, ?_⟩, ?_, ?_, ?_, ?_, ?_, ?_, ?_, ?_, ?_, ?_, ?_, ?_, ?_, ?_, ?_, ?_, ?_⟩
  all_goals first
    | (intros; rfl)
    | (intro E σ E' τ; unfold lO; exact propext ⟨fun ⟨h1, h2, ⟨ρ, h3⟩, h4⟩ => ⟨h1, h2, by rw [h3]; exact uQ τ ρ, h4⟩, fun ⟨h1, h2, h3, h4⟩ => ⟨h1, h2, pB h3, h4⟩⟩)
    | (intro t; cases t <;> rfl)
    | (intro e t; cases t <;> simp [Tr.le]; done)
    | (intros; simp [Tr.le]; done)
    | (intros; simp [Tr.under]; done)
    | (intros; simp [CV.under]; done)
theorem mZ {P : Program} {c : Code} {K : Kt} {E E' : Env} {σ σ' : List OB} (hE : E = E') (hσ : σ = σ') (h : W P c K E' σ') : W P c K E σ := by subst hE hσ; exact h
theorem xB :
    ((∀ x y, (PV.c x = PV.c y) = (x = y)) ∧ (∀ x y, (PV.a x = PV.a y) = (x = y)) ∧ (∀ x y, (PV.t x = PV.t y) = (x = y)) ∧ (∀ k n k' n', (CV.int k n = CV.int k' n') = (k = k' ∧ n = n')) ∧ (∀ b b', (CV.bool b = CV.bool b') = (b = b')) ∧ (∀ b b', (CV.str b = CV.str b') = (b = b'))) ∧
    ((∀ s es s' es', (CV.tree s es = CV.tree s' es') = (s = s' ∧ es = es')) ∧ (∀ s es i j s' es' i' j', (CV.tptr s es i j = CV.tptr s' es' i' j') = (s = s' ∧ es = es' ∧ i = i' ∧ j = j')) ∧
     (∀ b o b' o', (CV.optr b o = CV.optr b' o') = (b = b' ∧ o = o')) ∧ (∀ b v l n b' v' l' n', (CV.osl b v l n = CV.osl b' v' l' n') = (b = b' ∧ v = v' ∧ l = l' ∧ n = n')) ∧ (∀ b v l n b' v' l' n', (CV.oel b v l n = CV.oel b' v' l' n') = (b = b' ∧ v = v' ∧ l = l' ∧ n = n'))) ∧
    ((∀ cs cs', (OB.box cs = OB.box cs') = (cs = cs')) ∧ (∀ s v T es s' v' T' es', (OB.arr s v T es = OB.arr s' v' T' es') = (s = s' ∧ v = v' ∧ T = T' ∧ es = es')) ∧
     (∀ {α : Type} (a : α) az b bs, (a :: az = b :: bs) = (a = b ∧ az = bs)) ∧ (∀ {α β : Type} (a : α) (b : β) a' b', ((a, b) = (a', b')) = (a = a' ∧ b = b'))) := by
  refine ⟨⟨?_, ?_, ?_, ?_, ?_, ?_⟩, ⟨?_, ?_, ?_, ?_, ?_⟩, ?_, ?_, ?_, ?_⟩ <;> (intros; simp)
theorem zb :
    ((∀ P rs post pp E σ, ma P rs post pp .ret E σ = (match gV P E σ rs with | some (C, ps) => C ∧ ps.all PV.isV = true ∧ post (gQ ps) σ | none => False)) ∧
     (∀ P rs post pp E σ, ma P rs post pp .normal E σ = (match gV P E σ rs with | some (C, ps) => C ∧ ps.all PV.isV = true ∧ post (gQ ps) σ | none => False)) ∧
     (∀ P rs post pp p E σ, ma P rs post pp (.panic p) E σ = pp p σ)) ∧
    ((∀ P E σ, gV P E σ [] = some (True, [])) ∧ (∀ P E σ r rs, gV P E σ (r :: rs) = (match uL P E σ r, gV P E σ rs with | some (C, p), some (C', ps) => some (C ∧ C', p :: ps) | _, _ => none)) ∧
     (∀ P E σ t, uL P E σ (.tmp t) = some ((E.get t).cond = true, (E.get t).v)) ∧ (∀ P E σ t T, uL P E σ (.cell t T) = (match jS P true σ T (E.get t) with | .ok C v => some (C, v) | _ => none))) ∧
    ((∀ p, gQ [p] = p) ∧ (gQ [] = .t []) ∧ (∀ p q r, gQ (p :: q :: r) = .t (p :: q :: r)) ∧ (∀ y, PV.isV (.c y) = true) ∧ (∀ y, PV.isV (.a y) = true) ∧ (PV.isV .x = true)) := by
  refine ⟨⟨?_, ?_, ?_⟩, ⟨?_, ?_, ?_, ?_⟩, ?_, ?_, ?_, ?_, ?_, ?_⟩ <;> (intros; rfl)
theorem zc : (∀ E, Env.forget E [] = E) ∧ (∀ E i r, Env.forget E (i :: r) = Env.forget (E.erase i) r) ∧ (∀ n na t i, Env.erase ⟨n, na, t⟩ i = ⟨n, na, t.put (i / 64) ((t.get (i / 64)).put (i / 8 % 8) (((t.get (i / 64)).get (i / 8 % 8)).put (i % 8) .nil))⟩) :=
  ⟨fun _ => rfl, fun _ _ _ => rfl, fun _ _ _ _ => rfl⟩
end Pam
namespace Pam
open Go
def jX (n : Nat) : List PV → Prop
 | [] => True
 | p :: r => p.under n ∧ jX n r
def PV.underP (n : Nat) : PV → Prop
 | .t ps => jX n ps
 | p => p.under n
theorem lS.drop {G G' : Gh} {n : Nat} (hH : G'.H = G.H) (ho : G'.own = G.own.take n) {p : PV} {v : Value} (hb : p.under n) (h : lS G p v) : lS G' p v := by
 cases p with
 | x => trivial
 | c y => exact Rep.drop hH ho hb h
 | a ys => obtain ⟨vs, rfl, h2⟩ := h; exact ⟨vs, rfl, aL.under hH ho hb h2⟩
 | t ps => exact hb.elim
theorem aR.dropP {G G' : Gh} {n : Nat} (hH : G'.H = G.H) (ho : G'.own = G.own.take n) {p : PV} {v : Value} (hb : p.underP n) (h : aR G p v) : aR G' p v := by
 cases p with
 | x => trivial
 | c y => exact aR.drop (p := .c y) hH ho hb h
 | a ys => exact aR.drop (p := .a ys) hH ho hb h
 | t ps =>
  obtain ⟨vs, rfl, h2⟩ := h
  refine ⟨vs, rfl, ?_⟩
  have hb' : jX n ps := hb
  clear hb
  induction ps generalizing vs with
  | nil => cases vs <;> simp_all [aL]
  | cons p ps ih =>
   cases vs with
   | nil => simp [aL] at h2
   | cons v vs => exact ⟨lS.drop hH ho hb'.1 h2.1, ih vs h2.2 hb'.2⟩
def uR (n : Nat) (post : PV → List OB → Prop) (p : PV) (σ : List OB) : Prop :=
 ∃ τ, kN τ σ ∧ n ≤ τ.length ∧ cg τ.length τ ∧ p.underP τ.length ∧ post p τ
theorem eZ.drop {P : Program} {f : FuncId} {args : List PV} {σ : List OB} {post pp : PV → List OB → Prop} (h : eZ P f args σ (uR σ.length post) pp) : eZ P f args σ post pp := by
 refine ⟨h.1, fun G w vs hna hi ha => (h.2 G w vs hna hi ha).mono fun e w' hr => ?_⟩
 obtain ⟨G', σ', p, v, h1, h2, h3, h4⟩ := hr
 rcases h4 with ⟨rfl, τ, k1, k2, k3, k4, k5⟩ | h4
 ·obtain ⟨ρ, rfl⟩ := pB k1
  refine ⟨{ G' with own := G'.own.take τ.length }, τ, p, v, ⟨⟨h1.le.H, h1.le.F, h1.le.w0, h1.le.na⟩, ?_⟩, h2.drop k3, aR.dropP (G := G') (G' := { G' with own := G'.own.take τ.length }) rfl rfl k4 h3, .inl ⟨rfl, k5⟩⟩
  intro b oo hb hoo
  obtain ⟨oo', q1, q2⟩ := h1.own b oo hb hoo
  refine ⟨oo', ?_, q2⟩
  simp only
  rw [List.getElem?_take_of_lt (by omega)]; exact q1
 ·exact ⟨G', σ', p, v, h1, h2, h3, .inr h4⟩
theorem aK {P : Program} {σ : List OB} {f : FuncId} {fn : Func} {c : Code} {args : List PV} {post pp : PV → List OB → Prop} (n : Nat) (rs : List ResultVar) (hf : P.funcs[f]? = some fn) (hb : fn.body = some c) (hn : fn.ntmps = n) (hr : fn.results.toList = rs)
  (hname : (fn.name == "runtime.NumGoroutine") = false) (hlen : args.length ≤ n)
  (h : W P c (ma P rs (uR σ.length post) pp) (Env.ofList n σ.length (iX 0 args)) σ) : eZ P f args σ post pp :=
 eZ.drop (wK n rs hf hb hn hr hname hlen h)
theorem wS : ((∀ n ps, PV.underP n (.t ps) = jX n ps) ∧ (∀ n y, PV.underP n (.c y) = y.under n) ∧ (∀ n ys, PV.underP n (.a ys) = dD n ys) ∧ (∀ n, PV.underP n .x = True)) ∧
  ((∀ n, jX n [] = True) ∧ (∀ n p r, jX n (p :: r) = (p.under n ∧ jX n r))) := by
 refine ⟨⟨?_, ?_, ?_, ?_⟩, ?_, ?_⟩ <;> (intros; rfl)
theorem qL {P : Program} {rs : List ResultVar} {n : Nat} {post pp : PV → List OB → Prop} {E : Env} {σ : List OB} (τ : List OB)
  (h : match gV P E σ rs with | some (C, ps) => C ∧ ps.all PV.isV = true ∧ (kN τ σ ∧ n ≤ τ.length ∧ cg τ.length τ ∧ (gQ ps).underP τ.length ∧ post (gQ ps) τ) | none => False) : ma P rs (uR n post) pp .ret E σ := by
 simp only [ma]
 split at h
 ·rename_i C ps e
  rw [e]
  exact ⟨h.1, h.2.1, τ, h.2.2⟩
 ·exact h.elim
theorem uS {P : Program} {rs : List ResultVar} {n : Nat} {post pp : PV → List OB → Prop} {E : Env} {σ : List OB} (τ : List OB)
  (h : match gV P E σ rs with | some (C, ps) => C ∧ ps.all PV.isV = true ∧ (kN τ σ ∧ n ≤ τ.length ∧ cg τ.length τ ∧ (gQ ps).underP τ.length ∧ post (gQ ps) τ) | none => False) : ma P rs (uR n post) pp .normal E σ := by
 simp only [ma]
 split at h
 ·rename_i C ps e
  rw [e]
  exact ⟨h.1, h.2.1, τ, h.2.2⟩
 ·exact h.elim
end Pam
namespace Pam
open Go
def fT (E : Env) (σ : List OB) (E' : Env) (σ' : List OB) : Prop :=
  ∀ (G : Gh) (a : Act) (w : World), Sim G E σ a w → ∃ G', Gle G G' ∧ Sim G' E' σ' a w
theorem fO {P : Program} {c : Code} {K : Kt} {E E' : Env} {σ σ' : List OB} (hg : fT E σ E' σ') (h : W P c K E' σ') : W P c K E σ := fun G a w hs => by
  obtain ⟨G', h1, h2⟩ := hg G a w hs
  exact Code.wp_mono (fun _ _ _ hq => dL.back h1 hq) (h G' a w h2)
theorem iY {P : Program} {ops : Array Oper} {γ : Bool} {C : Prop} {f : FuncId} {args : List PV} {o : Oper} {r : List Oper} {E E' : Env} {σ σ' : List OB} {k : Env → List OB → Prop} {kp : PV → Env → List OB → Prop}
    (hg : fT E σ E' σ') (h : dA P ops (o :: r) E' σ' k kp) : ku P ops γ C f args o r E σ k kp := by
  intro _ _ G a w hs
  obtain ⟨G', h1, h2⟩ := hg G a w hs
  exact cS (fun _ _ _ hq => dL.back h1 hq) _ _ _ (ig _ _ _ _ _ h G' a w h2)
def CV.frO (b ver s : Nat) (es : List (List CV)) : CV → CV
  | .osl b' v lo len => if b' = b then (if v = ver ∧ lo + len ≤ es.length then .tree s ((es.drop lo).take len) else .junk) else .osl b' v lo len
  | .oel b' v i j => if b' = b then .junk else .oel b' v i j
  | .optr b' off => if b' = b then .junk else .optr b' off
  | .fn f caps => .fn f caps
  | .junk => .junk
  | .bool x => .bool x
  | .int k n => .int k n
  | .str x => .str x
  | .nilp => .nilp
  | .nils => .nils
  | .nilf => .nilf
  | .nili => .nili
  | .emp => .emp
  | .emn => .emn
  | .tree s' es' => .tree s' es'
  | .tptr s' es' i j => .tptr s' es' i j
  | .ifc T g cs => .ifc T g cs
def CV.fr (b ver s : Nat) (es : List (List CV)) : CV → CV
  | .fn f caps => .fn f (caps.map (CV.frO b ver s es))
  | c => c.frO b ver s es
def PV.fr (b ver s : Nat) (es : List (List CV)) : PV → PV
  | .x => .x
  | .c y => .c (y.fr b ver s es)
  | .a ys => .a (ys.map (CV.fr b ver s es))
  | .t _ => .x
def OB.fr (b ver s : Nat) (es : List (List CV)) : OB → OB
  | .box cs => .box (cs.map (CV.fr b ver s es))
  | .arr s' v T e => .arr s' v T e
  | .dead => .dead
def Tr.fr (b ver s : Nat) (es : List (List CV)) : Tr → Tr
  | .nil => .nil
  | .leaf e => .leaf ⟨e.cond && (match e.v with | .t _ => false | _ => true), e.v.fr b ver s es⟩
  | .node a0 a1 a2 a3 a4 a5 a6 a7 => .node (a0.fr b ver s es) (a1.fr b ver s es) (a2.fr b ver s es) (a3.fr b ver s es) (a4.fr b ver s es) (a5.fr b ver s es) (a6.fr b ver s es) (a7.fr b ver s es)
def Env.fr (b ver s : Nat) (es : List (List CV)) (E : Env) : Env := ⟨E.n, E.na, E.t.fr b ver s es⟩
theorem Tr.fr_get (b ver s : Nat) (es : List (List CV)) (t : Tr) (j : Nat) : (t.fr b ver s es).get j = (t.get j).fr b ver s es := by
  rcases Nat.lt_or_ge j 8 with hj | hj
  · have hj' : j = 0 ∨ j = 1 ∨ j = 2 ∨ j = 3 ∨ j = 4 ∨ j = 5 ∨ j = 6 ∨ j = 7 := by omega
    cases t <;> rcases hj' with rfl | rfl | rfl | rfl | rfl | rfl | rfl | rfl <;> rfl
  · rw [Tr.get_big _ _ hj, Tr.get_big _ _ hj]; rfl
theorem Tr.fr_ent (b ver s : Nat) (es : List (List CV)) (t : Tr) : (t.fr b ver s es).ent = ⟨t.ent.cond && (match t.ent.v with | .t _ => false | _ => true), t.ent.v.fr b ver s es⟩ := by
  cases t <;> rfl
def frG (G : Gh) (w : World) (b : Nat) (o : OG) : Gh :=
  { G with H := fun x => if o.has = true ∧ x = o.blk then w.heap[x]? else G.H x, own := G.own.set b none }
section
variable {G : Gh} {σ : List OB} {w : World} {b s ver : Nat} {T : TypeId} {es : List (List CV)} {o : OG}
theorem ue (hi : Inv G σ w) (ho : G.own[b]? = some (some o)) : ∀ x y, G.H x = some y → (frG G w b o).H x = some y := by
  intro x y h
  simp only [frG]
  split
  · rename_i hc
    have := (hi.sep b o ho hc.1).1
    rw [hc.2] at h; rw [this] at h; cases h
  · exact h
theorem uf (ho : G.own[b]? = some (some o)) : bl G.own (G.own.set b none) := by
  intro x oo h
  by_cases e : x = b
  · subst e
    have hlt : x < G.own.length := (List.getElem?_eq_some_iff.1 h).1
    exact ⟨none, by simp [hlt], fun o' ho' => by cases ho'⟩
  · exact ⟨oo, by rw [List.getElem?_set_ne (Ne.symm e)]; exact h, fun o' ho' => ⟨o', ho', .inl rfl⟩⟩
theorem gW (hi : Inv G σ w) (hσ : σ[b]? = some (.arr s ver T es)) (ho : G.own[b]? = some (some o)) {c : CV} {v : Value} (h : cH G c v) : cH (frG G w b o) (c.frO b ver s es) v := by
  have h1 : v.oneCell' = true := cH.one h
  have hm : ∀ {c}, cH G c v → cH (frG G w b o) c v := fun h => cH.mono (ue hi ho) (uf ho) h
  have junk : cH (frG G w b o) .junk v := .junk v h1
  cases c <;> simp only [CV.frO] <;> try exact hm h
  case optr b' off =>
    split
    · exact junk
    · exact hm h
  case oel b' v' i j =>
    split
    · exact junk
    · exact hm h
  case osl b' v' lo len =>
    split
    · rename_i e
      subst e
      split
      · rename_i hc
        obtain ⟨rfl, hle⟩ := hc
        obtain ⟨_, oo, k1, k2⟩ := h
        rw [ho] at k1
        simp only [sJ] at k1
        obtain ⟨o', g1, g2, g3, g4, g5, g6, g7, g8, g9⟩ := hi.own b' _ hσ
        rw [ho] at g1
        simp only [sJ] at g1
        subst g1
        obtain ⟨q1, q2⟩ := k2 o k1.symm
        obtain ⟨q3, a, rfl, q4⟩ := q2 g2.symm
        have hlen : ((es.drop lo).take len).length = len := by simp; omega
        show be _ _ _
        rcases Nat.eq_zero_or_pos len with e0 | e0
        · subst e0
          simp only [List.take_zero]
          exact .tree0 s a _ (fun h => by
            cases hh : o.has with
            | true => obtain ⟨a', e, _⟩ := q4 hh; rw [h] at e; cases e
            | false => have := g8 hh; omega)
        · have hh : o.has = true := by
            cases hh : o.has with
            | true => rfl
            | false => have := g8 hh; omega
          obtain ⟨a', rfl, q5⟩ := q4 hh
          have := q5 (by omega)
          subst this
          obtain ⟨c, fz, r1, r2, r3, r4⟩ := g9 hh
          have hget : ∀ (i : Nat) (e : List CV), ((es.drop lo).take len)[i]? = some e → es[lo + i]? = some e := by
            intro i e h
            rw [List.getElem?_take] at h
            split at h
            · rwa [List.getElem?_drop] at h
            · cases h
          have hr := be.tree (H := (frG G w b' o).H) s ((es.drop lo).take len) o.blk (lo * o.sz) (o.cap - lo) c T fz (fun i j => (c[lo * o.sz + i * s + j]?).getD undef) (by simp [frG, hh, r1]) (by omega)
            (fun i e h => g7 e (List.mem_of_getElem? (hget i e h)))
            (fun i j e x h1 h2 => by
              obtain ⟨v, r5, _⟩ := r4 (lo + i) j e x (hget i e h1) h2
              have : lo * o.sz + i * s + j = (lo + i) * s + j := by rw [g3, Nat.add_mul]
              rw [this, r5]; rfl)
            (fun i j e x h1 h2 => by
              obtain ⟨v, r5, r6⟩ := r4 (lo + i) j e x (hget i e h1) h2
              have : lo * o.sz + i * s + j = (lo + i) * s + j := by rw [g3, Nat.add_mul]
              rw [this, r5]
              exact be.mono (ue hi ho) r6)
          rw [hlen] at hr
          exact hr
      · exact junk
    · exact hm h
theorem xC (hi : Inv G σ w) (hσ : σ[b]? = some (.arr s ver T es)) (ho : G.own[b]? = some (some o)) {c : CV} {v : Value} (h : Rep G c v) : Rep (frG G w b o) (c.fr b ver s es) v := by
  cases c
  case fn f caps =>
    obtain ⟨vs, rfl, h2⟩ := h
    refine ⟨vs, rfl, ?_⟩
    induction caps generalizing vs with
    | nil => cases vs <;> simp_all [aL]
    | cons c cs ih =>
      cases vs with
      | nil => simp [aL] at h2
      | cons v vs => exact ⟨gW hi hσ ho h2.1, ih vs h2.2⟩
  all_goals first
    | exact gW hi hσ ho (c := .junk) h
    | exact gW hi hσ ho (c := .bool _) h
    | exact gW hi hσ ho (c := .int _ _) h
    | exact gW hi hσ ho (c := .str _) h
    | exact gW hi hσ ho (c := .nilp) h
    | exact gW hi hσ ho (c := .nils) h
    | exact gW hi hσ ho (c := .nilf) h
    | exact gW hi hσ ho (c := .nili) h
    | exact gW hi hσ ho (c := .emp) h
    | exact gW hi hσ ho (c := .emn) h
    | exact gW hi hσ ho (c := .tree _ _) h
    | exact gW hi hσ ho (c := .tptr _ _ _ _) h
    | exact gW hi hσ ho (c := .ifc _ _ _) h
    | skip
  case optr b' off =>
    have := gW hi hσ ho (c := .optr b' off) h
    simp only [CV.fr]
    by_cases e : b' = b <;> simp only [CV.frO, e, if_true, if_false] at this ⊢ <;> exact this
  case osl b' v' lo len =>
    have := gW hi hσ ho (c := .osl b' v' lo len) h
    simp only [CV.fr]
    by_cases e : b' = b
    · by_cases e2 : v' = ver ∧ lo + len ≤ es.length <;> simp only [CV.frO, e, e2, if_true, if_false] at this ⊢ <;> exact this
    · simp only [CV.frO, e, if_false] at this ⊢; exact this
  case oel b' v' i j =>
    have := gW hi hσ ho (c := .oel b' v' i j) h
    simp only [CV.fr]
    by_cases e : b' = b <;> simp only [CV.frO, e, if_true, if_false] at this ⊢ <;> exact this
theorem vG (hi : Inv G σ w) (hσ : σ[b]? = some (.arr s ver T es)) (ho : G.own[b]? = some (some o)) : ∀ {cs : List CV} {vs : List Value}, aL (Rep G) cs vs → aL (Rep (frG G w b o)) (cs.map (CV.fr b ver s es)) vs
  | [], [], _ => trivial
  | _ :: _, _ :: _, h => ⟨xC hi hσ ho h.1, vG hi hσ ho h.2⟩
theorem zd (hi : Inv G σ w) (hσ : σ[b]? = some (.arr s ver T es)) (ho : G.own[b]? = some (some o)) : Inv (frG G w b o) ((σ.set b .dead).map (OB.fr b ver s es)) w := by
  have hH := ue (b := b) hi ho
  have hblt : b < G.own.length := (List.getElem?_eq_some_iff.1 ho).1
  have hne : ∀ (x : Nat) (o' : OG), (G.own.set b none)[x]? = some (some o') → x ≠ b ∧ G.own[x]? = some (some o') := by
    intro x o' h
    by_cases e : x = b
    · subst e; simp [hblt] at h
    · rw [List.getElem?_set_ne (Ne.symm e)] at h; exact ⟨e, h⟩
  refine ⟨?_, hi.hF, ?_, by simp [frG, hi.len], ?_, fun x x' o1 o2 h1 h2 => hi.inj x x' o1 o2 (hne _ _ h1).2 (hne _ _ h2).2, ?_, hi.os, hi.tape, hi.output, hi.grow⟩
  · intro x y h
    simp only [frG] at h
    split at h
    · exact h
    · exact hi.hH x y h
  · intro x y h
    simp only [frG]
    split
    · rename_i hc
      have := (hi.sep b o ho hc.1).2
      have h : G.F x = some y := h
      rw [hc.2] at h; rw [this] at h; cases h
    · exact hi.HF x y h
  · intro x ob h
    rw [List.getElem?_map, Option.map_eq_some_iff] at h
    obtain ⟨ob', h1, rfl⟩ := h
    by_cases e : x = b
    · subst e
      have hlt : x < σ.length := (List.getElem?_eq_some_iff.1 hσ).1
      simp only [List.getElem?_set_self hlt, sJ] at h1
      subst h1
      simp [OB.fr, iF, frG, hblt]
    · rw [List.getElem?_set_ne (Ne.symm e)] at h1
      have hx : (frG G w b o).own[x]? = G.own[x]? := by simp only [frG]; exact List.getElem?_set_ne (Ne.symm e)
      have hok := hi.own x ob' h1
      cases ob' with
      | dead => simpa [OB.fr, iF, hx] using hok
      | box cs =>
        obtain ⟨o', c, T', g1, g2, g3, g4, g5⟩ := hok
        exact ⟨o', c, T', hx.trans g1, g2, g3, g4, vG hi hσ ho g5⟩
      | arr s' v' T' e' =>
        obtain ⟨o', g1, g2, g3, g4, g5, g6, g7, g8, g9⟩ := hok
        refine ⟨o', hx.trans g1, g2, g3, g4, g5, g6, g7, g8, fun hh => ?_⟩
        obtain ⟨c, fz, r1, r2, r3, r4⟩ := g9 hh
        exact ⟨c, fz, r1, r2, r3, fun i j e y p1 p2 => by obtain ⟨v, p3, p4⟩ := r4 i j e y p1 p2; exact ⟨v, p3, be.mono hH p4⟩⟩
  · intro x o' h hh
    obtain ⟨e, h'⟩ := hne _ _ h
    obtain ⟨s1, s2⟩ := hi.sep x o' h' hh
    refine ⟨?_, s2⟩
    simp only [frG]
    split
    · rename_i hc
      exact (e (hi.inj x b o' o h' ho hh hc.1 hc.2)).elim
    · exact s1
end
theorem eA {E : Env} {σ : List OB} (b : Nat) {s ver : Nat} {T : TypeId} {es : List (List CV)} (hσ : σ[b]? = some (.arr s ver T es)) : fT E σ (E.fr b ver s es) ((σ.set b .dead).map (OB.fr b ver s es)) := by
  intro G a w hs
  have hi := hs.inv
  obtain ⟨o, ho, _⟩ := hi.own b _ hσ
  refine ⟨frG G w b o, .mk' ⟨ue hi ho, rfl, rfl, rfl⟩ (uf ho), zd hi hσ ho, hs.defers, hs.size, hs.na, fun i hc => ?_⟩
  have hget : (E.fr b ver s es).get i = ⟨(E.get i).cond && (match (E.get i).v with | .t _ => false | _ => true), (E.get i).v.fr b ver s es⟩ := by
    unfold Env.get Env.fr
    simp only
    rw [Tr.fr_get, Tr.fr_get, Tr.fr_get, Tr.fr_ent]
  rw [hget] at hc ⊢
  simp only [Bool.and_eq_true] at hc
  have hr := hs.slot i hc.1
  cases hv : (E.get i).v with
  | x => trivial
  | c y => rw [hv] at hr; exact xC hi hσ ho hr
  | a ys => rw [hv] at hr; obtain ⟨vs, e, h2⟩ := hr; exact ⟨vs, e, vG hi hσ ho h2⟩
  | t ps => rw [hv] at hc; simp at hc
theorem zB :
    ((∀ b v s es n na t, Env.fr b v s es ⟨n, na, t⟩ = ⟨n, na, t.fr b v s es⟩) ∧ (∀ b v s es, Tr.fr b v s es .nil = .nil) ∧ (∀ b v s es c y, Tr.fr b v s es (.leaf ⟨c, .c y⟩) = .leaf ⟨c, .c (y.fr b v s es)⟩) ∧ (∀ b v s es c ys, Tr.fr b v s es (.leaf ⟨c, .a ys⟩) = .leaf ⟨c, .a (ys.map (CV.fr b v s es))⟩) ∧
     (∀ b v s es c ps, Tr.fr b v s es (.leaf ⟨c, .t ps⟩) = .leaf ⟨false, .x⟩) ∧ (∀ b v s es c, Tr.fr b v s es (.leaf ⟨c, .x⟩) = .leaf ⟨c, .x⟩) ∧
     (∀ b v s es a0 a1 a2 a3 a4 a5 a6 a7, Tr.fr b v s es (.node a0 a1 a2 a3 a4 a5 a6 a7) = .node (a0.fr b v s es) (a1.fr b v s es) (a2.fr b v s es) (a3.fr b v s es) (a4.fr b v s es) (a5.fr b v s es) (a6.fr b v s es) (a7.fr b v s es))) ∧
    ((∀ b v s es, OB.fr b v s es .dead = .dead) ∧ (∀ b v s es cs, OB.fr b v s es (.box cs) = .box (cs.map (CV.fr b v s es))) ∧ (∀ b v s es s' v' T e, OB.fr b v s es (.arr s' v' T e) = .arr s' v' T e)) ∧
    ((∀ b v s es x, CV.fr b v s es (.bool x) = .bool x) ∧ (∀ b v s es k n, CV.fr b v s es (.int k n) = .int k n) ∧ (∀ b v s es x, CV.fr b v s es (.str x) = .str x) ∧ (∀ b v s es, CV.fr b v s es .nilp = .nilp) ∧ (∀ b v s es, CV.fr b v s es .nils = .nils) ∧
     (∀ b v s es, CV.fr b v s es .nilf = .nilf) ∧ (∀ b v s es, CV.fr b v s es .nili = .nili) ∧ (∀ b v s es, CV.fr b v s es .emp = .emp) ∧ (∀ b v s es, CV.fr b v s es .emn = .emn) ∧ (∀ b v s es, CV.fr b v s es .junk = .junk) ∧ (∀ b v s es s' e', CV.fr b v s es (.tree s' e') = .tree s' e') ∧
     (∀ b v s es s' e' i j, CV.fr b v s es (.tptr s' e' i j) = .tptr s' e' i j) ∧ (∀ b v s es T g cs, CV.fr b v s es (.ifc T g cs) = .ifc T g cs)) ∧
    ((∀ b v s es b' v' lo len, CV.fr b v s es (.osl b' v' lo len) = if b' = b then (if v' = v ∧ lo + len ≤ es.length then .tree s ((es.drop lo).take len) else .junk) else .osl b' v' lo len) ∧
     (∀ b v s es b' v' i j, CV.fr b v s es (.oel b' v' i j) = if b' = b then .junk else .oel b' v' i j) ∧ (∀ b v s es b' off, CV.fr b v s es (.optr b' off) = if b' = b then .junk else .optr b' off) ∧
     (∀ b v s es f caps, CV.fr b v s es (.fn f caps) = .fn f (caps.map (CV.frO b v s es)))) := by
  refine ⟨⟨?_, ?_, ?_, ?_, ?_, ?_, ?_⟩, ⟨?_, ?_, ?_⟩, ⟨?_, ?_, ?_, ?_, ?_, ?_, ?_, ?_, ?_, ?_, ?_, ?_, ?_⟩, ?_, ?_, ?_, ?_⟩
  all_goals intros
  all_goals first | rfl | (simp [Tr.fr, PV.fr]; done)
theorem sc : (∀ n f, CV.under n (.fn f []) = True) ∧ (∀ n f b off r, CV.under n (.fn f (.optr b off :: r)) = (b < n ∧ CV.under n (.fn f r))) ∧ (∀ n f b v lo k r, CV.under n (.fn f (.osl b v lo k :: r)) = (b < n ∧ CV.under n (.fn f r))) ∧
    (∀ n f k i r, CV.under n (.fn f (.int k i :: r)) = CV.under n (.fn f r)) ∧ (∀ n f k i r, CV.under n (.fn f (.tree k i :: r)) = CV.under n (.fn f r)) ∧ (∀ n f s r, CV.under n (.fn f (.str s :: r)) = CV.under n (.fn f r)) ∧ (∀ n f s r, CV.under n (.fn f (.bool s :: r)) = CV.under n (.fn f r)) := by
  refine ⟨?_, ?_, ?_, ?_, ?_, ?_, ?_⟩ <;> intros <;> simp [CV.under]
theorem jY {E : Env} {d : Nat} (h : Nat.ble (d + 1) E.n = true) : cy E (some d) := Nat.le_of_ble_eq_true h
def PV.ren1 (r : Nat → Nat) : PV → PV
  | .c y => .c (y.ren r)
  | .a ys => .a (ys.map (CV.ren r))
  | q => q
theorem ze :
    ((∀ r y, PV.ren r (.c y) = .c (y.ren r)) ∧ (∀ r ys, PV.ren r (.a ys) = .a (ys.map (CV.ren r))) ∧ (∀ r, PV.ren r .x = .x) ∧ (∀ r ps, PV.ren r (.t ps) = .t (ps.map (PV.ren1 r))) ∧ (∀ r y, PV.ren1 r (.c y) = .c (y.ren r)) ∧ (∀ r ys, PV.ren1 r (.a ys) = .a (ys.map (CV.ren r)))) ∧
    ((∀ r cs, OB.ren r (.box cs) = .box (cs.map (CV.ren r))) ∧ (∀ r, OB.ren r .dead = .dead) ∧ (∀ r s v T es, OB.ren r (.arr s v T es) = .arr s v T es)) ∧
    ((∀ r x, CV.ren r (.bool x) = .bool x) ∧ (∀ r k n, CV.ren r (.int k n) = .int k n) ∧ (∀ r x, CV.ren r (.str x) = .str x) ∧ (∀ r, CV.ren r .nilp = .nilp) ∧ (∀ r, CV.ren r .nils = .nils) ∧ (∀ r, CV.ren r .nilf = .nilf) ∧ (∀ r, CV.ren r .nili = .nili) ∧ (∀ r, CV.ren r .emp = .emp) ∧ (∀ r, CV.ren r .emn = .emn) ∧ (∀ r, CV.ren r .junk = .junk) ∧
     (∀ r s es, CV.ren r (.tree s es) = .tree s es) ∧ (∀ r s es i j, CV.ren r (.tptr s es i j) = .tptr s es i j) ∧ (∀ r T g cs, CV.ren r (.ifc T g cs) = .ifc T g cs)) ∧
    ((∀ r b off, CV.ren r (.optr b off) = .optr (r b) off) ∧ (∀ r b v lo n, CV.ren r (.osl b v lo n) = .osl (r b) v lo n) ∧ (∀ r b v i j, CV.ren r (.oel b v i j) = .oel (r b) v i j) ∧ (∀ r f caps, CV.ren r (.fn f caps) = .fn f (caps.map (CV.ren0 r))) ∧
     (∀ r b off, CV.ren0 r (.optr b off) = .optr (r b) off) ∧ (∀ r b v lo n, CV.ren0 r (.osl b v lo n) = .osl (r b) v lo n) ∧ (∀ r k n, CV.ren0 r (.int k n) = .int k n) ∧ (∀ r s es, CV.ren0 r (.tree s es) = .tree s es) ∧ (∀ r x, CV.ren0 r (.str x) = .str x) ∧ (∀ r x, CV.ren0 r (.bool x) = .bool x)) ∧
    ((∀ n ρ k, cT n ρ k = if k < ρ.length then ρ.getD k 0 else n + (k - ρ.length)) ∧ (∀ {α : Type} (σ xs : List α), cB σ [] xs = σ ++ xs) ∧ (∀ {α : Type} (σ xs : List α) b ρ x, cB σ (b :: ρ) (x :: xs) = cB (σ.set b x) ρ xs)) := by
  refine ⟨⟨?_, ?_, ?_, ?_, ?_, ?_⟩, ⟨?_, ?_, ?_⟩, ⟨?_, ?_, ?_, ?_, ?_, ?_, ?_, ?_, ?_, ?_, ?_, ?_, ?_⟩, ⟨?_, ?_, ?_, ?_, ?_, ?_, ?_, ?_, ?_, ?_⟩, ?_, ?_, ?_⟩ <;> intros <;> first | rfl | simp [cB]
end Pam
namespace Pam
open Go
def mQ {S O : Type} (body : S → Option (S ⊕ O)) : Nat → S → Option O
  | 0, _ => none
  | n + 1, s => match body s with
    | none => none
    | some (.inl s') => mQ body n s'
    | some (.inr o) => some o
theorem qM {S O : Type} {body : S → Option (S ⊕ O)} : ∀ {n : Nat} {s : S} {o : O}, mQ body n s = some o → mQ body (n + 1) s = some o
  | 0, _, _, h => by cases h
  | n + 1, s, o, h => by
    unfold mQ at h ⊢
    cases hb : body s with
    | none => rw [hb] at h; cases h
    | some r => cases r with
      | inl s' => rw [hb] at h; exact qM h
      | inr o' => rw [hb] at h; exact h
theorem ug {S O : Type} {body : S → Option (S ⊕ O)} {n m : Nat} {s : S} {o : O} (h : mQ body n s = some o) (hm : n ≤ m) : mQ body m s = some o := by
  induction hm with
  | refl => exact h
  | step _ ih => exact qM ih
open Classical in
noncomputable def aU {S O : Type} (body : S → Option (S ⊕ O)) (s : S) : Option O :=
  if h : ∃ n o, mQ body n s = some o then some (Classical.choose (Classical.choose_spec h)) else none
theorem kO {S O : Type} {body : S → Option (S ⊕ O)} {s : S} {o : O} (h : aU body s = some o) : ∃ n, mQ body n s = some o := by
  unfold aU at h
  split at h
  · rename_i hx
    simp only [sJ] at h
    exact ⟨_, h ▸ Classical.choose_spec (Classical.choose_spec hx)⟩
  · cases h
theorem lz {S O : Type} {body : S → Option (S ⊕ O)} {s : S} {o : O} {n : Nat} (h : mQ body n s = some o) : aU body s = some o := by
  have hx : ∃ n o, mQ body n s = some o := ⟨n, o, h⟩
  cases hl : aU body s with
  | none => unfold aU at hl; rw [dif_pos hx] at hl; cases hl
  | some o' =>
    obtain ⟨m, hm⟩ := kO hl
    have h1 := ug h (Nat.le_max_left n m)
    have h2 := ug hm (Nat.le_max_right n m)
    rw [h1] at h2; exact h2.symm
theorem uh {S O : Type} (body : S → Option (S ⊕ O)) (s : S) : aU body s = match body s with
    | none => none
    | some (.inl s') => aU body s'
    | some (.inr o) => some o := by
  cases hb : body s with
  | none =>
    cases hl : aU body s with
    | none => rfl
    | some o =>
      obtain ⟨n, hn⟩ := kO hl
      cases n with
      | zero => cases hn
      | succ n => simp [mQ, hb] at hn
  | some r =>
    cases r with
    | inr o => exact lz (n := 1) (by simp [mQ, hb])
    | inl s' =>
      show aU body s = aU body s'
      cases hl : aU body s with
      | some o =>
        obtain ⟨n, hn⟩ := kO hl
        cases n with
        | zero => cases hn
        | succ n => exact (lz (n := n) (by simpa [mQ, hb] using hn)).symm
      | none =>
        cases hl' : aU body s' with
        | none => rfl
        | some o =>
          obtain ⟨n, hn⟩ := kO hl'
          have := lz (body := body) (s := s) (n := n + 1) (o := o) (by simpa [mQ, hb] using hn)
          rw [this] at hl; cases hl
theorem gM {S O : Type} {body : S → Option (S ⊕ O)} {s s' : S} (h : body s = some (.inl s')) : aU body s = aU body s' := by rw [uh, h]
theorem dH {S O : Type} {body : S → Option (S ⊕ O)} {s : S} {o : O} (h : body s = some (.inr o)) : aU body s = some o := by rw [uh, h]
theorem gd {α : Type} {p : Prop} [Decidable p] {m : Option α} {r : α} (h : (if p then m else none) = some r) : p ∧ m = some r := by
  split at h
  · exact ⟨by assumption, h⟩
  · cases h
theorem bd {α β : Type} {o : Option α} {f : α → Option β} {r : β} (h : o.bind f = some r) : ∃ y, o = some y ∧ f y = some r := by
  cases o with
  | none => cases h
  | some y => exact ⟨y, rfl, h⟩
def ij (n b : Nat) : Prop := n * b ≤ 140737488355328 ∧ n ≤ maxLen
instance (n b : Nat) : Decidable (ij n b) := inferInstanceAs (Decidable (_ ∧ _))
def eK (k : IntKind) (n : Int) : List CV := [.int k n]
def eB (b : Bool) : List CV := [.bool b]
def eS (s : List UInt8) : List CV := [.str s]
def eL {α : Type} (s : Nat) (f : α → List CV) (l : List α) : List CV := [.tree s (l.map f)]
section
variable {P : Program} {K : Kt} {E E0 : Env} {σ : List OB}
theorem fT.refl (E : Env) (σ : List OB) : fT E σ E σ := fun G _ _ hs => ⟨G, Gle.refl G, hs⟩
theorem fT.trans {E E' E'' : Env} {σ σ' σ'' : List OB} (h : fT E σ E' σ') (h' : fT E' σ' E'' σ'') : fT E σ E'' σ'' := fun G a w hs => by
  obtain ⟨G', g1, hs'⟩ := h G a w hs
  obtain ⟨G'', g2, hs''⟩ := h' G' a w hs'
  exact ⟨G'', g1.trans g2, hs''⟩
def wT {α : Type} (E0 : Env) (ms : List Nat) (slots : α → List (Nat × PV)) (heap : α → List OB) (inv : α → Prop) (μ : α → Nat) (x : α) (K : Kt) : Kt
  | .normal, E, σ => ∃ y E' σ', fT E σ E' σ' ∧ inv y ∧ μ y < μ x ∧ lO E' σ' (E0.over ms (slots y)) (heap y)
  | e, E, σ => K e E σ
theorem wU {α : Type} {c : Code} (ms : List Nat) (slots : α → List (Nat × PV)) (heap : α → List OB) (inv : α → Prop) (μ : α → Nat) (x0 : α) (h0 : inv x0) (hl : lO E σ (E.over ms (slots x0)) (heap x0))
    (round : ∀ x, inv x → W P c (wT E ms slots heap inv μ x K) (E.over ms (slots x)) (heap x)) : W P (.loop c) K E σ := fun G a w hs => by
  obtain ⟨G0, hg0, hs0⟩ := hl.sim hs
  refine Code.wp_mono (fun _ _ _ hq => dL.back hg0 hq) ?_
  intro b k cs
  have key : ∀ (m : Nat) (x : α) (G : Gh) (a : Act) (w : World), μ x = m → inv x → Gle G0 G → Sim G (E.over ms (slots x)) (heap x) a w →
      ∃ e a' w', dL G0 K e a' w' ∧ Arrives P (lone (b.at a (.code c :: .inLoop c :: k)) cs w) b k cs e a' w' := by
    intro m
    induction m using Nat.strongRecOn with
    | _ m ih =>
      intro x G a w hm hinv hG hs
      have hr := round x hinv G a w hs
      obtain ⟨e, a₁, w₁, hq, harr⟩ := hr b (.inLoop c :: k) cs
      obtain ⟨G', E', σ', px, g1, g2, g3, g4⟩ := hq
      cases px with
      | normal =>
        cases g3
        obtain ⟨y, E2, σ2, hgh, hy, hlt, hless⟩ := g4
        obtain ⟨G1, p1, p2⟩ := hgh G' a₁ w₁ g2
        obtain ⟨G'', q1, q2⟩ := hless.sim p2
        obtain ⟨e₂, a₂, w₂, hq₂, harr₂⟩ := ih (μ y) (hm ▸ hlt) y G'' a₁ w₁ rfl hy (hG.trans (g1.trans (p1.trans q1))) q2
        exact ⟨e₂, a₂, w₂, hq₂, .of_steps (Steps.trans harr (.one step_inLoop)) harr₂⟩
      | exit id => exact ⟨e, a₁, w₁, dL.back hG ⟨G', E', σ', .exit id, g1, g2, g3, g4⟩, by cases g3; exact .pass (x := .inLoop c) rfl (fun _ _ => .inl (by simp)) harr⟩
      | ret => exact ⟨e, a₁, w₁, dL.back hG ⟨G', E', σ', .ret, g1, g2, g3, g4⟩, by cases g3; exact .pass (x := .inLoop c) rfl (fun _ _ => .inl (by simp)) harr⟩
      | panic p => exact ⟨e, a₁, w₁, dL.back hG ⟨G', E', σ', .panic p, g1, g2, g3, g4⟩, by obtain ⟨v, rfl, hv⟩ := g3; exact .pass (x := .inLoop c) rfl (fun _ _ => .inl (by simp)) harr⟩
  obtain ⟨e, a', w', hq, harr⟩ := key _ x0 G0 a w rfl h0 (Gle.refl _) hs0
  exact ⟨e, a', w', hq, .of_steps (.one step_loop) harr⟩
def oi {S V O : Type} (E0 : Env) (ms : List Nat) (slots : S → V → List (Nat × PV)) (heap : S → V → List OB) (r : S ⊕ O) (K : Kt) : Kt
  | .normal, E, σ => ∃ s v E' σ', fT E σ E' σ' ∧ r = .inl s ∧ lO E' σ' (E0.over ms (slots s v)) (heap s v)
  | e, E, σ => K e E σ
theorem bg {S V O : Type} {c : Code} (ms : List Nat) (slots : S → V → List (Nat × PV)) (heap : S → V → List OB) (body : S → Option (S ⊕ O)) (s0 : S) (v0 : V) {o : O} (ho : aU body s0 = some o)
    (hl : lO E σ (E.over ms (slots s0 v0)) (heap s0 v0))
    (round : ∀ s v r, body s = some r → (∀ o', r = .inr o' → o' = o) → W P c (oi E ms slots heap r K) (E.over ms (slots s v)) (heap s v)) : W P (.loop c) K E σ := by
  obtain ⟨n, hn⟩ := kO ho
  refine wU (α := S × V × Nat) ms (fun x => slots x.1 x.2.1) (fun x => heap x.1 x.2.1) (fun x => mQ body x.2.2 x.1 = some o) (fun x => x.2.2) (s0, v0, n) hn hl ?_
  rintro ⟨s, v, n⟩ hs
  cases n with
  | zero => cases hs
  | succ n =>
    simp only [mQ] at hs
    cases hb : body s with
    | none => rw [hb] at hs; cases hs
    | some r =>
      rw [hb] at hs
      refine W.mono (fun x E' σ' h => ?_) (round s v r hb ?_)
      · cases x with
        | normal => obtain ⟨s', v', E2, σ2, hgh, e, hl'⟩ := h; subst e; exact ⟨(s', v', n), E2, σ2, hgh, hs, Nat.lt_succ_self _, hl'⟩
        | exit i => exact h
        | ret => exact h
        | panic p => exact h
      · rintro o' rfl; simpa using hs
def pC {S V : Type} (E0 : Env) (ms : List Nat) (slots : S → V → List (Nat × PV)) (heap : S → V → List OB) (J : S → Prop) (K : Kt) : Kt
  | .normal, E, σ => ∃ s v E' σ', fT E σ E' σ' ∧ J s ∧ lO E' σ' (E0.over ms (slots s v)) (heap s v)
  | e, E, σ => K e E σ
theorem aG {S V : Type} {c d : Code} (ms : List Nat) (slots : S → V → List (Nat × PV)) (heap : S → V → List OB) (J : S → Prop)
    (first : W P c (pC E ms slots heap J K) E σ) (rest : ∀ s v, J s → W P d K (E.over ms (slots s v)) (heap s v)) : W P (.seq c d) K E σ :=
  oD (W.mono (fun x E' σ' h => by
    cases x with
    | normal => obtain ⟨s, v, E2, σ2, hg, h1, h2⟩ := h; exact fO hg (wR h2 (rest s v h1))
    | exit id => exact h
    | ret => exact h
    | panic p => exact h) first)
section
variable {S V O : Type} {ms : List Nat} {slots : S → V → List (Nat × PV)} {heap : S → V → List OB} {r : S ⊕ O} {J : S → Prop}
theorem aE (s : S) (v : V) (hr : some (Sum.inl s) = some r) (hl : lO E σ (E0.over ms (slots s v)) (heap s v)) : oi E0 ms slots heap r K .normal E σ := ⟨s, v, E, σ, fT.refl E σ, (sI hr).symm, hl⟩
theorem se {E1 : Env} {σ1 : List OB} (hg : fT E σ E1 σ1) (h : oi E0 ms slots heap r K .normal E1 σ1) : oi E0 ms slots heap r K .normal E σ := by
  obtain ⟨s, v, E2, σ2, g, h1, h2⟩ := h; exact ⟨s, v, E2, σ2, hg.trans g, h1, h2⟩
theorem aT {i : Nat} (h : K (.exit i) E σ) : oi E0 ms slots heap r K (.exit i) E σ := h
theorem aV (h : K .ret E σ) : oi E0 ms slots heap r K .ret E σ := h
theorem ar (s : S) (v : V) (hj : J s) (hl : lO E σ (E0.over ms (slots s v)) (heap s v)) : pC E0 ms slots heap J K .normal E σ := ⟨s, v, E, σ, fT.refl E σ, hj, hl⟩
theorem sf {E1 : Env} {σ1 : List OB} (hg : fT E σ E1 σ1) (h : pC E0 ms slots heap J K .normal E1 σ1) : pC E0 ms slots heap J K .normal E σ := by
  obtain ⟨s, v, E2, σ2, g, h1, h2⟩ := h; exact ⟨s, v, E2, σ2, hg.trans g, h1, h2⟩
theorem aA (h : K .ret E σ) : pC E0 ms slots heap J K .ret E σ := h
theorem aH {o o' : O} (h : some (Sum.inr o') = some r) (hr : ∀ o', r = .inr o' → o' = o) : o' = o := hr _ (sI h).symm
end
theorem Inv.nil {G : Gh} {σ : List OB} {w : World} (hi : Inv G σ w) (s : Nat) (T : TypeId) (hs : 0 < s) :
    Inv { G with own := G.own ++ [some ⟨0, s, 0, 0, false⟩] } (σ ++ [.arr s 0 T []]) w := by
  refine hi.push (.arr s 0 T []) ⟨0, s, 0, 0, false⟩ (Nat.le_refl _) (fun _ _ => rfl) (fun h => by cases h) rfl rfl rfl ?_
  have hlast : (G.own ++ [some (⟨0, s, 0, 0, false⟩ : OG)])[σ.length]? = some (some ⟨0, s, 0, 0, false⟩) := by rw [← hi.len]; simp
  exact ⟨_, hlast, rfl, rfl, hs, Nat.le_refl _, Nat.zero_le _, (fun e he => nomatch he), fun _ => rfl, fun h => absurd h (by simp)⟩
theorem ui {G : Gh} {σ : List OB} {w : World} (hi : Inv G σ w) (s : Nat) {v : Value} (hv : be G.H .nils v) :
    cH { G with own := G.own ++ [some ⟨0, s, 0, 0, false⟩] } (.osl σ.length 0 0 0) v := by
  have hlast : (G.own ++ [some (⟨0, s, 0, 0, false⟩ : OG)])[σ.length]? = some (some ⟨0, s, 0, 0, false⟩) := by rw [← hi.len]; simp
  cases hv
  exact ⟨rfl, _, hlast, fun o e => by
    simp only [sJ] at e; subst e
    exact ⟨Nat.le_refl _, fun _ => ⟨Nat.le_refl _, none, rfl, fun h => by cases h⟩⟩⟩
theorem sg {H : Nat → Option Obj} (s : Nat) {v : Value} (h : be H .nils v) : be H (.tree s []) v := by
  cases h
  exact .tree0 s none 0 (fun _ => rfl)
theorem mH (i s : Nat) (T : TypeId) (hs : 0 < s) (hE : E.get i = ⟨true, .c .nils⟩) (hin : i < E.n) : fT E σ (E.put i ⟨true, .c (.osl σ.length 0 0 0)⟩) (σ ++ [.arr s 0 T []]) := by
  intro G a w hs'
  refine ⟨{ G with own := G.own ++ [some ⟨0, s, 0, 0, false⟩] }, .mk' ⟨fun _ _ h => h, rfl, rfl, rfl⟩ (bl.append _ _), hs'.inv.nil s T hs, hs'.defers, hs'.size, hs'.na, fun j hc => ?_⟩
  have hg := Env.get_put E i j _ hc
  rw [hg] at hc ⊢
  by_cases hj : j = i
  · subst hj
    rw [iP rfl]
    have := hs'.slot j (by rw [hE])
    rw [hE] at this
    exact ui hs'.inv s this
  · rw [iN hj] at hc ⊢
    exact aR.mono (G := G) (G' := { G with own := G.own ++ [some ⟨0, s, 0, 0, false⟩] }) (fun _ _ h => h) (bl.append _ _) (hs'.slot j hc)
theorem tu (i s : Nat) (hE : E.get i = ⟨true, .c .nils⟩) : fT E σ (E.put i ⟨true, .c (.tree s [])⟩) σ := by
  intro G a w hs'
  refine ⟨G, Gle.refl G, hs'.inv, hs'.defers, hs'.size, hs'.na, fun j hc => ?_⟩
  have hg := Env.get_put E i j _ hc
  rw [hg] at hc ⊢
  by_cases hj : j = i
  · subst hj
    rw [iP rfl]
    have := hs'.slot j (by rw [hE])
    rw [hE] at this
    have h' : be G.H .nils (a.tmps.getD j undef) := this
    show be G.H (.tree s []) _
    exact sg s h'
  · rw [iN hj] at hc ⊢
    exact hs'.slot j hc
end
theorem zf : ((true == true) = true ∧ (true == false) = false ∧ (false == true) = false ∧ (false == false) = true) ∧ ((!true) = false ∧ (!false) = true) := by decide
theorem rq :
    ((∀ {α β : Type} (f : α → β) (l : List α) (n : Nat), (l.map f).take n = (l.take n).map f) ∧ (∀ {α β : Type} (f : α → β) (l : List α) (n : Nat), (l.map f).drop n = (l.drop n).map f) ∧
     (∀ {α β : Type} (f : α → β) (l l' : List α), l.map f ++ l'.map f = (l ++ l').map f) ∧ (∀ {α : Type} (l : List α), l.take l.length = l)) := by
  refine ⟨?_, ?_, ?_, ?_⟩ <;> intros <;> simp
theorem xD : (∀ {α : Type} (l : List α) (n : Nat), l.length ≤ n → l.take n = l) ∧ (∀ {α : Type} (l l' : List α), (l ++ l').length = l.length + l'.length) ∧
    (∀ {α : Type} (l : List α) (i : Nat) (x : α), (l.set i x).length = l.length) ∧ (∀ {α : Type} (n : Nat) (x : α), (List.replicate n x).length = n) := by
  refine ⟨fun l n h => List.take_of_length_le h, ?_, ?_, ?_⟩ <;> intros <;> simp
def lit {α : Type} (l : List α) : List α := l
theorem kw {α : Type} (l : List α) : (lit l).length = l.length := rfl
def NT : CV → CV → Prop
  | .nils, .tree _ [] => True
  | .emp, .tree _ [] => True
  | .emn, .tree _ [] => True
  | c, c' => c = c'
def NTs : List CV → List CV → Prop
  | [], [] => True
  | a :: az, b :: bs => NT a b ∧ NTs az bs
  | _, _ => False
theorem NT.rep {G : Gh} {c c' : CV} {v : Value} (h : NT c c') (hr : Rep G c v) : Rep G c' v := by
  unfold NT at h
  split at h
  · exact sg _ (show be G.H .nils v from hr)
  · have h' : be G.H .emp v := hr
    show be G.H (.tree _ []) v
    cases h'
    exact .tree0 _ _ 0 (fun _ => rfl)
  · have h' : be G.H .emn v := hr
    show be G.H (.tree _ []) v
    cases h'
    exact .tree0 _ _ _ (fun h => by cases h)
  · subst h; exact hr
theorem NTs.rep {G : Gh} : ∀ {cs cs' : List CV} {vs : List Value}, NTs cs cs' → aL (Rep G) cs vs → aL (Rep G) cs' vs
  | [], [], _, _, h => h
  | _ :: _, _ :: _, _ :: _, ⟨h1, h2⟩, ⟨k1, k2⟩ => ⟨NT.rep h1 k1, NTs.rep h2 k2⟩
def NTp : PV → PV → Prop
  | .c y, .c y' => NT y y'
  | .a ys, .a ys' => NTs ys ys'
  | _, _ => False
theorem oj {E : Env} {σ : List OB} (i : Nat) {p : PV} (p' : PV) (hE : E.get i = ⟨true, p⟩) (h : NTp p p') : fT E σ (E.put i ⟨true, p'⟩) σ := by
  intro G a w hs'
  refine ⟨G, Gle.refl G, hs'.inv, hs'.defers, hs'.size, hs'.na, fun j hc => ?_⟩
  have hg := Env.get_put E i j _ hc
  rw [hg] at hc ⊢
  by_cases hj : j = i
  · subst hj
    rw [iP rfl]
    have := hs'.slot j (by rw [hE])
    rw [hE] at this
    cases p <;> cases p' <;> try exact h.elim
    · exact NT.rep (G := G) h this
    · obtain ⟨vs, e, h2⟩ := this; exact ⟨vs, e, NTs.rep h h2⟩
  · rw [iN hj] at hc ⊢
    exact hs'.slot j hc
theorem jO {E : Env} {σ : List OB} (b : Nat) {cs : List CV} (cs' : List CV) (hσ : σ[b]? = some (.box cs)) (h : NTs cs cs') : fT E σ E (σ.set b (.box cs')) := by
  intro G a w hs'
  refine ⟨G, Gle.refl G, ?_, hs'.defers, hs'.size, hs'.na, hs'.slot⟩
  have hi := hs'.inv
  have hlt : b < σ.length := (List.getElem?_eq_some_iff.1 hσ).1
  refine ⟨hi.hH, hi.hF, hi.HF, by simpa using hi.len, fun k ob hk => ?_, hi.inj, hi.sep, hi.os, hi.tape, hi.output, hi.grow⟩
  by_cases hkb : k = b
  · subst hkb
    rw [List.getElem?_set_self hlt] at hk
    simp only [sJ] at hk; subst hk
    obtain ⟨o, c, T, h1, h2, h3, h4, h5⟩ := hi.own k _ hσ
    exact ⟨o, c, T, h1, h2, h3, h4, NTs.rep h h5⟩
  · rw [List.getElem?_set_ne (Ne.symm hkb)] at hk
    exact hi.own k ob hk
def okI (k : IntKind) (n : Int) : Prop := k.min ≤ n ∧ n ≤ k.max
def okT {α : Type} (_ : α) : Prop := True
def okL {α : Type} (p : α → Prop) (l : List α) : Prop := ∀ y ∈ l, p y
def szI {α : Type} (_ : α) : Nat := 1
def szL {α : Type} (f : α → Nat) (l : List α) : Nat := (l.map f).sum + 1
def gq (P : Program) (ops : Array Oper) (l : List Oper) (E : Env) (σ : List OB) (k : Env → List OB → Prop) (kp : PV → Env → List OB → Prop) : Prop := WL P ops l E σ (KR k kp)
section
variable {P : Program} {ops : Array Oper} {E E' : Env} {σ σ' : List OB} {k : Env → List OB → Prop} {kp : PV → Env → List OB → Prop} {l : List Oper}
theorem aa (h : dA P ops l E σ k kp) : gq P ops l E σ k kp := ig l E σ k kp h
theorem m0 (hg : fT E σ E' σ') (h : gq P ops l E' σ' k kp) : gq P ops l E σ k kp := fun G a w hs => by
  obtain ⟨G', h1, h2⟩ := hg G a w hs
  exact cS (fun _ _ _ hq => dL.back h1 hq) _ _ _ (h G' a w h2)
theorem nn {Q Q1 : Exit → Act → World → Prop} {l2 : List Oper} (h1 : ∀ a w, Q1 .normal a w → wpList P ops Q l2 a w) (h2 : ∀ e a w, e ≠ .normal → Q1 e a w → Q e a w) :
    ∀ (l : List Oper) (a : Act) (w : World), wpList P ops Q1 l a w → wpList P ops Q (l ++ l2) a w
  | [], a, w, h => h1 a w h
  | o :: r, a, w, h => by
    rw [List.cons_append]
    unfold wpList at h ⊢
    have hl : LetsOut Q1 → LetsOut Q := fun ⟨a, w, h⟩ => ⟨a, w, h2 _ _ _ (by simp) h⟩
    split at h
    · rename_i hw
      rw [iP hw]
      rcases h with h | ⟨h3, h4⟩
      · left
        unfold Oper.wp at h ⊢
        generalize (execOp a.eval o).run P w = res at h
        have ih := fun a w h => nn h1 h2 r a w h
        cases res with
        | ok nx w' =>
          cases nx <;> first
            | exact h.elim
            | exact ih _ _ h
            | (refine Calls.mono h fun e w'' hh => ?_
               cases e with
               | returned v => exact ih _ _ hh
               | panicked ch => exact h2 _ _ _ (by simp) hh
               | outgrown => exact hl hh)
            | exact Rows.mono h fun v w'' hh => ih _ _ hh
        | halt hh w' => cases hh <;> first | exact h.elim | exact h2 _ _ _ (by simp) h
      · exact .inr ⟨h3, hl h4⟩
    · rename_i hw
      rw [iN hw]
      exact nn h1 h2 r _ _ h
theorem ay (n : Nat) (h : dA P ops (l.take n) E σ (fun E' σ' => gq P ops (l.drop n) E' σ' k kp) kp) : gq P ops l E σ k kp := fun G a w hs => by
  have h1 := ig _ _ _ _ _ h G a w hs
  have h2 := nn (Q := dL G (KR k kp)) (l2 := l.drop n) (fun a w hq => ?_) (fun e a w he hq => ?_) _ _ _ h1
  · rwa [List.take_append_drop] at h2
  · obtain ⟨G', E1, σ1, x, q1, q2, q3, q4⟩ := hq
    cases x <;> simp only [yo] at q3
    · exact cS (fun _ _ _ hq => dL.back q1 hq) _ _ _ (q4 G' a w q2)
    · cases q3
    · cases q3
    · obtain ⟨v, hv, _⟩ := q3; cases hv
  · obtain ⟨G', E1, σ1, x, q1, q2, q3, q4⟩ := hq
    cases x
    · exact (he q3).elim
    · exact q4.elim
    · exact q4.elim
    · exact ⟨G', E1, σ1, _, q1, q2, q3, q4⟩
theorem dX {K : Kt} {id : Nat} {y : Code} (ms : List Nat)
    (h : ∀ (k : Env → List OB → Prop) (kp : PV → Env → List OB → Prop), (∀ E σ, W P y K E σ → k E σ) → (∀ p E σ, K (.panic p) E σ → kp p E σ) → gq P l.toArray l E σ (fun E σ => k (E.forget ms) σ) kp) :
    W P (.seq (.region id l.toArray false) y) K E σ := oD fun G a w hs =>
  wp_region_lit (cS (fun _ _ _ hp => dL.mono (fun x E σ hk => by
      cases x with
      | normal => exact kM ms hk
      | exit id => exact hk.elim
      | ret => exact hk.elim
      | panic p => exact hk) hp)
    l a w (h (W P y K) (fun p => K (.panic p)) (fun _ _ h => h) (fun _ _ _ h => h) G a w hs))
theorem uT {K : Kt} {id : Nat} (h : ∀ (k : Env → List OB → Prop) (kp : PV → Env → List OB → Prop), (∀ E σ, K .normal E σ → k E σ) → (∀ p E σ, K (.panic p) E σ → kp p E σ) → gq P l.toArray l E σ k kp) :
    W P (.region id l.toArray false) K E σ := fun G a w hs =>
  wp_region_lit (cS (fun _ _ _ hp => dL.mono (fun x E σ hk => by cases x <;> first | exact hk | exact hk.elim) hp)
    l a w (h (K .normal) (fun p => K (.panic p)) (fun _ _ h => h) (fun _ _ _ h => h) G a w hs))
end
theorem uU {P : Program} {K : Kt} {E : Env} {σ : List OB} {c : Code} (i : Nat) {s : Nat} (hE : E.get i = ⟨true, .c (.tree s [])⟩) (h1 : W P c K (E.put i ⟨true, .c .nils⟩) σ) (h2 : W P c K (E.put i ⟨true, .c .emn⟩) σ) : W P c K E σ := fun G a w hs => by
  have hr := hs.slot i (by rw [hE])
  rw [hE] at hr
  have hr' : be G.H (.tree s []) (a.tmps.getD i undef) := hr
  have put : ∀ y : CV, be G.H y (a.tmps.getD i undef) → Sim G (E.put i ⟨true, .c y⟩) σ a w := fun y hy => by
    refine ⟨hs.inv, hs.defers, hs.size, hs.na, fun j hc => ?_⟩
    have hg := Env.get_put E i j _ hc
    rw [hg] at hc ⊢
    by_cases hj : j = i
    · subst hj; rw [iP rfl]; exact be.rep hy
    · rw [iN hj] at hc ⊢; exact hs.slot j hc
  have key : be G.H .nils (a.tmps.getD i undef) ∨ be G.H .emn (a.tmps.getD i undef) := by
    generalize a.tmps.getD i undef = v at hr'
    cases hr' with
    | tree0 _ ad cap hc =>
      cases ad with
      | some ad => exact .inr (.emn _ _)
      | none => have := hc rfl; subst this; exact .inl .nils
    | tree => exact .inr (.emn _ _)
  rcases key with h | h
  · exact h1 G a w (put _ h)
  · exact h2 G a w (put _ h)
theorem pD {E : Env} {σ : List OB} (b : Nat) (hb : b < σ.length) : fT E σ E (σ.set b .dead) := by
  intro G a w hs
  have hi := hs.inv
  have hblt : b < G.own.length := by rw [hi.len]; exact hb
  have hle : bl G.own (G.own.set b none) := by
    intro x oo h
    by_cases e : x = b
    · subst e
      exact ⟨none, by simp [hblt], fun o' ho' => by cases ho'⟩
    · exact ⟨oo, by rw [List.getElem?_set_ne (Ne.symm e)]; exact h, fun o' ho' => ⟨o', ho', .inl rfl⟩⟩
  have hne : ∀ (x : Nat) (o' : OG), (G.own.set b none)[x]? = some (some o') → x ≠ b ∧ G.own[x]? = some (some o') := by
    intro x o' h
    by_cases e : x = b
    · subst e; simp [hblt] at h
    · rw [List.getElem?_set_ne (Ne.symm e)] at h; exact ⟨e, h⟩
  refine ⟨{ G with own := G.own.set b none }, .mk' ⟨fun _ _ h => h, rfl, rfl, rfl⟩ hle, ?_, hs.defers, hs.size, hs.na, fun j hc => aR.mono (G := G) (G' := { G with own := G.own.set b none }) (fun _ _ h => h) hle (hs.slot j hc)⟩
  refine ⟨hi.hH, hi.hF, hi.HF, by simp [hi.len], ?_, fun x x' o1 o2 h1 h2 => hi.inj x x' o1 o2 (hne _ _ h1).2 (hne _ _ h2).2, fun x o' h hh => hi.sep x o' (hne _ _ h).2 hh, hi.os, hi.tape, hi.output, hi.grow⟩
  intro x ob h
  by_cases e : x = b
  · subst e
    simp only [List.getElem?_set_self hb, sJ] at h
    subst h
    simp [iF, hblt]
  · rw [List.getElem?_set_ne (Ne.symm e)] at h
    exact (hi.own x ob h).keep (G' := { G with own := G.own.set b none }) (fun _ _ h => h) hle (List.getElem?_set_ne (Ne.symm e)) (fun _ _ _ => rfl)
end Pam
namespace Pam
open Go
def nO (P : Program) (E : Env) (σ : List OB) (o : Oper) (v : PV) (σ' : List OB) : Prop := ∀ G a w, Sim G E σ a w → rk P G (execOp a.eval o) w v σ'
section
variable {P : Program} {ops : Array Oper} {E E' : Env} {σ σ' : List OB} {k : Env → List OB → Prop} {kp : PV → Env → List OB → Prop} {l : List Oper}
theorem nP {o : Oper} {r : List Oper} {v : PV} (hx : nO P E σ o v σ') (hg : dC ops E o.guard = some true) (hd : cy E o.dst)
    (h : gq P ops r (E.putD o.dst ⟨true, v⟩) σ' k kp) : gq P ops (o :: r) E σ k kp := fun G a w hs => by
  have hw := kL (P := P) hs hg
  unfold wpList
  rw [iP hw]
  obtain ⟨nx, val, w', G', e1, e2, e3, e4, e5, e6⟩ := hx G a w hs
  left
  unfold Oper.wp
  have hs' : Sim G' (E.putD o.dst ⟨true, v⟩) σ' (a.put o.dst val) w' := (hs.ghost e5 e3.H e3.na e4).putD o.dst hd _ val fun _ => e6
  have := cS (fun e a w h => dL.back (Gle.mk' e3 e4) h) r _ _ (h G' _ w' hs')
  rw [e1]
  rcases e2 with rfl | ⟨rfl, rfl⟩
  · exact this
  · exact this
theorem sh {C : Prop} {f : FuncId} {args : List PV} {o : Oper} {r : List Oper}
    {args' : List PV} {σc : List OB} {post pp : PV → List OB → Prop} (hs : eZ P f args' σc post pp) (ρ : List Nat) (hd : cy E o.dst) (hC : C) (hnd : ρ.Nodup) (hlt : ∀ b ∈ ρ, b < σ.length)
    (hargs : args = args'.map (PV.ren (cT σ.length ρ))) (hσ : ρ.map (fun b => σ[b]?) = σc.map fun ob => some (ob.ren (cT σ.length ρ))) (hu : ii ρ.length args') (hub : cg ρ.length σc)
    (next : ∀ p σ', post p σ' → ρ.length ≤ σ'.length → gq P ops r (E.putD o.dst ⟨true, p.ren (cT σ.length ρ)⟩) (cB σ ρ (σ'.map (OB.ren (cT σ.length ρ)))) k kp)
    (npanic : ∀ p σ', pp p σ' → ρ.length ≤ σ'.length → kp (p.ren (cT σ.length ρ)) E (cB σ ρ (σ'.map (OB.ren (cT σ.length ρ))))) :
    ku P ops true C f args o r E σ k kp := oE hs ρ hd hC hnd hlt hargs hσ hu hub next npanic
theorem qm {γ : Bool} {C : Prop} {f : FuncId} {args : List PV} {o : Oper} {r : List Oper} {res : PV} (hs : γ = true → cz P f args res) (hd : cy E o.dst) (hC : γ = true → C) (hargs : args.all PV.noOwn = true) (hres : res.ren (cT σ.length []) = res)
    (next : gq P ops r (E.putD o.dst ⟨γ, res⟩) σ k kp) : ku P ops γ C f args o r E σ k kp := qk hs hd hC hargs hres next
theorem nO.quiet {o : Oper} {v : PV} (h : ∀ G a w, Sim G E σ a w → ∃ val, (execOp a.eval o).run P w = .ok (.value val) w ∧ aR G v val) : nO P E σ o v σ := fun G a w hs => by
  obtain ⟨val, h1, h2⟩ := h G a w hs
  exact ⟨_, val, w, G, h1, .inl rfl, kB.refl G, bl.refl _, hs.inv, h2⟩
theorem xE {G : Gh} {a : Act} {w : World} (hs : Sim G E σ a w) {x : Operand} {p : PV} (h : ev E x = ⟨true, p⟩) : aR G p (a.eval x) := by
  have := cr hs x
  rw [h] at this
  exact this rfl
theorem si {b ver lo len s : Nat} {T0 : TypeId} {es : List (List CV)} (hσ : σ[b]? = some (.arr s ver T0 es)) : dU σ (.osl b ver lo len) := by simp [dU, hσ]
end
def CV.mvO (b k vk w : Nat) : CV → CV
  | .osl b' v lo len => if b' = k then (if v = vk then .osl b w lo len else .junk) else .osl b' v lo len
  | .oel b' v i j => if b' = k then (if v = vk then .oel b w i j else .junk) else .oel b' v i j
  | .optr b' off => if b' = k then .junk else .optr b' off
  | .fn f caps => .fn f caps
  | .junk => .junk
  | .bool x => .bool x
  | .int k n => .int k n
  | .str x => .str x
  | .nilp => .nilp
  | .nils => .nils
  | .nilf => .nilf
  | .nili => .nili
  | .emp => .emp
  | .emn => .emn
  | .tree s' es' => .tree s' es'
  | .tptr s' es' i j => .tptr s' es' i j
  | .ifc T g cs => .ifc T g cs
def CV.mv (b k vk w : Nat) : CV → CV
  | .fn f caps => .fn f (caps.map (CV.mvO b k vk w))
  | c => c.mvO b k vk w
def PV.mv (b k vk w : Nat) : PV → PV
  | .x => .x
  | .c y => .c (y.mv b k vk w)
  | .a ys => .a (ys.map (CV.mv b k vk w))
  | .t _ => .x
def OB.mv (b k vk w : Nat) : OB → OB
  | .box cs => .box (cs.map (CV.mv b k vk w))
  | .arr s' v T e => .arr s' v T e
  | .dead => .dead
def Tr.mv (b k vk w : Nat) : Tr → Tr
  | .nil => .nil
  | .leaf e => .leaf ⟨e.cond && (match e.v with | .t _ => false | _ => true), e.v.mv b k vk w⟩
  | .node a0 a1 a2 a3 a4 a5 a6 a7 => .node (a0.mv b k vk w) (a1.mv b k vk w) (a2.mv b k vk w) (a3.mv b k vk w) (a4.mv b k vk w) (a5.mv b k vk w) (a6.mv b k vk w) (a7.mv b k vk w)
def Env.mv (b k vk w : Nat) (E : Env) : Env := ⟨E.n, E.na, E.t.mv b k vk w⟩
theorem Tr.mv_get (b k vk w : Nat) (t : Tr) (j : Nat) : (t.mv b k vk w).get j = (t.get j).mv b k vk w := by
  rcases Nat.lt_or_ge j 8 with hj | hj
  · have hj' : j = 0 ∨ j = 1 ∨ j = 2 ∨ j = 3 ∨ j = 4 ∨ j = 5 ∨ j = 6 ∨ j = 7 := by omega
    cases t <;> rcases hj' with rfl | rfl | rfl | rfl | rfl | rfl | rfl | rfl <;> rfl
  · rw [Tr.get_big _ _ hj, Tr.get_big _ _ hj]; rfl
theorem Tr.mv_ent (b k vk w : Nat) (t : Tr) : (t.mv b k vk w).ent = ⟨t.ent.cond && (match t.ent.v with | .t _ => false | _ => true), t.ent.v.mv b k vk w⟩ := by
  cases t <;> rfl
section
variable {G : Gh} {σ : List OB} {w : World} {b k sb vb sk vk : Nat} {Tb Tk : TypeId} {eb ek : List (List CV)} {ob ok : OG}
def mvG (G : Gh) (b k : Nat) (ob ok : OG) : Gh := { G with own := (G.own.set k none).set b (some { ok with ver := ob.ver + 1 }) }
theorem vH (hbk : b ≠ k) (hk : G.own[k]? = some (some ok)) (hb : G.own[b]? = some (some ob)) (x : Nat) :
    (mvG G b k ob ok).own[x]? = if x = b then some (some { ok with ver := ob.ver + 1 }) else if x = k then some none else G.own[x]? := by
  have h1 := (List.getElem?_eq_some_iff.1 hb).1
  have h2 := (List.getElem?_eq_some_iff.1 hk).1
  simp only [mvG]
  by_cases e : x = b
  · subst e; rw [iP rfl]; simp [h1]
  · rw [iN e, List.getElem?_set_ne (Ne.symm e)]
    by_cases e2 : x = k
    · subst e2; rw [iP rfl]; simp [h2]
    · rw [iN e2, List.getElem?_set_ne (Ne.symm e2)]
theorem xF (hbk : b ≠ k) (hk : G.own[k]? = some (some ok)) (hb : G.own[b]? = some (some ob)) : bl G.own (mvG G b k ob ok).own := by
  intro x oo h
  rw [vH hbk hk hb]
  by_cases e : x = b
  · subst e
    rw [hb] at h
    simp only [sJ] at h
    exact ⟨_, by rw [iP rfl], fun o' e => ⟨ob, h.symm, by simp only [sJ] at e; subst e; right; show _ < _ + 1; omega⟩⟩
  · rw [iN e]
    by_cases e2 : x = k
    · exact ⟨none, by rw [iP e2], fun o' e => by cases e⟩
    · exact ⟨oo, by rw [iN e2]; exact h, fun o' ho' => ⟨o', ho', .inl rfl⟩⟩
theorem gX (hbk : b ≠ k) (hk : G.own[k]? = some (some ok)) (hb : G.own[b]? = some (some ob)) (hvk : ok.ver = vk) {c : CV} {v : Value} (h : cH G c v) :
    cH (mvG G b k ob ok) (c.mvO b k vk (ob.ver + 1)) v := by
  have h1 : v.oneCell' = true := cH.one h
  have hm : ∀ {c}, cH G c v → cH (mvG G b k ob ok) c v := fun h => cH.mono (G := G) (G' := mvG G b k ob ok) (fun _ _ h => h) (xF hbk hk hb) h
  have junk : cH (mvG G b k ob ok) .junk v := .junk v h1
  have hat : (mvG G b k ob ok).own[b]? = some (some { ok with ver := ob.ver + 1 }) := by rw [vH hbk hk hb, iP rfl]
  cases c <;> simp only [CV.mvO] <;> try exact hm h
  case optr b' off =>
    split
    · exact junk
    · exact hm h
  case oel b' v' i j =>
    split
    · rename_i e
      subst e
      split
      · rename_i e2
        subst e2
        obtain ⟨_, oo, k1, k2⟩ := h
        rw [hk] at k1
        simp only [sJ] at k1
        obtain ⟨q1, q2⟩ := k2 ok k1.symm
        refine ⟨h1, _, hat, fun o e => ?_⟩
        simp only [sJ] at e; subst e
        exact ⟨Nat.le_refl _, fun _ => q2 hvk.symm⟩
      · exact junk
    · exact hm h
  case osl b' v' lo len =>
    split
    · rename_i e
      subst e
      split
      · rename_i e2
        subst e2
        obtain ⟨_, oo, k1, k2⟩ := h
        rw [hk] at k1
        simp only [sJ] at k1
        obtain ⟨q1, q2⟩ := k2 ok k1.symm
        refine ⟨h1, _, hat, fun o e => ?_⟩
        simp only [sJ] at e; subst e
        exact ⟨Nat.le_refl _, fun _ => q2 hvk.symm⟩
      · exact junk
    · exact hm h
theorem xG (hbk : b ≠ k) (hk : G.own[k]? = some (some ok)) (hb : G.own[b]? = some (some ob)) (hvk : ok.ver = vk) {c : CV} {v : Value} (h : Rep G c v) :
    Rep (mvG G b k ob ok) (c.mv b k vk (ob.ver + 1)) v := by
  cases c
  case fn f caps =>
    obtain ⟨vs, rfl, h2⟩ := h
    refine ⟨vs, rfl, ?_⟩
    induction caps generalizing vs with
    | nil => cases vs <;> simp_all [aL]
    | cons c cs ih =>
      cases vs with
      | nil => simp [aL] at h2
      | cons v vs => exact ⟨gX hbk hk hb hvk h2.1, ih vs h2.2⟩
  all_goals first
    | exact gX hbk hk hb hvk (c := .junk) h
    | exact gX hbk hk hb hvk (c := .bool _) h
    | exact gX hbk hk hb hvk (c := .int _ _) h
    | exact gX hbk hk hb hvk (c := .str _) h
    | exact gX hbk hk hb hvk (c := .nilp) h
    | exact gX hbk hk hb hvk (c := .nils) h
    | exact gX hbk hk hb hvk (c := .nilf) h
    | exact gX hbk hk hb hvk (c := .nili) h
    | exact gX hbk hk hb hvk (c := .emp) h
    | exact gX hbk hk hb hvk (c := .emn) h
    | exact gX hbk hk hb hvk (c := .tree _ _) h
    | exact gX hbk hk hb hvk (c := .tptr _ _ _ _) h
    | exact gX hbk hk hb hvk (c := .ifc _ _ _) h
    | skip
  case optr b' off =>
    have := gX hbk hk hb hvk (c := .optr b' off) h
    simp only [CV.mv]
    by_cases e : b' = k <;> simp only [CV.mvO, e, if_true, if_false] at this ⊢ <;> exact this
  case osl b' v' lo len =>
    have := gX hbk hk hb hvk (c := .osl b' v' lo len) h
    simp only [CV.mv]
    by_cases e : b' = k
    · by_cases e2 : v' = vk <;> simp only [CV.mvO, e, e2, if_true, if_false] at this ⊢ <;> exact this
    · simp only [CV.mvO, e, if_false] at this ⊢; exact this
  case oel b' v' i j =>
    have := gX hbk hk hb hvk (c := .oel b' v' i j) h
    simp only [CV.mv]
    by_cases e : b' = k
    · by_cases e2 : v' = vk <;> simp only [CV.mvO, e, e2, if_true, if_false] at this ⊢ <;> exact this
    · simp only [CV.mvO, e, if_false] at this ⊢; exact this
theorem vJ (hbk : b ≠ k) (hk : G.own[k]? = some (some ok)) (hb : G.own[b]? = some (some ob)) (hvk : ok.ver = vk) : ∀ {cs : List CV} {vs : List Value}, aL (Rep G) cs vs → aL (Rep (mvG G b k ob ok)) (cs.map (CV.mv b k vk (ob.ver + 1))) vs
  | [], [], _ => trivial
  | _ :: _, _ :: _, h => ⟨xG hbk hk hb hvk h.1, vJ hbk hk hb hvk h.2⟩
end
theorem pE {E : Env} {σ : List OB} (b k : Nat) {sb vb sk vk : Nat} {Tb Tk : TypeId} {eb ek : List (List CV)} (hbk : b ≠ k) (hσb : σ[b]? = some (.arr sb vb Tb eb)) (hσk : σ[k]? = some (.arr sk vk Tk ek)) :
    fT E σ (E.mv b k vk (vb + 1)) (((σ.set k .dead).set b (.arr sk (vb + 1) Tk ek)).map (OB.mv b k vk (vb + 1))) := by
  intro G a w hs
  have hi := hs.inv
  obtain ⟨ob, hob, hvb, _⟩ := hi.own b _ hσb
  obtain ⟨ok, hok, hvk, r3, r4, r5, r6, r7, r8, r9⟩ := hi.own k _ hσk
  subst hvb
  have hat := vH (G := G) hbk hok hob
  have hle := xF (G := G) hbk hok hob
  have hne : ∀ (x : Nat) (o' : OG), (mvG G b k ob ok).own[x]? = some (some o') → (x = b ∧ o' = { ok with ver := ob.ver + 1 }) ∨ (x ≠ b ∧ x ≠ k ∧ G.own[x]? = some (some o')) := by
    intro x o' h
    rw [hat] at h
    split at h
    · rename_i e; simp only [sJ] at h; exact .inl ⟨e, h.symm⟩
    · rename_i e
      split at h
      · simp at h
      · rename_i e2; exact .inr ⟨e, e2, h⟩
  refine ⟨mvG G b k ob ok, .mk' ⟨fun _ _ h => h, rfl, rfl, rfl⟩ hle, ⟨hi.hH, hi.hF, hi.HF, by simp [mvG, hi.len], ?_, ?_, ?_, hi.os, hi.tape, hi.output, hi.grow⟩, hs.defers, hs.size, hs.na, fun i hc => ?_⟩
  · intro x obx h
    rw [List.getElem?_map, Option.map_eq_some_iff] at h
    obtain ⟨ob', h1, rfl⟩ := h
    have hlb : b < σ.length := (List.getElem?_eq_some_iff.1 hσb).1
    have hlk : k < σ.length := (List.getElem?_eq_some_iff.1 hσk).1
    by_cases e : x = b
    · subst e
      rw [List.getElem?_set_self (by simpa using hlb)] at h1
      simp only [sJ] at h1
      subst h1
      exact ⟨{ ok with ver := ob.ver + 1 }, by rw [hat, iP rfl], rfl, r3, r4, r5, r6, r7, r8, r9⟩
    · rw [List.getElem?_set_ne (Ne.symm e)] at h1
      by_cases e2 : x = k
      · subst e2
        rw [List.getElem?_set_self hlk] at h1
        simp only [sJ] at h1
        subst h1
        show (mvG G b x ob ok).own[x]? = some none
        rw [hat, iN e, iP rfl]
      · rw [List.getElem?_set_ne (Ne.symm e2)] at h1
        have hx : (mvG G b k ob ok).own[x]? = G.own[x]? := by rw [hat, iN e, iN e2]
        have hokx := hi.own x ob' h1
        cases ob' with
        | dead => simpa [OB.mv, iF, hx] using hokx
        | box cs =>
          obtain ⟨o', c, T', g1, g2, g3, g4, g5⟩ := hokx
          exact ⟨o', c, T', hx.trans g1, g2, g3, g4, vJ hbk hok hob hvk g5⟩
        | arr s' v' T' e' =>
          obtain ⟨o', g1, g2, g3, g4, g5, g6, g7, g8, g9⟩ := hokx
          exact ⟨o', hx.trans g1, g2, g3, g4, g5, g6, g7, g8, g9⟩
  · intro x x' o1 o2 h1 h2 hh1 hh2 he
    rcases hne x o1 h1 with ⟨e1, f1⟩ | ⟨e1, e1', f1⟩ <;> rcases hne x' o2 h2 with ⟨e2, f2⟩ | ⟨e2, e2', f2⟩
    · omega
    · subst f1
      have := hi.inj k x' ok o2 hok f2 hh1 hh2 he
      omega
    · subst f2
      have := hi.inj x k o1 ok f1 hok hh1 hh2 he
      omega
    · exact hi.inj x x' o1 o2 f1 f2 hh1 hh2 he
  · intro x o' h hh
    rcases hne x o' h with ⟨e1, f1⟩ | ⟨e1, e1', f1⟩
    · subst f1; exact hi.sep k ok hok hh
    · exact hi.sep x o' f1 hh
  · have hget : (E.mv b k vk (ob.ver + 1)).get i = ⟨(E.get i).cond && (match (E.get i).v with | .t _ => false | _ => true), (E.get i).v.mv b k vk (ob.ver + 1)⟩ := by
      unfold Env.get Env.mv
      simp only
      rw [Tr.mv_get, Tr.mv_get, Tr.mv_get, Tr.mv_ent]
    rw [hget] at hc ⊢
    simp only [Bool.and_eq_true] at hc
    have hr := hs.slot i hc.1
    cases hv : (E.get i).v with
    | x => trivial
    | c y => rw [hv] at hr; exact xG hbk hok hob hvk hr
    | a ys => rw [hv] at hr; obtain ⟨vs, e, h2⟩ := hr; exact ⟨vs, e, vJ hbk hok hob hvk h2⟩
    | t ps => rw [hv] at hc; simp at hc
theorem zC :
    ((∀ b k v w n na t, Env.mv b k v w ⟨n, na, t⟩ = ⟨n, na, t.mv b k v w⟩) ∧ (∀ b k v w, Tr.mv b k v w .nil = .nil) ∧ (∀ b k v w c y, Tr.mv b k v w (.leaf ⟨c, .c y⟩) = .leaf ⟨c, .c (y.mv b k v w)⟩) ∧ (∀ b k v w c ys, Tr.mv b k v w (.leaf ⟨c, .a ys⟩) = .leaf ⟨c, .a (ys.map (CV.mv b k v w))⟩) ∧
     (∀ b k v w c ps, Tr.mv b k v w (.leaf ⟨c, .t ps⟩) = .leaf ⟨false, .x⟩) ∧ (∀ b k v w c, Tr.mv b k v w (.leaf ⟨c, .x⟩) = .leaf ⟨c, .x⟩) ∧
     (∀ b k v w a0 a1 a2 a3 a4 a5 a6 a7, Tr.mv b k v w (.node a0 a1 a2 a3 a4 a5 a6 a7) = .node (a0.mv b k v w) (a1.mv b k v w) (a2.mv b k v w) (a3.mv b k v w) (a4.mv b k v w) (a5.mv b k v w) (a6.mv b k v w) (a7.mv b k v w))) ∧
    ((∀ b k v w, OB.mv b k v w .dead = .dead) ∧ (∀ b k v w cs, OB.mv b k v w (.box cs) = .box (cs.map (CV.mv b k v w))) ∧ (∀ b k v w s' v' T e, OB.mv b k v w (.arr s' v' T e) = .arr s' v' T e)) ∧
    ((∀ b k v w x, CV.mv b k v w (.bool x) = .bool x) ∧ (∀ b k v w q n, CV.mv b k v w (.int q n) = .int q n) ∧ (∀ b k v w x, CV.mv b k v w (.str x) = .str x) ∧ (∀ b k v w, CV.mv b k v w .nilp = .nilp) ∧ (∀ b k v w, CV.mv b k v w .nils = .nils) ∧
     (∀ b k v w, CV.mv b k v w .nilf = .nilf) ∧ (∀ b k v w, CV.mv b k v w .nili = .nili) ∧ (∀ b k v w, CV.mv b k v w .emp = .emp) ∧ (∀ b k v w, CV.mv b k v w .emn = .emn) ∧ (∀ b k v w, CV.mv b k v w .junk = .junk) ∧ (∀ b k v w s' e', CV.mv b k v w (.tree s' e') = .tree s' e') ∧
     (∀ b k v w s' e' i j, CV.mv b k v w (.tptr s' e' i j) = .tptr s' e' i j) ∧ (∀ b k v w T g cs, CV.mv b k v w (.ifc T g cs) = .ifc T g cs)) ∧
    ((∀ b k v w b' v' lo len, CV.mv b k v w (.osl b' v' lo len) = if b' = k then (if v' = v then .osl b w lo len else .junk) else .osl b' v' lo len) ∧
     (∀ b k v w b' v' i j, CV.mv b k v w (.oel b' v' i j) = if b' = k then (if v' = v then .oel b w i j else .junk) else .oel b' v' i j) ∧ (∀ b k v w b' off, CV.mv b k v w (.optr b' off) = if b' = k then .junk else .optr b' off) ∧
     (∀ b k v w f caps, CV.mv b k v w (.fn f caps) = .fn f (caps.map (CV.mvO b k v w)))) := by
  refine ⟨⟨?_, ?_, ?_, ?_, ?_, ?_, ?_⟩, ⟨?_, ?_, ?_⟩, ⟨?_, ?_, ?_, ?_, ?_, ?_, ?_, ?_, ?_, ?_, ?_, ?_, ?_⟩, ?_, ?_, ?_, ?_⟩
  all_goals intros
  all_goals first | rfl | (simp [Tr.mv, PV.mv]; done)
theorem pF {E : Env} {σ : List OB} (b j s : Nat) (T : TypeId) {cs : List CV} (hs : 0 < s) (hσ : σ[b]? = some (.box cs)) (hj : cs[j]? = some .nils) :
    fT E σ E (σ.set b (.box (cs.set j (.osl σ.length 0 0 0))) ++ [.arr s 0 T []]) := by
  intro G a w hs'
  have hi := hs'.inv
  have hi2 := hi.nil s T hs
  have hle : bl G.own (G.own ++ [some ⟨0, s, 0, 0, false⟩]) := bl.append _ _
  have hlt : b < σ.length := (List.getElem?_eq_some_iff.1 hσ).1
  refine ⟨{ G with own := G.own ++ [some ⟨0, s, 0, 0, false⟩] }, .mk' ⟨fun _ _ h => h, rfl, rfl, rfl⟩ hle, ?_, hs'.defers, hs'.size, hs'.na, fun i hc => aR.mono (G := G) (G' := { G with own := G.own ++ [some ⟨0, s, 0, 0, false⟩] }) (fun _ _ h => h) hle (hs'.slot i hc)⟩
  have hset : σ.set b (.box (cs.set j (.osl σ.length 0 0 0))) ++ [.arr s 0 T []] = (σ ++ [OB.arr s 0 T []]).set b (.box (cs.set j (.osl σ.length 0 0 0))) := by
    rw [List.set_append_left _ _ hlt]
  rw [hset]
  refine ⟨hi2.hH, hi2.hF, hi2.HF, by simpa using hi2.len, fun x ob hx => ?_, hi2.inj, hi2.sep, hi2.os, hi2.tape, hi2.output, hi2.grow⟩
  by_cases hxb : x = b
  · subst hxb
    rw [List.getElem?_set_self (by simp; omega)] at hx
    simp only [sJ] at hx; subst hx
    obtain ⟨o, c, T', h1, h2, h3, h4, h5⟩ := hi2.own x (.box cs) (by rw [List.getElem?_append_left hlt]; exact hσ)
    refine ⟨o, c, T', h1, h2, h3, h4, ?_⟩
    have hlen := h5.length
    refine aL.of_get (by simpa using hlen) fun i y v hy hv => ?_
    by_cases e : i = j
    · subst e
      have hl : i < cs.length := (List.getElem?_eq_some_iff.1 hj).1
      rw [List.getElem?_set_self hl] at hy
      simp only [sJ] at hy; subst hy
      obtain ⟨v', hv', hr⟩ := h5.get i _ hj
      rw [hv] at hv'
      simp only [sJ] at hv'; subst hv'
      exact ui hi s (v := v) hr
    · rw [List.getElem?_set_ne (Ne.symm e)] at hy
      obtain ⟨v', hv', hr⟩ := h5.get i _ hy
      rw [hv] at hv'
      simp only [sJ] at hv'; subst hv'
      exact hr
  · rw [List.getElem?_set_ne (Ne.symm hxb)] at hx
    exact hi2.own x ob hx
def CV.dnO (b k : Nat) : CV → CV
  | .osl b' v lo len => if b' = k then .osl b v lo len else if b' = b then .junk else .osl b' v lo len
  | .oel b' v i j => if b' = k then .oel b v i j else if b' = b then .junk else .oel b' v i j
  | .optr b' off => if b' = k then .optr b off else if b' = b then .junk else .optr b' off
  | .fn f caps => .fn f caps
  | .junk => .junk
  | .bool x => .bool x
  | .int k n => .int k n
  | .str x => .str x
  | .nilp => .nilp
  | .nils => .nils
  | .nilf => .nilf
  | .nili => .nili
  | .emp => .emp
  | .emn => .emn
  | .tree s' es' => .tree s' es'
  | .tptr s' es' i j => .tptr s' es' i j
  | .ifc T g cs => .ifc T g cs
def CV.dn (b k : Nat) : CV → CV
  | .fn f caps => .fn f (caps.map (CV.dnO b k))
  | c => c.dnO b k
def PV.dn (b k : Nat) : PV → PV
  | .x => .x
  | .c y => .c (y.dn b k)
  | .a ys => .a (ys.map (CV.dn b k))
  | .t _ => .x
def OB.dn (b k : Nat) : OB → OB
  | .box cs => .box (cs.map (CV.dn b k))
  | .arr s' v T e => .arr s' v T e
  | .dead => .dead
def Tr.dn (b k : Nat) : Tr → Tr
  | .nil => .nil
  | .leaf e => .leaf ⟨e.cond && (match e.v with | .t _ => false | _ => true), e.v.dn b k⟩
  | .node a0 a1 a2 a3 a4 a5 a6 a7 => .node (a0.dn b k) (a1.dn b k) (a2.dn b k) (a3.dn b k) (a4.dn b k) (a5.dn b k) (a6.dn b k) (a7.dn b k)
def Env.dn (b k : Nat) (E : Env) : Env := ⟨E.n, E.na, E.t.dn b k⟩
theorem Tr.dn_get (b k : Nat) (t : Tr) (j : Nat) : (t.dn b k).get j = (t.get j).dn b k := by
  rcases Nat.lt_or_ge j 8 with hj | hj
  · have hj' : j = 0 ∨ j = 1 ∨ j = 2 ∨ j = 3 ∨ j = 4 ∨ j = 5 ∨ j = 6 ∨ j = 7 := by omega
    cases t <;> rcases hj' with rfl | rfl | rfl | rfl | rfl | rfl | rfl | rfl <;> rfl
  · rw [Tr.get_big _ _ hj, Tr.get_big _ _ hj]; rfl
theorem Tr.dn_ent (b k : Nat) (t : Tr) : (t.dn b k).ent = ⟨t.ent.cond && (match t.ent.v with | .t _ => false | _ => true), t.ent.v.dn b k⟩ := by
  cases t <;> rfl
section
variable {G : Gh} {σ : List OB} {w : World} {b k : Nat} {oo : Option OG}
def dnG (G : Gh) (b k : Nat) (oo : Option OG) : Gh := { G with own := (G.own.set k none).set b oo }
theorem xH (hbk : b ≠ k) (hk : G.own[k]? = some oo) (hb : G.own[b]? = some none) (x : Nat) :
    (dnG G b k oo).own[x]? = if x = b then some oo else if x = k then some none else G.own[x]? := by
  have h1 := (List.getElem?_eq_some_iff.1 hb).1
  have h2 := (List.getElem?_eq_some_iff.1 hk).1
  simp only [dnG]
  by_cases e : x = b
  · subst e; rw [iP rfl]; simp [h1]
  · rw [iN e, List.getElem?_set_ne (Ne.symm e)]
    by_cases e2 : x = k
    · subst e2; rw [iP rfl]; simp [h2]
    · rw [iN e2, List.getElem?_set_ne (Ne.symm e2)]
theorem gY (hbk : b ≠ k) (hk : G.own[k]? = some oo) (hb : G.own[b]? = some none) {c : CV} {v : Value} (h : cH G c v) : cH (dnG G b k oo) (c.dnO b k) v := by
  have h1 : v.oneCell' = true := cH.one h
  have hat := xH hbk hk hb
  have junk : cH (dnG G b k oo) .junk v := .junk v h1
  have hm : ∀ {x : Nat} {Q : OG → Prop}, x ≠ b → x ≠ k → (∃ oo, G.own[x]? = some oo ∧ ∀ o, oo = some o → Q o) → ∃ oo', (dnG G b k oo).own[x]? = some oo' ∧ ∀ o, oo' = some o → Q o := by
    rintro x Q e1 e2 ⟨o1, h1, h2⟩
    exact ⟨o1, by rw [hat, iN e1, iN e2]; exact h1, h2⟩
  have hmk : ∀ {Q : OG → Prop}, (∃ oo, G.own[k]? = some oo ∧ ∀ o, oo = some o → Q o) → ∃ oo', (dnG G b k oo).own[b]? = some oo' ∧ ∀ o, oo' = some o → Q o := by
    rintro Q ⟨o1, h1, h2⟩
    rw [hk] at h1
    simp only [sJ] at h1
    subst h1
    exact ⟨oo, by rw [hat, iP rfl], h2⟩
  cases c <;> simp only [CV.dnO] <;> try exact h
  case optr b' off =>
    split
    · rename_i e; subst e; exact ⟨h.1, hmk h.2⟩
    · split
      · exact junk
      · rename_i e1 e2; exact ⟨h.1, hm e2 e1 h.2⟩
  case oel b' v' i j =>
    split
    · rename_i e; subst e; exact ⟨h.1, hmk h.2⟩
    · split
      · exact junk
      · rename_i e1 e2; exact ⟨h.1, hm e2 e1 h.2⟩
  case osl b' v' lo len =>
    split
    · rename_i e; subst e; exact ⟨h.1, hmk h.2⟩
    · split
      · exact junk
      · rename_i e1 e2; exact ⟨h.1, hm e2 e1 h.2⟩
theorem xI (hbk : b ≠ k) (hk : G.own[k]? = some oo) (hb : G.own[b]? = some none) {c : CV} {v : Value} (h : Rep G c v) : Rep (dnG G b k oo) (c.dn b k) v := by
  cases c
  case fn f caps =>
    obtain ⟨vs, rfl, h2⟩ := h
    refine ⟨vs, rfl, ?_⟩
    induction caps generalizing vs with
    | nil => cases vs <;> simp_all [aL]
    | cons c cs ih =>
      cases vs with
      | nil => simp [aL] at h2
      | cons v vs => exact ⟨gY hbk hk hb h2.1, ih vs h2.2⟩
  all_goals first
    | exact gY hbk hk hb (c := .junk) h
    | exact gY hbk hk hb (c := .bool _) h
    | exact gY hbk hk hb (c := .int _ _) h
    | exact gY hbk hk hb (c := .str _) h
    | exact gY hbk hk hb (c := .nilp) h
    | exact gY hbk hk hb (c := .nils) h
    | exact gY hbk hk hb (c := .nilf) h
    | exact gY hbk hk hb (c := .nili) h
    | exact gY hbk hk hb (c := .emp) h
    | exact gY hbk hk hb (c := .emn) h
    | exact gY hbk hk hb (c := .tree _ _) h
    | exact gY hbk hk hb (c := .tptr _ _ _ _) h
    | exact gY hbk hk hb (c := .ifc _ _ _) h
    | skip
  case optr b' off =>
    have := gY hbk hk hb (c := .optr b' off) h
    simp only [CV.dn]
    by_cases e : b' = k
    · simp only [CV.dnO, e, if_true] at this ⊢; exact this
    · by_cases e2 : b' = b <;> simp only [CV.dnO, e, e2, hbk, if_true, if_false] at this ⊢ <;> exact this
  case osl b' v' lo len =>
    have := gY hbk hk hb (c := .osl b' v' lo len) h
    simp only [CV.dn]
    by_cases e : b' = k
    · simp only [CV.dnO, e, if_true] at this ⊢; exact this
    · by_cases e2 : b' = b <;> simp only [CV.dnO, e, e2, hbk, if_true, if_false] at this ⊢ <;> exact this
  case oel b' v' i j =>
    have := gY hbk hk hb (c := .oel b' v' i j) h
    simp only [CV.dn]
    by_cases e : b' = k
    · simp only [CV.dnO, e, if_true] at this ⊢; exact this
    · by_cases e2 : b' = b <;> simp only [CV.dnO, e, e2, hbk, if_true, if_false] at this ⊢ <;> exact this
theorem vK (hbk : b ≠ k) (hk : G.own[k]? = some oo) (hb : G.own[b]? = some none) : ∀ {cs : List CV} {vs : List Value}, aL (Rep G) cs vs → aL (Rep (dnG G b k oo)) (cs.map (CV.dn b k)) vs
  | [], [], _ => trivial
  | _ :: _, _ :: _, h => ⟨xI hbk hk hb h.1, vK hbk hk hb h.2⟩
end
theorem mf {E : Env} {σ : List OB} (b k : Nat) {ob : OB} (hbk : b ≠ k) (hna : E.na ≤ b) (hnk : E.na ≤ k) (hσb : σ[b]? = some .dead) (hσk : σ[k]? = some ob) :
    fT E σ (E.dn b k) (((σ.set k .dead).set b ob).map (OB.dn b k)) := by
  intro G a w hs
  have hi := hs.inv
  have hob : G.own[b]? = some none := hi.own b _ hσb
  have hlk : k < σ.length := (List.getElem?_eq_some_iff.1 hσk).1
  have hlb : b < σ.length := (List.getElem?_eq_some_iff.1 hσb).1
  obtain ⟨oo, hok⟩ : ∃ oo, G.own[k]? = some oo := ⟨_, List.getElem?_eq_getElem (by rw [hi.len]; exact hlk)⟩
  have hat := xH (G := G) hbk hok hob
  have hne : ∀ (x : Nat) (o' : OG), (dnG G b k oo).own[x]? = some (some o') → (x = b ∧ G.own[k]? = some (some o')) ∨ (x ≠ b ∧ x ≠ k ∧ G.own[x]? = some (some o')) := by
    intro x o' h
    rw [hat] at h
    split at h
    · rename_i e; simp only [sJ] at h; exact .inl ⟨e, by rw [hok, h]⟩
    · rename_i e
      split at h
      · simp at h
      · rename_i e2; exact .inr ⟨e, e2, h⟩
  refine ⟨dnG G b k oo, ⟨⟨fun _ _ h => h, rfl, rfl, rfl⟩, fun x o1 hx h1 => ?_⟩, ⟨hi.hH, hi.hF, hi.HF, by simp [dnG, hi.len], ?_, ?_, ?_, hi.os, hi.tape, hi.output, hi.grow⟩, hs.defers, hs.size, hs.na, fun i hc => ?_⟩
  · have := hs.na
    refine ⟨o1, by rw [hat, iN (by omega), iN (by omega)]; exact h1, fun o' e => ⟨o', e, .inl rfl⟩⟩
  · intro x obx h
    rw [List.getElem?_map, Option.map_eq_some_iff] at h
    obtain ⟨ob', h1, rfl⟩ := h
    have conv : ∀ (y : Nat) (ob' : OB), iF G w y ob' → (dnG G b k oo).own[x]? = G.own[y]? → iF (dnG G b k oo) w x (ob'.dn b k) := by
      intro y ob' hokx hx
      cases ob' with
      | dead => simpa [OB.dn, iF, hx] using hokx
      | box cs =>
        obtain ⟨o', c, T', g1, g2, g3, g4, g5⟩ := hokx
        exact ⟨o', c, T', hx.trans g1, g2, g3, g4, vK hbk hok hob g5⟩
      | arr s' v' T' e' =>
        obtain ⟨o', g1, g2, g3, g4, g5, g6, g7, g8, g9⟩ := hokx
        exact ⟨o', hx.trans g1, g2, g3, g4, g5, g6, g7, g8, g9⟩
    by_cases e : x = b
    · subst e
      rw [List.getElem?_set_self (by simpa using hlb)] at h1
      simp only [sJ] at h1
      subst h1
      exact conv k _ (hi.own k _ hσk) (by rw [hat, iP rfl, hok])
    · rw [List.getElem?_set_ne (Ne.symm e)] at h1
      by_cases e2 : x = k
      · subst e2
        rw [List.getElem?_set_self hlk] at h1
        simp only [sJ] at h1
        subst h1
        show (dnG G b x oo).own[x]? = some none
        rw [hat, iN e, iP rfl]
      · rw [List.getElem?_set_ne (Ne.symm e2)] at h1
        exact conv x _ (hi.own x ob' h1) (by rw [hat, iN e, iN e2])
  · intro x x' o1 o2 h1 h2 hh1 hh2 he
    rcases hne x o1 h1 with ⟨e1, f1⟩ | ⟨e1, e1', f1⟩ <;> rcases hne x' o2 h2 with ⟨e2, f2⟩ | ⟨e2, e2', f2⟩
    · omega
    · have := hi.inj k x' o1 o2 f1 f2 hh1 hh2 he; omega
    · have := hi.inj x k o1 o2 f1 f2 hh1 hh2 he; omega
    · exact hi.inj x x' o1 o2 f1 f2 hh1 hh2 he
  · intro x o' h hh
    rcases hne x o' h with ⟨e1, f1⟩ | ⟨e1, e1', f1⟩
    · exact hi.sep k o' f1 hh
    · exact hi.sep x o' f1 hh
  · have hget : (E.dn b k).get i = ⟨(E.get i).cond && (match (E.get i).v with | .t _ => false | _ => true), (E.get i).v.dn b k⟩ := by
      unfold Env.get Env.dn
      simp only
      rw [Tr.dn_get, Tr.dn_get, Tr.dn_get, Tr.dn_ent]
    rw [hget] at hc ⊢
    simp only [Bool.and_eq_true] at hc
    have hr := hs.slot i hc.1
    cases hv : (E.get i).v with
    | x => trivial
    | c y => rw [hv] at hr; exact xI hbk hok hob hr
    | a ys => rw [hv] at hr; obtain ⟨vs, e, h2⟩ := hr; exact ⟨vs, e, vK hbk hok hob h2⟩
    | t ps => rw [hv] at hc; simp at hc
theorem zD :
    ((∀ b k n na t, Env.dn b k ⟨n, na, t⟩ = ⟨n, na, t.dn b k⟩) ∧ (∀ b k, Tr.dn b k .nil = .nil) ∧ (∀ b k c y, Tr.dn b k (.leaf ⟨c, .c y⟩) = .leaf ⟨c, .c (y.dn b k)⟩) ∧ (∀ b k c ys, Tr.dn b k (.leaf ⟨c, .a ys⟩) = .leaf ⟨c, .a (ys.map (CV.dn b k))⟩) ∧
     (∀ b k c ps, Tr.dn b k (.leaf ⟨c, .t ps⟩) = .leaf ⟨false, .x⟩) ∧ (∀ b k c, Tr.dn b k (.leaf ⟨c, .x⟩) = .leaf ⟨c, .x⟩) ∧
     (∀ b k a0 a1 a2 a3 a4 a5 a6 a7, Tr.dn b k (.node a0 a1 a2 a3 a4 a5 a6 a7) = .node (a0.dn b k) (a1.dn b k) (a2.dn b k) (a3.dn b k) (a4.dn b k) (a5.dn b k) (a6.dn b k) (a7.dn b k))) ∧
    ((∀ b k, OB.dn b k .dead = .dead) ∧ (∀ b k cs, OB.dn b k (.box cs) = .box (cs.map (CV.dn b k))) ∧ (∀ b k s' v' T e, OB.dn b k (.arr s' v' T e) = .arr s' v' T e)) ∧
    ((∀ b k x, CV.dn b k (.bool x) = .bool x) ∧ (∀ b k q n, CV.dn b k (.int q n) = .int q n) ∧ (∀ b k x, CV.dn b k (.str x) = .str x) ∧ (∀ b k, CV.dn b k .nilp = .nilp) ∧ (∀ b k, CV.dn b k .nils = .nils) ∧
     (∀ b k, CV.dn b k .nilf = .nilf) ∧ (∀ b k, CV.dn b k .nili = .nili) ∧ (∀ b k, CV.dn b k .emp = .emp) ∧ (∀ b k, CV.dn b k .emn = .emn) ∧ (∀ b k, CV.dn b k .junk = .junk) ∧ (∀ b k s' e', CV.dn b k (.tree s' e') = .tree s' e') ∧
     (∀ b k s' e' i j, CV.dn b k (.tptr s' e' i j) = .tptr s' e' i j) ∧ (∀ b k T g cs, CV.dn b k (.ifc T g cs) = .ifc T g cs)) ∧
    ((∀ b k b' v' lo len, CV.dn b k (.osl b' v' lo len) = if b' = k then .osl b v' lo len else if b' = b then .junk else .osl b' v' lo len) ∧
     (∀ b k b' v' i j, CV.dn b k (.oel b' v' i j) = if b' = k then .oel b v' i j else if b' = b then .junk else .oel b' v' i j) ∧ (∀ b k b' off, CV.dn b k (.optr b' off) = if b' = k then .optr b off else if b' = b then .junk else .optr b' off) ∧
     (∀ b k f caps, CV.dn b k (.fn f caps) = .fn f (caps.map (CV.dnO b k)))) := by
  refine ⟨⟨?_, ?_, ?_, ?_, ?_, ?_, ?_⟩, ⟨?_, ?_, ?_⟩, ⟨?_, ?_, ?_, ?_, ?_, ?_, ?_, ?_, ?_, ?_, ?_, ?_, ?_⟩, ?_, ?_, ?_, ?_⟩
  all_goals intros
  all_goals first | rfl | (simp [Tr.dn, PV.dn]; done)
theorem om {E : Env} {σ : List OB} (s : Nat) (T : TypeId) (hs : 0 < s) : fT E σ E (σ ++ [.arr s 0 T []]) := by
  intro G a w hs'
  exact ⟨{ G with own := G.own ++ [some ⟨0, s, 0, 0, false⟩] }, .mk' ⟨fun _ _ h => h, rfl, rfl, rfl⟩ (bl.append _ _), hs'.inv.nil s T hs, hs'.defers, hs'.size, hs'.na,
    fun j hc => aR.mono (G := G) (G' := { G with own := G.own ++ [some ⟨0, s, 0, 0, false⟩] }) (fun _ _ h => h) (bl.append _ _) (hs'.slot j hc)⟩
theorem vL {α : Type} (l : List α) (n : Nat) (h : l.length ≤ n) : (lit l).take n = lit l := List.take_of_length_le h
theorem rr {α β : Type} (f : α → β) (l : List α) (n : Nat) (h : l.length ≤ n) : ((lit l).map f).take n = (lit l).map f := List.take_of_length_le (by simpa [lit] using h)
end Pam
namespace Pam
open Go
theorem eN {α : Type} {f : α → List CV} {l : List α} {n : Nat} (h : ∀ x, (f x).length = n) : ∀ e ∈ l.map f, e.length = n := by
 intro e he
 obtain ⟨x, _, rfl⟩ := List.mem_map.1 he
 exact h x
theorem zg : (∀ y, PV.capOk (.c y) = (match y with | .fn _ _ => false | _ => true)) ∧ (∀ b o, CV.flat (.optr b o) = false) ∧ (∀ b, CV.flat (.bool b) = true) ∧ (∀ k n, CV.flat (.int k n) = true) ∧ (∀ s, CV.flat (.str s) = true) ∧ (∀ s e, CV.flat (.tree s e) = true) ∧ CV.flat .nils = true ∧ CV.flat .nilp = true ∧ CV.flat .nilf = true ∧ CV.flat .nili = true ∧ CV.flat .emp = true ∧ (∀ b v l n, CV.flat (.osl b v l n) = false) ∧ (∀ b v l n, CV.flat (.oel b v l n) = false) := by
 refine ⟨?_, ?_, ?_, ?_, ?_, ?_, ?_, ?_, ?_, ?_, ?_, ?_, ?_⟩ <;> intros <;> first | rfl | skip
 rename_i y; cases y <;> rfl
def bL := (And.intro (And.intro (And.intro (And.intro (And.intro @List.mem_cons.{0} (And.intro @List.not_mem_nil.{0} @forall_eq_or_imp.{1})) (And.intro (And.intro @List.getElem?_cons_zero.{0} @List.getElem?_cons_succ.{0}) (And.intro @List.getElem?_nil.{0} @List.length_cons.{0}))) (And.intro (And.intro (And.intro @List.length_nil.{0} @List.length_map.{0, 0}) (And.intro @List.set_cons_zero.{0} @List.set_cons_succ.{0})) (And.intro (And.intro @List.drop_zero.{0} @List.drop_succ_cons.{0}) (And.intro @List.take_succ_cons.{0} @List.take_zero.{0})))) (And.intro (And.intro (And.intro (And.intro @List.headD_cons.{0} @List.cons_append.{0}) (And.intro @List.nil_append.{0} @List.map_cons.{0, 0})) (And.intro (And.intro @List.map_nil.{0, 0} @List.tail_cons.{0}) (And.intro @List.getD_cons_zero.{0} @List.getD_cons_succ.{0}))) (And.intro (And.intro (And.intro @true_and @and_true) (And.intro @eq_self.{1} @forall_const.{1})) (And.intro (And.intro @if_true.{0} @forall_eq.{1}) (And.intro @imp_self @implies_true.{1}))))) (And.intro (And.intro (And.intro (And.intro (And.intro @true_or @or_true) (And.intro @false_or @or_false)) (And.intro (And.intro @Nat.zero_add @Nat.add_zero) (And.intro @tN @Option.map_some.{0, 0}))) (And.intro (And.intro (And.intro @Option.map_none.{0, 0} @beq_self_eq_true.{0}) (And.intro @Bool.true_eq_false @Bool.false_eq_true)) (And.intro (And.intro @false_implies @not_false_eq_true) (And.intro @Nat.le_refl @List.all_cons.{0})))) (And.intro (And.intro (And.intro (And.intro @List.all_nil.{0} @List.replicate_succ.{0}) (And.intro @List.replicate_zero.{0} @List.flatten_cons.{0})) (And.intro (And.intro @List.flatten_nil.{0} @List.append_nil.{0}) (And.intro @Bool.and_true @List.foldr_cons.{0, 0}))) (And.intro (And.intro (And.intro @List.foldr_nil.{0, 0} @Option.isSome_some.{0}) (And.intro @Option.isSome_none.{0} @eK.eq_1)) (And.intro (And.intro @eB.eq_1 @eS.eq_1) (And.intro @eL.eq_1 zg))))))
def bM := (And.intro (And.intro (And.intro (And.intro (And.intro wP (And.intro zc vC)) (And.intro vD (And.intro vE zz))) (And.intro (And.intro yY (And.intro xA yZ)) (And.intro za (And.intro zA @ud)))) (And.intro (And.intro (And.intro @qK (And.intro @kw xD)) (And.intro rq (And.intro zf ze))) (And.intro (And.intro @ie.eq_1 (And.intro @jn.eq_1 @oA.eq_1)) (And.intro (And.intro @oA.eq_2 @oA.eq_3) (And.intro @oA.eq_4 @oA.eq_5))))) (And.intro (And.intro (And.intro (And.intro @gm.eq_1 (And.intro @jA.eq_1 @jA.eq_3)) (And.intro @qA.eq_1 (And.intro @bnd.eq_1 @bnd.eq_2))) (And.intro (And.intro @pg.eq_1 (And.intro @pg.eq_2 @pg.eq_3)) (And.intro (And.intro @pg.eq_4 @pg.eq_5) (And.intro @pg.eq_6 @pg.eq_7)))) (And.intro (And.intro (And.intro @qg.eq_1 (And.intro @qg.eq_2 @eqC.eq_1)) (And.intro @eqC.eq_2 (And.intro @eqC.eq_3 @dS.eq_1))) (And.intro (And.intro @ll.eq_1 (And.intro @eV.eq_1 @lM.eq_1)) (And.intro (And.intro @lM.eq_2 @oB.eq_1) (And.intro @cut.eq_1 @cut.eq_2))))))
def bR := And.intro (And.intro (And.intro @dA.eq_1 @dA.eq_2) bL) (And.intro bM (And.intro (And.intro @nG.eq_1 @nG.eq_2) (And.intro @nG.eq_3 @nG.eq_4)))
def bA := And.intro (And.intro (And.intro (And.intro @gn.eq_1 @gn.eq_2) (And.intro @lT.eq_1 (And.intro @lT.eq_2 @lT.eq_3))) bL) (And.intro bM (And.intro (And.intro @qJ.eq_1 @qJ.eq_2) (And.intro @qJ.eq_3 @qJ.eq_4)))
def bE := And.intro (And.intro vF zc) (And.intro vC (And.intro vD vE))
def bS := And.intro (And.intro sc (And.intro xB @kw)) (And.intro bE (And.intro bL rq))
def bF := And.intro (And.intro zb wS) (And.intro (And.intro vF xB) (And.intro (And.intro xA vC) (And.intro (And.intro vD vE) (And.intro (And.intro @ud @qK) (And.intro bL rq)))))
def bZ := And.intro (And.intro (And.intro zB zC) (And.intro zD xD)) (And.intro rq (And.intro (And.intro @kw (And.intro @vL @rr)) bE))
end Pam
namespace Pam
open Go
section
variable {P : Program} {ops : Array Oper} {E E' E1 E2 : Env} {σ σ' σ1 σ2 : List OB} {k : Env → List OB → Prop} {kp : PV → Env → List OB → Prop} {l : List Oper} {K : Kt} {c y : Code}
theorem em {α : Type} [Inhabited α] (f : α → List CV) (xs : List α) (i : Nat) (h : i < xs.length := by first | omega | (simp only [kw, List.length_cons, List.length_nil, List.length_append, List.length_set, List.length_replicate, List.length_map, List.length_take, List.length_drop]; omega)) : elt (xs.map f) i = f (xs.getD i default) := wQ f xs i h
structure Bx (p : Prop) : Prop where
 h : p
theorem sd {p q : Prop} (hq : q) (hp : p := by first | omega | assumption | decide | exact eN fun _ => rfl | (intro _; omega) | rfl | exact fun e => absurd (List.map_eq_nil_iff.1 e) (by assumption) | (and_intros <;> first | omega | assumption | decide | exact eN fun _ => rfl)) : p ∧ q := ⟨hp, hq⟩
theorem a2 {p q : Prop} (h : p) (i : q) : p ∧ q := ⟨h, i⟩
theorem go {p q : Prop} (hq : q) (h : Bx q → p := by
  intro hq
  simp only [bR, bT, tab, bX, reduceIte, ↓reduceIte, reduceCtorEq, Int.reduceToNat, Nat.reduceDiv, Nat.reduceMod, Nat.reduceLT, Nat.reduceLeDiff, Nat.reduceAdd, Nat.reduceSub, Nat.reduceMul, Nat.reduceEqDiff, Nat.reduceBEq, Nat.reduceBNe, Nat.reduceGT]
  repeat refine sd ?_
  exact hq.1) : p := h ⟨hq⟩
theorem gox {p q F : Prop} (fx : F) (hq : q) (h : F → Bx q → p := by
  intro fx hq
  simp only [bR, bT, tab, bX, reduceIte, ↓reduceIte, reduceCtorEq, Int.reduceToNat, Nat.reduceDiv, Nat.reduceMod, Nat.reduceLT, Nat.reduceLeDiff, Nat.reduceAdd, Nat.reduceSub, Nat.reduceMul, Nat.reduceEqDiff, Nat.reduceBEq, Nat.reduceBNe, Nat.reduceGT, fx]
  repeat refine sd ?_
  exact hq.1) : p := h fx ⟨hq⟩
theorem ga {p q : Prop} (hq : q) (h : Bx q → p := by
  intro hq
  simp only [bA, bT, tab, bX, reduceIte, ↓reduceIte, reduceCtorEq, Int.reduceToNat, Nat.reduceDiv, Nat.reduceMod, Nat.reduceLT, Nat.reduceLeDiff, Nat.reduceAdd, Nat.reduceSub, Nat.reduceMul, Nat.reduceEqDiff, Nat.reduceBEq, Nat.reduceBNe, Nat.reduceGT]
  repeat refine sd ?_
  exact hq.1) : p := h ⟨hq⟩
theorem gax {p q F : Prop} (fx : F) (hq : q) (h : F → Bx q → p := by
  intro fx hq
  simp only [bA, bT, tab, bX, reduceIte, ↓reduceIte, reduceCtorEq, Int.reduceToNat, Nat.reduceDiv, Nat.reduceMod, Nat.reduceLT, Nat.reduceLeDiff, Nat.reduceAdd, Nat.reduceSub, Nat.reduceMul, Nat.reduceEqDiff, Nat.reduceBEq, Nat.reduceBNe, Nat.reduceGT, fx]
  repeat refine sd ?_
  exact hq.1) : p := h fx ⟨hq⟩
theorem gz {p q : Prop} (hq : q) (h : Bx q → p := by
  intro hq
  simp only [bZ, bL, reduceIte, ↓reduceIte, reduceCtorEq, Int.reduceToNat, Nat.reduceDiv, Nat.reduceMod, Nat.reduceLT, Nat.reduceLeDiff, Nat.reduceAdd, Nat.reduceSub, Nat.reduceMul, Nat.reduceEqDiff, Nat.reduceBEq, Nat.reduceBNe, Nat.reduceGT]
  exact hq.1) : p := h ⟨hq⟩
theorem en {p : Prop} (h : p := by simp only [bF, bT, tab, bX, Sum.elim_inl, Sum.elim_inr, reduceIte, ↓reduceIte, reduceCtorEq, Int.reduceToNat, Nat.reduceDiv, Nat.reduceMod, Nat.reduceLT, Nat.reduceLeDiff, Nat.reduceAdd, Nat.reduceSub, Nat.reduceMul, Nat.reduceEqDiff, Nat.reduceBEq, Nat.reduceBNe, Nat.reduceGT] <;> first | done | rfl | (and_intros <;> first | rfl | omega | (simp; done) | (simp [eK, eB, eS, eL]; done))) : p := h
theorem ls {p : Prop} (h : p := by simp only [bS, bX, reduceIte, ↓reduceIte, reduceCtorEq, Int.reduceToNat, Nat.reduceDiv, Nat.reduceMod, Nat.reduceLT, Nat.reduceLeDiff, Nat.reduceAdd, Nat.reduceSub, Nat.reduceMul, Nat.reduceEqDiff, Nat.reduceBEq, Nat.reduceBNe, Nat.reduceGT] <;> first | done | (and_intros <;> first | rfl | (simp; done) | omega | (simp [lit, bX, eK, eB, eS, eL]; done) | (simp only [kw, List.length_cons, List.length_nil, List.length_append, List.length_set, List.length_replicate, List.length_map, List.length_take, List.length_drop]; omega))) : p := h
theorem ak {id : Nat} (ms : List Nat) (next : W P y K E' σ') (h : ∀ (k : Env → List OB → Prop) (kp : PV → Env → List OB → Prop), k E' σ' → dA P l.toArray l E σ (fun E σ => k (E.forget ms) σ) kp := by
  intro k kp hk
  refine go ?_
  exact hk) : W P (.seq (.region id l.toArray false) y) K E σ := aY ms fun k kp hk _ => h k kp (hk _ _ next)
theorem bD {id : Nat} (next : K .normal E' σ') (h : ∀ (k : Env → List OB → Prop) (kp : PV → Env → List OB → Prop), k E' σ' → dA P l.toArray l E σ k kp := by
  intro k kp hk
  refine go ?_
  exact hk) : W P (.region id l.toArray false) K E σ := gF fun k kp hk _ => h k kp (hk _ _ next)
theorem wV {id : Nat} (ms : List Nat) (masks : List Nat) (bs : List Bool) (next : W P y K E' σ') (hm : P.follows .mixedOrders = true := by kernel_rfl) (hc : chk l.toArray l masks bs = true := by kernel_rfl)
  (h : ∀ (k : Env → List OB → Prop), k E' σ' → gn P l.toArray l bs E σ (fun E σ => k (E.forget ms) σ) := by
  intro k hk
  refine ga ?_
  exact hk) : W P (.seq (.region id l.toArray true) y) K E σ := nm ms hm masks bs hc fun k hk => h k (hk _ _ next)
theorem bo {F : Prop} (fx : F) {id : Nat} (ms : List Nat) (next : W P y K E' σ') (h : F → ∀ (k : Env → List OB → Prop) (kp : PV → Env → List OB → Prop), k E' σ' → dA P l.toArray l E σ (fun E σ => k (E.forget ms) σ) kp := by
  intro fx k kp hk
  refine gox fx ?_
  exact hk) : W P (.seq (.region id l.toArray false) y) K E σ := aY ms fun k kp hk _ => h fx k kp (hk _ _ next)
theorem pI {F : Prop} (fx : F) {id : Nat} (next : K .normal E' σ') (h : F → ∀ (k : Env → List OB → Prop) (kp : PV → Env → List OB → Prop), k E' σ' → dA P l.toArray l E σ k kp := by
  intro fx k kp hk
  refine gox fx ?_
  exact hk) : W P (.region id l.toArray false) K E σ := gF fun k kp hk _ => h fx k kp (hk _ _ next)
theorem kQ {F : Prop} (fx : F) {id : Nat} (ms : List Nat) (masks : List Nat) (bs : List Bool) (next : W P y K E' σ') (hm : P.follows .mixedOrders = true := by kernel_rfl) (hc : chk l.toArray l masks bs = true := by kernel_rfl)
  (h : F → ∀ (k : Env → List OB → Prop), k E' σ' → gn P l.toArray l bs E σ (fun E σ => k (E.forget ms) σ) := by
  intro fx k hk
  refine gax fx ?_
  exact hk) : W P (.seq (.region id l.toArray true) y) K E σ := nm ms hm masks bs hc fun k hk => h fx k (hk _ _ next)
theorem vO {F : Prop} (fx : F) {id : Nat} (masks : List Nat) (bs : List Bool) (next : K .normal E' σ') (hm : P.follows .mixedOrders = true := by kernel_rfl) (hc : chk l.toArray l masks bs = true := by kernel_rfl)
  (h : F → ∀ (k : Env → List OB → Prop), k E' σ' → gn P l.toArray l bs E σ k := by
  intro fx k hk
  refine gax fx ?_
  exact hk) : W P (.region id l.toArray true) K E σ := sa hm masks bs hc fun k hk => h fx k (hk _ _ next)
theorem lD (hg : fT E σ E1 σ1) (next : W P c K E2 σ2) (h : W P c K E2 σ2 → W P c K E1 σ1 := by
  intro hq
  simp only [bZ, bL, reduceIte, ↓reduceIte, reduceCtorEq, Int.reduceToNat, Nat.reduceDiv, Nat.reduceMod, Nat.reduceLT, Nat.reduceLeDiff, Nat.reduceAdd, Nat.reduceSub, Nat.reduceMul, Nat.reduceEqDiff, Nat.reduceBEq, Nat.reduceBNe, Nat.reduceGT]
  exact hq) : W P c K E σ := fO hg (h next)
theorem sm (next : W P c K E' σ) (h : E = E' := by simp only [bE, Nat.reduceDiv, Nat.reduceMod, Nat.reduceLT, Nat.reduceLeDiff, Nat.reduceAdd, Nat.reduceSub, Nat.reduceMul, Nat.reduceEqDiff, Nat.reduceBEq, Nat.reduceBNe, Nat.reduceGT, Int.reduceToNat]; rfl) : W P c K E σ := mZ h rfl next
theorem aI (next : W P c K E' σ') (h : E = E' := by simp only [bE, Nat.reduceDiv, Nat.reduceMod, Nat.reduceLT, Nat.reduceLeDiff, Nat.reduceAdd, Nat.reduceSub, Nat.reduceMul, Nat.reduceEqDiff, Nat.reduceBEq, Nat.reduceBNe, Nat.reduceGT, Int.reduceToNat]; rfl) (h2 : σ = σ' := by first | (dsimp only; rfl) | rfl) : W P c K E σ := mZ h h2 next
theorem bH (next : W P c K E' σ') (h : E = E' := by simp only [iX, Env.ofList, List.length_nil, List.length_cons, bE, Nat.reduceDiv, Nat.reduceMod, Nat.reduceLT, Nat.reduceLeDiff, Nat.reduceAdd, Nat.reduceSub, Nat.reduceMul, Nat.reduceEqDiff, Nat.reduceBEq, Nat.reduceBNe, Nat.reduceGT, Int.reduceToNat]; rfl) (h2 : σ = σ' := by rfl) : W P c K E σ := mZ h h2 next
theorem uk (next : W P c K E' σ') (h : E = E' := by simp only [bE, Nat.reduceDiv, Nat.reduceMod, Nat.reduceLT, Nat.reduceLeDiff, Nat.reduceAdd, Nat.reduceSub, Nat.reduceMul, Nat.reduceEqDiff, Nat.reduceBEq, Nat.reduceBNe, Nat.reduceGT, Int.reduceToNat, List.length_cons, List.length_nil, List.length_append, List.cons_append, List.nil_append]; rfl) (h2 : σ = σ' := by simp only [List.length_cons, List.length_nil, List.length_append, List.cons_append, List.nil_append]; rfl) : W P c K E σ := mZ h h2 next
theorem jd (σ' : List OB) (next : W P c K E σ') (h : σ = σ' := by first | rfl | (simp only [List.take_of_length_le, List.length_map, List.length_append, List.length_cons, List.length_nil, List.length_replicate, List.length_set, List.map_append, List.map_cons, List.map_nil, List.map_replicate, List.map_set, Nat.le_refl, Nat.zero_add, List.nil_append, List.set_cons_zero, List.set_cons_succ, bX, eK, eB, eS, eL]; done) | (simp only [List.take_of_length_le, List.length_map, List.length_append, List.length_cons, List.length_nil, List.length_replicate, List.length_set, List.map_append, List.map_cons, List.map_nil, List.map_replicate, List.map_set, Nat.le_refl, Nat.zero_add, List.nil_append, List.set_cons_zero, List.set_cons_succ, bX, eK, eB, eS, eL]; rfl) | (simp; done)) : W P c K E σ := mZ rfl h next
theorem RP {γ : Bool} {C : Prop} {f : FuncId} {args : List PV} {o : Oper} {r : List Oper} {res : PV} (hs : γ = true → cz P f args res) (next : gq P ops r (E.putD o.dst ⟨γ, res⟩) σ k kp)
  (hd : cy E o.dst := by first | trivial | exact jY rfl) (hC : γ = true → C := by first | trivial | (intro _; first | trivial | simp [aF]) | simp [aF]) (hargs : args.all PV.noOwn = true := by exact rfl) (hres : res.ren (cT σ.length []) = res := by exact rfl) : ku P ops γ C f args o r E σ k kp := qm hs hd hC hargs hres next
theorem AP {γ : Bool} {C : Prop} {f : FuncId} {args : List PV} {o : Oper} {r : List Oper} {bs : List Bool} {res : PV} (hs : γ = true → cz P f args res) (next : gn P ops r bs.tail (E.putD o.dst ⟨γ, res⟩) σ k)
  (hd : cy E o.dst := by first | trivial | exact jY rfl) (hC : γ = true → C := by first | trivial | (intro _; first | trivial | simp [aF]) | simp [aF]) (hargs : args.all PV.noOwn = true := by exact rfl) (hres : ∀ n, res.ren (cT n []) = res := by exact fun _ => rfl) : jH P ops γ C f args o r bs E σ k := ro hs hd hC hargs hres next
theorem RA {C : Prop} {f : FuncId} {args : List PV} {o : Oper} {r : List Oper} {args' : List PV} {σc : List OB} {post : PV → List OB → Prop} (hs : eZ P f args' σc post (fun _ _ => False)) (ρ : List Nat)
  (next : ∀ p σ', post p σ' → ρ.length ≤ σ'.length → gq P ops r (E.putD o.dst ⟨true, p.ren (cT σ.length ρ)⟩) (cB σ ρ (σ'.map (OB.ren (cT σ.length ρ)))) k kp)
  (hd : cy E o.dst := by first | trivial | exact jY rfl) (hC : C := by first | trivial | (intro _; first | trivial | simp [aF]) | simp [aF]) (hnd : ρ.Nodup := by simp) (hlt : ∀ b ∈ ρ, b < σ.length := by simp)
  (hargs : args = args'.map (PV.ren (cT σ.length ρ)) := by exact rfl) (hσ : ρ.map (fun b => σ[b]?) = σc.map (fun ob => some (ob.ren (cT σ.length ρ))) := by exact rfl) (hu : ii ρ.length args' := by first | trivial | (simp [bX, eK, eB, eS, eL, sc, ii, PV.under, CV.under, cg, OB.under, dD]; done)) (hub : cg ρ.length σc := by first | trivial | (simp [bX, eK, eB, eS, eL, sc, ii, PV.under, CV.under, cg, OB.under, dD]; done)) :
  ku P ops true C f args o r E σ k kp := sh hs ρ hd hC hnd hlt hargs hσ hu hub next (fun _ _ h _ => h.elim)
theorem RS {o : Oper} {r : List Oper} {v : PV} (hx : nO P E σ o v σ') (next : gq P ops r (E.putD o.dst ⟨true, v⟩) σ' k kp) (hg : dC ops E o.guard = some true := by first | rfl | (simp only [bR, bT, tab, bX, reduceIte, ↓reduceIte, reduceCtorEq, Int.reduceToNat, Nat.reduceDiv, Nat.reduceMod, Nat.reduceLT, Nat.reduceLeDiff, Nat.reduceAdd, Nat.reduceSub, Nat.reduceMul, Nat.reduceEqDiff, Nat.reduceBEq, Nat.reduceBNe, Nat.reduceGT]; done)) (hd : cy E o.dst := by first | trivial | exact jY rfl) :
  gq P ops (o :: r) E σ k kp := nP hx hg hd next
end
end Pam
namespace Pam
open Go
def xa (o : Oper) : Bool := match o.op with | .alloc _ => true | _ => false
def kk (o : Oper) : Oper := { dst := none, op := .move (.const (.bool true)), type := o.type, pos := o.pos, after := o.after, guard := o.guard }
def qq (o : Oper) : Oper := match o.op with | .alloc _ => kk o | _ => o
def kl : List Oper → List Oper
 | [] => []
 | [q] => [kk q]
 | o :: o2 :: r => qq o :: kl (o2 :: r)
structure yf (l : List Oper) (ts : List Nat) (bs : List Bool) : Prop where
 bar : bs.getD (l.length - 1) false = true
 pos : 0 < l.length
 al : ∀ (i : Nat) (o : Oper) (T : TypeId), l[i]? = some o → i + 1 < l.length → o.op = .alloc T → o.guard = none ∧ ∃ t, o.dst = some t ∧ t < 512 ∧ t ∈ ts ∧ ∀ (j : Nat) (y : Oper), l[j]? = some y → j ≠ i → y.dst ≠ some t
 last : ∀ (i : Nat) (o : Oper), l[i]? = some o → i + 1 = l.length → o.dst = none ∧ o.guard = none
 ref : ∀ (i : Nat) (o : Oper) (g : Nat) (b : Bool) (y : Oper), l[i]? = some o → o.guard = some (g, b) → l[g]? = some y → ∀ T, y.op ≠ .alloc T
theorem nY : ∀ l : List Oper, (kl l).length = l.length
 | [] => rfl
 | [q] => rfl
 | o :: o2 :: r => by simp only [kl, List.length_cons]; rw [nY (o2 :: r)]; rfl
theorem mI : ∀ (l : List Oper) (i : Nat) (o : Oper), l[i]? = some o → (kl l)[i]? = some (if i + 1 < l.length then qq o else kk o)
 | [], i, o, h => by simp at h
 | [q], 0, o, h => by simp at h; subst h; rfl
 | [q], i + 1, o, h => by simp at h
 | a :: o2 :: r, 0, o, h => by simp at h; subst h; simp [kl]
 | a :: o2 :: r, i + 1, o, h => by
  have := mI (o2 :: r) i o (by simpa using h)
  simp only [kl, List.getElem?_cons_succ, this, List.length_cons]
  congr 1
  by_cases e : i + 1 < r.length + 1
  ·rw [iP e, iP (by omega)]
  ·rw [iN e, iN (by omega)]
theorem nq {o : Oper} (h : ∀ T, o.op ≠ .alloc T) : qq o = o := by
 unfold qq
 split
 ·rename_i T e; exact (h T e).elim
 ·rfl
theorem uo {o : Oper} {T : TypeId} (h : o.op = .alloc T) : qq o = kk o := by unfold qq; rw [h]
theorem tx (o : Oper) : (qq o).after = o.after ∧ (qq o).guard = o.guard := by
 unfold qq
 split <;> exact ⟨rfl, rfl⟩
theorem qP {l : List Oper} {i : Nat} {o' : Oper} (h : (kl l)[i]? = some o') : ∃ o, l[i]? = some o ∧ o' = (if i + 1 < l.length then qq o else kk o) ∧ o'.after = o.after ∧ o'.guard = o.guard := by
 have hlt : i < l.length := by rw [← nY]; exact (List.getElem?_eq_some_iff.1 h).1
 have e := mI l i l[i] (List.getElem?_eq_getElem hlt)
 rw [h] at e
 simp only [sJ] at e
 refine ⟨l[i], List.getElem?_eq_getElem hlt, e, ?_⟩
 rw [e]
 split
 ·exact tx _
 ·exact ⟨rfl, rfl⟩
theorem tz {l : List Oper} {listed : Array Bool} {i : Nat} (h : i ∈ Region.ready .any l.toArray listed) : i ∈ Region.ready .any (kl l).toArray listed := by
 obtain ⟨h1, o, ho, h2⟩ := mem_ready.1 h
 have ho' : l[i]? = some o := by simpa using ho
 have e := mI l i o ho'
 obtain ⟨o2, q1, q2, q3, q4⟩ := qP e
 rw [ho'] at q1
 simp only [sJ] at q1
 subst q1
 refine mem_ready.2 ⟨h1, _, by simpa using e, fun x hx => ?_⟩
 rw [q3] at hx
 exact h2 x hx
section
variable {P : Program}
theorem Oper.wp_put {o : Oper} {a : Act} {w : World} {K : Act → World → Prop} {Q : Exit → Act → World → Prop} (h : o.wp P a w K Q) :
  o.wp P a w (fun a' w' => K a' w' ∧ ∀ t, o.dst ≠ some t → a'.tmps.getD t undef = a.tmps.getD t undef) Q := by
 have key : ∀ (a1 : Act) (v : Value) (t : Nat), a1.tmps = a.tmps → o.dst ≠ some t → (a1.put o.dst v).tmps.getD t undef = a.tmps.getD t undef := by
  intro a1 v t h1 ht
  cases hd : o.dst with
  | none => simp [Act.put, h1]
  | some d =>
   have hne : d ≠ t := fun e => ht (by rw [hd, e])
   simp only [Act.put, Array.getD_eq_getD_getElem?, h1]
   rw [Array.getElem?_setIfInBounds_ne hne]
 unfold Oper.wp at *
 generalize (execOp a.eval o).run P w = r at *
 cases r with
 | ok n w' =>
  cases n <;> simp only [Oper.upon] at h ⊢ <;>
   first
    | exact ⟨h, fun t ht => key _ _ t rfl ht⟩
    | exact Calls.mono h (fun e w'' he => by cases e <;> first | exact ⟨he, fun t ht => key _ _ t rfl ht⟩ | exact he)
    | exact Rows.mono h (fun _ _ he => ⟨he, fun t ht => key _ _ t rfl ht⟩)
 | halt x w' => cases x <;> simp only [Oper.upon] at h ⊢ <;> exact h
theorem sv {ops : Array Oper} {Q : Exit → Act → World → Prop} {i : Nat} {o : Oper} {K : Act → World → Prop} {a : Act} {w : World} (ho : ops[i]? = some o) (h : wpOp P ops Q i K a w) :
  wpOp P ops Q i (fun a' w' => K a' w' ∧ ∀ t, o.dst ≠ some t → a'.tmps.getD t undef = a.tmps.getD t undef) a w := by
 unfold wpOp at *
 simp only [ho] at h ⊢
 split
 ·rename_i hw; simp only [hw, if_true] at h; exact h.imp Oper.wp_put id
 ·rename_i hw
  simp only [hw] at h
  refine ⟨h, fun t ht => ?_⟩
  cases hd : o.dst with
  | none => simp [Act.put]
  | some d =>
   have hne : d ≠ t := fun e => ht (by rw [hd, e])
   simp only [Act.put, Array.getD_eq_getD_getElem?]
   rw [Array.getElem?_setIfInBounds_ne hne]
theorem sw {l : List Oper} {ts : List Nat} {bs : List Bool} (v : yf l ts bs) {i : Nat} {o : Oper} (ho : l[i]? = some o) (tmps : Array Value) :
  Region.wanted o (yielded (kl l).toArray tmps) = Region.wanted o (yielded l.toArray tmps) := by
 unfold Region.wanted
 cases hg : o.guard with
 | none => rfl
 | some gb =>
  obtain ⟨g, b⟩ := gb
  simp only
  have : yielded (kl l).toArray tmps g = yielded l.toArray tmps g := by
   unfold yielded
   simp only [List.getElem?_toArray]
   cases hy : l[g]? with
   | none =>
    have : (kl l)[g]? = none := by
     rw [List.getElem?_eq_none_iff] at hy ⊢
     rw [nY]; exact hy
    rw [this]
   | some y =>
    rw [mI l g y hy]
    by_cases e : g + 1 < l.length
    ·rw [iP e, nq (v.ref i o g b y ho hg hy)]
    ·rw [iN e]
     have := (v.last g y hy (by have := (List.getElem?_eq_some_iff.1 hy).1; omega)).1
     simp [kk, this]
  rw [this]
theorem u4 {l : List Oper} {ts : List Nat} {bs : List Bool} (v : yf l ts bs) {Q : Exit → Act → World → Prop} {i : Nat} {o : Oper} {K : Act → World → Prop} {a : Act} {w : World} (ho : l[i]? = some o) (hi : i + 1 < l.length) (hn : ∀ T, o.op ≠ .alloc T)
  (h : wpOp P (kl l).toArray Q i K a w) : wpOp P l.toArray Q i (fun a' w' => K a' w' ∧ ∀ t, o.dst ≠ some t → a'.tmps.getD t undef = a.tmps.getD t undef) a w := by
 have e := mI l i o ho
 rw [iP hi, nq hn] at e
 have h' := sv (o := o) (by simpa using e) h
 unfold wpOp at h' ⊢
 simp only [List.getElem?_toArray, e, ho, sw v ho] at h' ⊢
 exact h'
theorem Inv.aside {G : Gh} {σ : List OB} {w : World} (hi : Inv G σ w) (x : Obj) : Inv { G with F := fun b => if b = w.heap.size then some x else G.F b } σ (w.alloc x) := by
 have old : ∀ b, b < w.heap.size → (w.alloc x).heap[b]? = w.heap[b]? := fun b hb => heap_alloc_old w _ hb
 constructor
 ·intro b y h; rw [old b (bU (hi.hH b y h))]; exact hi.hH b y h
 ·intro b y h
  simp only at h
  by_cases e : b = w.heap.size
  ·rw [iP e] at h; rw [e, ← h]; exact heap_alloc_new w _
  ·rw [iN e] at h; rw [old b (bU (hi.hF b y h))]; exact hi.hF b y h
 ·intro b y h
  simp only at h ⊢
  by_cases e : b = w.heap.size
  ·cases hx : G.H b with
   | none => rfl
   | some z => have := bU (hi.hH _ _ hx); omega
  ·rw [iN e] at h; exact hi.HF b y h
 ·exact hi.len
 ·intro b ob h
  exact (hi.own b ob h).keep (fun _ _ h => h) (bl.refl _) rfl fun o ho hh => old _ (lm hi ho hh)
 ·exact hi.inj
 ·intro b o h hh
  have := lm hi h hh
  refine ⟨(hi.sep b o h hh).1, ?_⟩
  simp only
  rw [iN (by omega)]
  exact (hi.sep b o h hh).2
 ·exact hi.os
 ·exact hi.tape
 ·exact hi.output
 ·exact Nat.le_trans hi.grow (by simp)
theorem Inv.gain {G : Gh} {σ : List OB} {w : World} (hi : Inv G σ w) {blk : Nat} {cs : List CV} {c : Array Value} {T : TypeId} (hA : w.heap[blk]? = some (.cells c T)) (hB : G.H blk = none) (hC : G.F blk = none)
  (hD : ∀ (b : Nat) (o : OG), G.own[b]? = some (some o) → o.has = true → o.blk ≠ blk) (h : aL (Rep G) cs c.toList) : Inv { G with own := G.own ++ [some ⟨blk, 0, 0, 0, true⟩] } (σ ++ [.box cs]) w := by
 have hle : bl G.own (G.own ++ [some ⟨blk, 0, 0, 0, true⟩]) := bl.append _ _
 have split : ∀ (b : Nat) (o' : OG), (G.own ++ [some (⟨blk, 0, 0, 0, true⟩ : OG)])[b]? = some (some o') → (b < G.own.length ∧ G.own[b]? = some (some o')) ∨ (b = G.own.length ∧ o' = ⟨blk, 0, 0, 0, true⟩) := by
  intro b o' h
  rcases Nat.lt_or_ge b G.own.length with hb | hb
  ·rw [List.getElem?_append_left hb] at h; exact .inl ⟨hb, h⟩
  ·rw [List.getElem?_append_right hb] at h
   rcases Nat.eq_zero_or_pos (b - G.own.length) with e | e
   ·rw [e] at h; simp at h; exact .inr ⟨by omega, h.symm⟩
   ·rw [List.getElem?_eq_none (by simp; omega)] at h; cases h
 constructor
 ·exact hi.hH
 ·exact hi.hF
 ·exact hi.HF
 ·simp [hi.len]
 ·intro b ob' h'
  rcases Nat.lt_or_ge b σ.length with hb | hb
  ·rw [List.getElem?_append_left hb] at h'
   refine (hi.own b ob' h').keep (fun _ _ h => h) hle ?_ fun o' ho' hh => rfl
   exact List.getElem?_append_left (by rw [hi.len]; exact hb)
  ·rw [List.getElem?_append_right hb] at h'
   rcases Nat.eq_zero_or_pos (b - σ.length) with e | e
   ·rw [e] at h'; simp at h'
    have : b = σ.length := by omega
    subst this; subst h'
    refine ⟨⟨blk, 0, 0, 0, true⟩, c, T, ?_, rfl, rfl, hA, aL.mono (R := Rep G) (fun _ _ hr => Rep.mono (G := G) (G' := { G with own := G.own ++ [some ⟨blk, 0, 0, 0, true⟩] }) (fun _ _ h => h) hle hr) h⟩
    show (G.own ++ _)[σ.length]? = _
    rw [← hi.len]; simp
   ·rw [List.getElem?_eq_none (by simp; omega)] at h'; cases h'
 ·intro b b' o1 o2 h1 h2 hh1 hh2 he
  rcases split b o1 h1 with ⟨hb, g1⟩ | ⟨hb, g1⟩ <;> rcases split b' o2 h2 with ⟨hb', g2⟩ | ⟨hb', g2⟩
  ·exact hi.inj b b' o1 o2 g1 g2 hh1 hh2 he
  ·exact (hD b o1 g1 hh1 (by rw [he, g2])).elim
  ·exact (hD b' o2 g2 hh2 (by rw [← he, g1])).elim
  ·omega
 ·intro b o1 h1 hh1
  rcases split b o1 h1 with ⟨hb, h1⟩ | ⟨hb, rfl⟩
  ·exact hi.sep b o1 h1 hh1
  ·exact ⟨hB, hC⟩
 ·exact hi.os
 ·exact hi.tape
 ·exact hi.output
 ·exact hi.grow
theorem Inv.less {G : Gh} {σ : List OB} {w : World} (hi : Inv G σ w) (F : Nat → Option Obj) (h : ∀ b x, F b = some x → G.F b = some x) : Inv { G with F := F } σ w := by
 constructor
 ·exact hi.hH
 ·exact fun b x e => hi.hF b x (h b x e)
 ·exact fun b x e => hi.HF b x (h b x e)
 ·exact hi.len
 ·exact fun b ob e => (hi.own b ob e).keep (fun _ _ h => h) (bl.refl _) rfl fun _ _ _ => rfl
 ·exact hi.inj
 ·intro b o e hh
  refine ⟨(hi.sep b o e hh).1, ?_⟩
  show F o.blk = none
  cases hx : F o.blk with
  | none => rfl
  | some x => have := h _ _ hx; rw [(hi.sep b o e hh).2] at this; cases this
 ·exact hi.os
 ·exact hi.tape
 ·exact hi.output
 ·exact hi.grow
def zF (P : Program) (l : List Oper) (G0 G1 : Gh) (listed : Array Bool) (a : Act) : Prop :=
 G1.H = G0.H ∧ G1.own = G0.own ∧ G1.w0 = G0.w0 ∧ G1.na = G0.na ∧ (∀ b x, G0.F b = some x → G1.F b = some x) ∧
 ∃ pb : Nat → Nat,
  (∀ (i j : Nat) (o o' : Oper) (T T' : TypeId), l[i]? = some o → l[j]? = some o' → i + 1 < l.length → j + 1 < l.length → o.op = .alloc T → o'.op = .alloc T' → listed.getD i false = true → listed.getD j false = true → pb i = pb j → i = j) ∧
  ∀ (i : Nat) (o : Oper) (T : TypeId) (t : Nat), l[i]? = some o → i + 1 < l.length → o.op = .alloc T → o.dst = some t → listed.getD i false = true →
   a.tmps.getD t undef = .pointer (some ⟨pb i, 0, none⟩) ∧ G0.F (pb i) = none ∧ ∃ inf u, P.info? T = some inf ∧ inf.zero = some u ∧ G1.F (pb i) = some (.cells u.cells T)
def StA (P : Program) (l : List Oper) (tr : List TS) (E : Env) (σ : List OB) (G0 : Gh) (listed : Array Bool) (a : Act) (w : World) : Prop :=
 ∃ G1, zF P l G0 G1 listed a ∧ StJ (kl l) tr E σ G1 listed a w
theorem jK {l : List Oper} {listed : Array Bool} (hsz : listed.size = l.length) {i : Nat} (hi : i ∈ Region.ready .any l.toArray listed) : listed.getD i false = false ∧ i < l.length ∧ ∃ o, l[i]? = some o ∧ ∀ j ∈ dj o, listed.getD j false = true := by
 obtain ⟨hun, o, ho', hdeps⟩ := mem_ready.1 hi
 have ho : l[i]? = some o := by simpa using ho'
 have hil : i < l.length := (List.getElem?_eq_some_iff.1 ho).1
 refine ⟨?_, hil, o, ho, fun j hj => ?_⟩
 ·rw [Array.getD_eq_getD_getElem?] at hun ⊢
  rw [Array.getElem?_eq_getElem (by omega)] at hun ⊢
  simpa using hun
 ·simp only [dj, List.mem_map, List.mem_filter] at hj
  obtain ⟨e, ⟨h1, h2⟩, rfl⟩ := hj
  exact hdeps e (by simpa using h1) h2
theorem StA.step {l : List Oper} {ts : List Nat} {bs : List Bool} {masks : List Nat} {E : Env} {σ : List OB} {tr : List TS} (c : Chk (kl l).toArray (kl l) masks bs) (v : yf l ts bs) (ht : lN P (kl l).toArray (kl l) bs E σ tr)
  (hE : ∀ t ∈ ts, (E.get t).cond = false) (hz : ∀ (i : Nat) (o : Oper) (T : TypeId), l[i]? = some o → i + 1 < l.length → o.op = .alloc T → (∃ z, iv P T = some z) ∧ cy E o.dst) (G0 : Gh) {Q : Exit → Act → World → Prop} (listed : Array Bool) (a : Act) (w : World) (i : Nat)
  (hJ : StA P l tr E σ G0 listed a w) (hi : i ∈ Region.ready .any l.toArray listed) (hlt : i + 1 < l.length) : wpOp P l.toArray Q i (StA P l tr E σ G0 (listed.setIfInBounds i true)) a w := by
 obtain ⟨G1, ⟨p1, p2, p3, p4, p5, pb, p6, p7⟩, hS⟩ := hJ
 have hsz : listed.size = l.length := by rw [hS.1, nY]
 obtain ⟨hi0, hil, o, ho, hr⟩ := jK hsz hi
 have hset : ∀ j, (listed.setIfInBounds i true).getD j false = if j = i then true else listed.getD j false := fun j => tm _ _ _ (by omega)
 by_cases hn : ∀ T, o.op ≠ .alloc T
 ·have h1 := StJ.step (Q := Q) c ht G1 listed a w i hS (tz hi)
  refine wpOp_mono (fun a' w' h => ?_) (u4 v ho hlt hn h1)
  obtain ⟨h2, h3⟩ := h
  refine ⟨G1, ⟨p1, p2, p3, p4, p5, pb, ?_, ?_⟩, h2⟩
  ·intro j k y y' T T' hy hy' hj hk hop hop' hl hl'
   rw [hset] at hl hl'
   have nj : j ≠ i := fun e => by subst e; rw [ho] at hy; simp only [sJ] at hy; subst hy; exact hn T hop
   have nk : k ≠ i := fun e => by subst e; rw [ho] at hy'; simp only [sJ] at hy'; subst hy'; exact hn T' hop'
   rw [iN nj] at hl
   rw [iN nk] at hl'
   exact p6 j k y y' T T' hy hy' hj hk hop hop' hl hl'
  ·intro j y T t hy hj hop hd hl
   rw [hset] at hl
   have nj : j ≠ i := fun e => by subst e; rw [ho] at hy; simp only [sJ] at hy; subst hy; exact hn T hop
   rw [iN nj] at hl
   obtain ⟨q1, q2⟩ := p7 j y T t hy hj hop hd hl
   obtain ⟨_, t', g1, _, _, g4⟩ := v.al j y T hy hj hop
   rw [hd] at g1
   simp only [sJ] at g1
   subst g1
   exact ⟨(h3 t (g4 i o ho (fun e => nj e.symm))).trans q1, q2⟩
 ·obtain ⟨T, hop⟩ : ∃ T, o.op = .alloc T := Classical.byContradiction fun h => hn fun T e => h ⟨T, e⟩
  obtain ⟨hg, t, hd, ht512, hts, huniq⟩ := v.al i o T ho hlt hop
  obtain ⟨⟨z, hzT⟩, hdok⟩ := hz i o T ho hlt hop
  obtain ⟨hsz', hcl, G, p, hG, hp, hloud, hinv, hdef, htm, hna, hslot⟩ := hS
  obtain ⟨inf, u, e1, e2, e3, e4, _, e5⟩ := gK G hzT
  have hFG : G.F = G1.F := hG.le.F
  have hvi := mI l i o ho
  rw [iP hlt, uo hop] at hvi
  have hrun : (execOp a.eval o).run P w = .ok (.value (.pointer (some ⟨w.heap.size, 0, none⟩))) (w.alloc (.cells u.cells T)) := by
   simp [execOp, hop, Instr.alloc, gJ e1 e2, newVar, newRow]
  unfold wpOp
  simp only [List.getElem?_toArray, ho]
  rw [iP (by unfold Region.wanted; rw [hg])]
  left
  unfold Oper.wp
  rw [hrun]
  show StA P l tr E σ G0 (listed.setIfInBounds i true) (a.put o.dst _) _
  rw [hd]
  have hfree : ∀ j y, l[j]? = some y → j + 1 < l.length → (∃ T, y.op = .alloc T) → listed.getD j false = true → pb j ≠ w.heap.size := by
   intro j y hy hj ⟨T', hop'⟩ hl e
   obtain ⟨_, t', g1, _⟩ := v.al j y T' hy hj hop'
   obtain ⟨_, _, _, _, _, _, q⟩ := p7 j y T' t' hy hj hop' g1 hl
   rw [← hFG] at q
   have := bU (hinv.hF _ _ q)
   omega
  have hput : ∀ t', t' ≠ t → (a.put (some t) (.pointer (some ⟨w.heap.size, 0, none⟩))).tmps.getD t' undef = a.tmps.getD t' undef := by
   intro t' hne
   simp only [Act.put, Array.getD_eq_getD_getElem?]
   rw [Array.getElem?_setIfInBounds_ne (Ne.symm hne)]
  refine ⟨{ G1 with F := fun b => if b = w.heap.size then some (.cells u.cells T) else G1.F b }, ⟨p1, p2, p3, p4, ?_, fun j => if j = i then w.heap.size else pb j, ?_, ?_⟩, ?_⟩
  ·intro b x hb
   have h1 := p5 b x hb
   simp only
   rw [iN]
   ·exact h1
   ·intro e
    rw [← hFG] at h1
    have := bU (hinv.hF _ _ h1)
    omega
  ·intro j k y y' T1 T2 hy hy' hj hk hop1 hop2 hl hl' he
   rw [hset] at hl hl'
   simp only at he
   by_cases nj : j = i <;> by_cases nk : k = i
   ·omega
   ·rw [iP nj, iN nk] at he; rw [iN nk] at hl'
    exact (hfree k y' hy' hk ⟨T2, hop2⟩ hl' he.symm).elim
   ·rw [iN nj, iP nk] at he; rw [iN nj] at hl
    exact (hfree j y hy hj ⟨T1, hop1⟩ hl he).elim
   ·rw [iN nj, iN nk] at he; rw [iN nj] at hl; rw [iN nk] at hl'
    exact p6 j k y y' T1 T2 hy hy' hj hk hop1 hop2 hl hl' he
  ·intro j y T' t' hy hj hop' hd' hl
   rw [hset] at hl
   by_cases nj : j = i
   ·subst nj
    rw [ho] at hy
    simp only [sJ] at hy
    subst hy
    rw [hd] at hd'
    simp only [sJ] at hd'
    subst hd'
    rw [hop] at hop'
    simp only [Op.alloc.injEq] at hop'
    subst hop'
    simp only [if_true]
    refine ⟨?_, ?_, inf, u, e1, e2, ?_⟩
    ·have : t < a.tmps.size := by
      rw [htm]
      rw [hd] at hdok
      exact hdok
     simp [Act.put, Array.getD, this]
    ·cases hx : G0.F w.heap.size with
     | none => rfl
     | some x =>
      have h1 := p5 _ _ hx
      rw [← hFG] at h1
      have := bU (hinv.hF _ _ h1)
      omega
    ·simp
   ·rw [iN nj] at hl
    obtain ⟨q1, q2, inf', u', q3, q4, q5⟩ := p7 j y T' t' hy hj hop' hd' hl
    simp only [iN nj]
    have hne : t' ≠ t := fun e => huniq j y hy nj (by rw [hd', e])
    refine ⟨(hput t' hne).trans q1, q2, inf', u', q3, q4, ?_⟩
    rw [iN (hfree j y hy hj ⟨T', hop'⟩ hl)]
    exact q5
  ·refine ⟨by simpa using hsz', ?_, { G with F := fun b => if b = w.heap.size then some (.cells u.cells T) else G1.F b }, p, ⟨⟨hG.le.H, rfl, hG.le.w0, hG.le.na⟩, hG.own⟩, hp, ?_, ?_, hdef, by simpa [Act.put] using htm, hna, ?_⟩
   ·intro k ok hk hdn j hj
    simp only at hdn ⊢
    rw [hset] at hdn ⊢
    by_cases e : k = i
    ·subst e; rw [hvi] at hk; simp only [sJ] at hk; subst hk
     by_cases e' : j = k
     ·rw [iP e']
     ·rw [iN e']; exact hr j hj
    ·rw [iN e] at hdn
     by_cases e' : j = i
     ·rw [iP e']
     ·rw [iN e']; exact hcl k ok hk hdn j hj
   ·intro j y hy hly
    rw [hset]
    by_cases e : j = i
    ·subst e; rw [hvi] at hy; simp only [sJ] at hy; subst hy; simp [e8, kk] at hly
    ·rw [iN e]; exact hloud j y hy hly
   ·have := hinv.aside (.cells u.cells T)
    rw [hFG] at this
    exact this
   ·intro t' ht' hc
    have hfun : (fun k => (listed.setIfInBounds i true).getD k false) = (fun k => if k = i then true else listed.getD k false) := by
     funext k; exact hset k
    rw [hfun] at hc ⊢
    rw [kv t' (kl l) tr _ _ i _ hvi (by simp [kk])] at hc ⊢
    by_cases e : t' = t
    ·subst e
     have hno : ∀ (j : Nat) (y : Oper), (kl l)[j]? = some y → y.dst = some t' → False := by
      intro j y hy hyd
      obtain ⟨y0, g1, g2, _⟩ := qP hy
      by_cases ej : j + 1 < l.length
      ·rw [iP ej] at g2
       by_cases ha : ∀ T, y0.op ≠ .alloc T
       ·rw [nq ha] at g2
        subst g2
        by_cases eji : j = i
        ·subst eji; rw [ho] at g1; simp only [sJ] at g1; subst g1; exact ha T hop
        ·exact huniq j y g1 eji hyd
       ·obtain ⟨T', ha⟩ : ∃ T, y0.op = .alloc T := Classical.byContradiction fun h => ha fun T e => h ⟨T, e⟩
        rw [uo ha] at g2
        subst g2
        cases hyd
      ·rw [iN ej] at g2
       subst g2
       cases hyd
     have hk : eO t' (kl l) tr (fun k => listed.getD k false) (E.get t') = E.get t' := by
      rw [e9 t' (kl l) tr _ (fun _ => false) _ (fun j y hy hyd => (hno j y hy hyd).elim)]
      exact jg t' (kl l) tr _ _ fun _ _ _ _ => rfl
     rw [hk, hE t' hts] at hc
     cases hc
    ·rw [hput t' e]
     exact aR.mono (fun _ _ h => h) (bl.refl _) (hslot t' ht' hc)
theorem tA : ∀ (ts : List Nat) (E : Env) (t : Nat), (∀ x ∈ ts, x < 512) → t ∈ ts → ((E.forget ts).get t).cond = false := by
 have keep : ∀ (ts : List Nat) (E : Env) (t : Nat), (E.get t).cond = false → ((E.forget ts).get t).cond = false := by
  intro ts
  induction ts with
  | nil => intro E t h; exact h
  | cons i r ih =>
   intro E t h
   refine ih (E.erase i) t ?_
   cases hc : ((E.erase i).get t).cond with
   | false => rfl
   | true => have := Env.erase_get E i t hc; rw [this, h] at hc; cases hc
 have zap : ∀ (E : Env) (i : Nat), i < 512 → ((E.erase i).get i).cond = false := by
  intro E i h
  unfold Env.erase Env.get
  simp only
  have hb : i / 64 < 8 := by omega
  rw [Tr.get_put _ _ _ _ hb, iP rfl, Tr.get_put _ _ _ _ (Nat.mod_lt _ (by decide)), iP rfl, Tr.get_put _ _ _ _ (Nat.mod_lt _ (by decide)), iP rfl]
  simp [Tr.ent]
 intro ts
 induction ts with
 | nil => intro E t _ h; simp at h
 | cons i r ih =>
  intro E t hx h
  by_cases e : t ∈ r
  ·exact ih (E.erase i) t (fun x hx' => hx x (by simp [hx'])) e
  ·have : t = i := by simpa [e] using h
   subst this
   exact keep r _ t (zap E t (hx t (by simp)))
theorem yg (E : Env) (d : Option Tmp) (e : Ent) : (E.putD d e).n = E.n := by cases d <;> rfl
theorem up {E E' : Env} (h : E.n = E'.n) {d : Option Tmp} (hd : cy E d) : cy E' d := by
 cases d with
 | none => trivial
 | some d => show d < E'.n; rw [← h]; exact hd
theorem u5 {ops : Array Oper} {Q : Exit → Act → World → Prop} {listed : Array Bool} (hr : Region.ready .any ops listed = []) : ∀ (fuel : Nat) (a : Act) (w : World), Q .normal a w → wpAny P .any ops Q fuel listed a w
 | 0, a, w, h => ⟨hr, h⟩
 | fuel + 1, a, w, h => ⟨fun _ => h, fun i hi => by rw [hr] at hi; simp at hi⟩
end
end Pam
