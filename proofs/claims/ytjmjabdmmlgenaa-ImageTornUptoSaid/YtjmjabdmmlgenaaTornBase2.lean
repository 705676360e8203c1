/- Regions whose order Go leaves open: evaluated in the order of the text, where the edges allow it. -/
import Derived.Test.YtjmjabdmmlgenaaTornBase1
import Derived.Laws.Runes
import Derived.Laws.BytesArg
import Derived.Lib.ConvBytes
import Derived.Recover
set_option linter.all false
namespace Pam
open Go
theorem Env.get_put' (E : Env) (i j : Nat) (e : Ent) (h : i < 512) : (E.put i e).get j = if j = i then e else E.get j := by
  unfold Env.get Env.put
  simp only
  have hb : i / 64 < 8 := by omega
  rw [Tr.get_put _ _ _ _ hb]
  by_cases e1 : j / 64 = i / 64
  · rw [iP e1, Tr.get_put _ _ _ _ (Nat.mod_lt _ (by decide))]
    by_cases e2 : j / 8 % 8 = i / 8 % 8
    · rw [iP e2, Tr.get_put _ _ _ _ (Nat.mod_lt _ (by decide))]
      by_cases e3 : j % 8 = i % 8
      · have : j = i := by omega
        subst this
        simp [Tr.ent]
      · have : j ≠ i := by omega
        rw [iN e3, iN this, e1, e2]
    · have : j ≠ i := by omega
      rw [iN e2, iN this, e1]
  · have : j ≠ i := by omega
    rw [iN e1, iN this]
theorem Env.get_big (E : Env) (i : Nat) (h : 512 ≤ i) : (E.get i).cond = false := by
  unfold Env.get
  rw [Tr.get_big E.t (i / 64) (by omega)]
  simp [Tr.get, Tr.ent]
def di (o : Oper) : Bool :=
  match o.op with
  | .move _ | .assign _ | .pick .. | .load .. | .nilCheck _ | .binOp .. | .unOp .. | .convert .. | .fieldAddr .. | .field .. | .indexAddr .. | .index .. | .extract .. | .slice .. | .build .. | .makeFunc .. => false
  | .call c => (match c.callee with | .builtin .len | .builtin .min | .builtin .max => false | _ => true)
  | _ => true
def dy (o : Oper) : List Nat := (o.after.toList.filter (Region.binds .any)).map (·.on)
def orM (masks : List Nat) : List Nat → Nat
  | [] => 0
  | j :: r => (2 ^ j ||| masks.getD j 0) ||| orM masks r
theorem iU (masks : List Nat) (k : Nat) : ∀ l, (orM masks l).testBit k = true → ∃ j ∈ l, j = k ∨ (masks.getD j 0).testBit k = true
  | [], h => by simp [orM] at h
  | j :: r, h => by
    simp only [orM, Nat.testBit_or, Bool.or_eq_true, Nat.testBit_two_pow] at h
    rcases h with (h | h) | h
    · exact ⟨j, by simp, .inl (by simpa using h)⟩
    · exact ⟨j, by simp, .inr h⟩
    · obtain ⟨j', h1, h2⟩ := iU masks k r h
      exact ⟨j', by simp [h1], h2⟩
def m9 (ops : Array Oper) (x y : Oper) : Bool :=
  match x.dst with
  | none => false
  | some d => (y.looksAt ops).contains d || y.dst == some d
def fc (masks : List Nat) (i j : Nat) : Bool := i == j || (masks.getD i 0).testBit j || (masks.getD j 0).testBit i
def chk (ops : Array Oper) (l : List Oper) (masks : List Nat) (bar : List Bool) : Bool :=
  (l.zipIdx.all fun (o, i) => masks.getD i 0 == orM masks (dy o) && (dy o).all (· < i) &&
    (match o.dst with | some d => decide (d < 512) | none => true) && (o.looksAt ops).all (· < 512)) &&
  (l.zipIdx.all fun (x, i) => l.zipIdx.all fun (y, j) => (!(di x && di y) || fc masks i j) && (!(m9 ops x y) || fc masks i j) && (!(bar.getD i false) || fc masks i j))
structure TS where
  γ : Bool
  e : Ent
  σ : List OB
def Ext (σ σ' : List OB) : Prop := ∃ ρ, σ' = σ ++ ρ
def ja (P : Program) (σ : List OB) (f : FuncId) (args : List PV) (p : PV) (σ2 : List OB) : Prop :=
  ∃ (args' : List PV) (σc : List OB) (post pp : PV → List OB → Prop) (ρ : List Nat), fw P f args' σc post pp ∧ ρ.Nodup ∧ (∀ b ∈ ρ, b < σ.length) ∧ args = args'.map (PV.ren (cm σ.length ρ)) ∧
    ρ.map (fun b => σ[b]?) = σc.map (fun ob => some (ob.ren (cm σ.length ρ))) ∧ aB ρ.length args' ∧ aj ρ.length σc ∧
    (∀ q τ, post q τ → ρ.length ≤ τ.length → q.ren (cm σ.length ρ) = p ∧ bn σ ρ (τ.map (OB.ren (cm σ.length ρ))) = σ2) ∧ (∀ q τ, pp q τ → False)
def nN (P : Program) (ops : Array Oper) (E : Env) (σ : List OB) (o : Oper) (bar : Bool) (ts : TS) : Prop :=
  cn ops E o.guard = some ts.γ ∧ cZ E o.dst ∧
  ((∃ C v, aH P ts.γ E σ o.op = .ok C v ∧ C ∧ ts.e = ⟨ts.γ, v⟩ ∧ ts.σ = σ) ∨
   (ts.γ = true ∧ ∃ C v, aH P ts.γ E σ o.op = .upd C v ts.σ ∧ C ∧ ts.e = ⟨true, v⟩ ∧ (bar = true ∨ Ext σ ts.σ)) ∨
   (∃ C f args r, aH P ts.γ E σ o.op = .call C f args ∧ (ts.γ = true → C ∧ ee P f args r) ∧ args.all PV.noOwn = true ∧ (∀ n, r.ren (cm n []) = r) ∧ ts.e = ⟨ts.γ, r⟩ ∧ ts.σ = σ) ∨
   (ts.γ = false ∧ ts.e = ⟨true, .t []⟩ ∧ ts.σ = σ) ∨
   (ts.γ = true ∧ ∃ C f args p, aH P ts.γ E σ o.op = .call C f args ∧ C ∧ ja P σ f args p ts.σ ∧ ts.e = ⟨true, p⟩ ∧ (bar = true ∨ Ext σ ts.σ)) ∨
   (ts.γ = true ∧ di o = true ∧ ∃ v, (∀ E', (∀ x ∈ o.op.operands, ev E' x = ev E x) → ∀ G a w, Sim G E' σ a w → kW P G (execOp a.eval o) w v ts.σ) ∧ ts.e = ⟨true, v⟩ ∧ (bar = true ∨ Ext σ ts.σ)))
def jo (P : Program) (ops : Array Oper) : List Oper → List Bool → Env → List OB → List TS → Prop
  | [], _, _, _, tr => tr = []
  | o :: l, bs, E, σ, tr => ∃ ts r, tr = ts :: r ∧ nN P ops E σ o (bs.headD false) ts ∧ jo P ops l bs.tail (E.putD o.dst ts.e) ts.σ r
def bC (E : Env) : List Oper → List TS → Nat → Env
  | o :: l, ts :: tr, k + 1 => bC (E.putD o.dst ts.e) l tr k
  | _, _, _ => E
def av (σ : List OB) : List TS → Nat → List OB
  | ts :: tr, k + 1 => av ts.σ tr k
  | _, _ => σ
def da (t : Tmp) : List Oper → List TS → (Nat → Bool) → Ent → Ent
  | o :: l, ts :: tr, d, e => da t l tr (fun j => d (j + 1)) (if d 0 = true ∧ o.dst = some t then ts.e else e)
  | _, _, _, e => e
section
variable {P : Program} {ops : Array Oper}
theorem jo.at : ∀ {l : List Oper} {bs : List Bool} {E : Env} {σ : List OB} {tr : List TS}, jo P ops l bs E σ tr → tr.length = l.length ∧
    ∀ (i : Nat) (o : Oper), l[i]? = some o → ∃ ts, tr[i]? = some ts ∧ nN P ops (bC E l tr i) (av σ tr i) o (bs.getD i false) ts ∧ av σ tr (i + 1) = ts.σ
  | [], bs, E, σ, tr, h => by simp only [jo] at h; subst h; exact ⟨rfl, fun i o h => by simp at h⟩
  | o :: l, bs, E, σ, tr, h => by
    obtain ⟨ts, r, rfl, h1, h2⟩ := h
    obtain ⟨h3, h4⟩ := jo.at h2
    refine ⟨by simp [h3], fun i o' ho => ?_⟩
    cases i with
    | zero =>
      simp only [List.getElem?_cons_zero, sJ] at ho
      subst ho
      refine ⟨ts, rfl, ?_, ?_⟩
      · cases bs <;> exact h1
      · cases r <;> rfl
    | succ i =>
      obtain ⟨ts', k1, k2, k3⟩ := h4 i o' (by simpa using ho)
      refine ⟨ts', by simpa using k1, ?_, ?_⟩
      · cases bs <;> simpa [bC, av] using k2
      · simpa [av] using k3
theorem eg (t : Tmp) : ∀ (l : List Oper) (tr : List TS) (d d' : Nat → Bool) (e : Ent), (∀ j o, l[j]? = some o → o.dst = some t → d j = d' j) → da t l tr d e = da t l tr d' e
  | [], tr, d, d', e, _ => by simp [da]
  | o :: l, [], d, d', e, _ => by simp [da]
  | o :: l, ts :: tr, d, d', e, h => by
    simp only [da]
    have : (if d 0 = true ∧ o.dst = some t then ts.e else e) = (if d' 0 = true ∧ o.dst = some t then ts.e else e) := by
      by_cases ho : o.dst = some t
      · rw [h 0 o (by simp) ho]
      · simp [ho]
    rw [this]
    exact eg t l tr _ _ _ fun j o' hj hd => h (j + 1) o' (by simpa using hj) hd
theorem iA (t : Tmp) (l : List Oper) (tr : List TS) (d : Nat → Bool) (e : Ent) (h : ∀ j o, l[j]? = some o → o.dst = some t → d j = false) : da t l tr d e = e := by
  rw [eg t l tr d (fun _ => false) e h]
  clear h
  induction l generalizing tr e with
  | nil => simp [da]
  | cons o l ih =>
    cases tr with
    | nil => simp [da]
    | cons ts tr => simp only [da]; rw [ih]; simp
theorem kA (t : Tmp) : ∀ (l : List Oper) (tr : List TS) (d : Nat → Bool) (e : Ent) (i : Nat) (o : Oper) (ts : TS), l[i]? = some o → tr[i]? = some ts → o.dst = some t →
    (∀ j o', l[j]? = some o' → o'.dst = some t → i < j → d j = false) → da t l tr (fun j => if j = i then true else d j) e = ts.e
  | [], tr, d, e, i, o, ts, h, _, _, _ => by simp at h
  | x :: l, [], d, e, i, o, ts, _, h, _, _ => by simp at h
  | x :: l, y :: tr, d, e, i, o, ts, h1, h2, h3, h4 => by
    simp only [da]
    cases i with
    | zero =>
      simp only [List.getElem?_cons_zero, sJ] at h1 h2
      subst h1; subst h2
      rw [iA]
      · simp [h3]
      · intro j o' hj hd
        simp only [Nat.add_eq_zero_iff, Nat.one_ne_zero, and_false, if_false]
        exact h4 (j + 1) o' (by simpa using hj) hd (by omega)
    | succ i =>
      have := kA t l tr (fun j => d (j + 1)) (if (if 0 = i + 1 then true else d 0) = true ∧ x.dst = some t then y.e else e) i o ts (by simpa using h1) (by simpa using h2) h3
        (fun j o' hj hd hij => h4 (j + 1) o' (by simpa using hj) hd (by omega))
      rw [← this]
      apply eg
      intro j o' _ _
      simp
theorem lD (t : Tmp) (l : List Oper) (tr : List TS) (d : Nat → Bool) (e : Ent) (i : Nat) (o : Oper) (h : l[i]? = some o) (hd : o.dst ≠ some t) : da t l tr (fun j => if j = i then true else d j) e = da t l tr d e := by
  apply eg
  intro j o' hj hdj
  by_cases e : j = i
  · subst e; rw [h] at hj; simp only [sJ] at hj; subst hj; exact (hd hdj).elim
  · simp [e]
theorem nO (E : Env) (d : Option Tmp) (e : Ent) (t : Tmp) (h : ∀ x, d = some x → x < 512) : (E.putD d e).get t = if d = some t then e else E.get t := by
  cases d with
  | none => simp [Env.putD]
  | some x =>
    simp only [Env.putD]
    rw [Env.get_put' E x t e (h x rfl)]
    by_cases he : t = x
    · subst he; simp
    · have : x ≠ t := fun h => he h.symm
      simp [he, this]
theorem jb (t : Tmp) : ∀ (l : List Oper) (tr : List TS) (E : Env) (k : Nat), (∀ (j : Nat) (o : Oper) (x : Nat), l[j]? = some o → o.dst = some x → x < 512) → tr.length = l.length → (bC E l tr k).get t = da t l tr (fun j => decide (j < k)) (E.get t)
  | [], tr, E, k, _, _ => by cases k <;> simp [bC, da]
  | o :: l, [], E, k, _, h => by simp at h
  | o :: l, ts :: tr, E, 0, _, _ => by
    simp only [bC]
    rw [iA]
    intro j o' _ _; simp
  | o :: l, ts :: tr, E, k + 1, hx, h => by
    simp only [bC, da]
    rw [jb t l tr _ k (fun j o' x hj hd => hx (j + 1) o' x (by simpa using hj) hd) (by simpa using h)]
    rw [nO _ _ _ _ (fun x hd => hx 0 o x (by simp) hd)]
    have e1 : (fun j => decide (j + 1 < k + 1)) = (fun j => decide (j < k)) := by funext j; simp
    simp [e1]
theorem iB {γ : Bool} {E : Env} {σ : List OB} {o : Oper} (h : di o = false) : (∀ C v σ', aH P γ E σ o.op ≠ .upd C v σ') ∧ ∀ C f args, aH P γ E σ o.op ≠ .call C f args := by
  unfold di at h
  constructor
  · intro C v σ' hr
    cases hop : o.op
    all_goals (rw [hop] at h hr; simp only [aH] at hr; try (simp at h; done))
    case move => cases hr
    case assign => cases hr
    case pick => unfold ii at hr; split at hr <;> cases hr
    case build => unfold gl at hr; split at hr <;> first | cases hr | (split at hr <;> cases hr)
    case load => unfold fp at hr; split at hr <;> first | cases hr | (split at hr <;> cases hr)
    case nilCheck => unfold cP at hr; split at hr <;> cases hr
    case binOp => unfold ei at hr; split at hr <;> first | cases hr | (split at hr <;> first | cases hr | (split at hr <;> first | cases hr | (split at hr <;> cases hr)))
    case unOp => unfold unR at hr; split at hr <;> cases hr
    case convert => unfold ij at hr; split at hr <;> cases hr
    case fieldAddr => unfold bU at hr; split at hr <;> cases hr
    case field => unfold gj at hr; split at hr <;> cases hr
    case indexAddr => unfold bB at hr; split at hr <;> first | cases hr | (split at hr <;> cases hr)
    case index => unfold fR at hr; split at hr <;> cases hr
    case extract => unfold er at hr; split at hr <;> cases hr
    case slice =>
      unfold eZ at hr
      split at hr
      · split at hr
        · split at hr
          · split at hr <;> cases hr
          · cases hr
        · cases hr
      · split at hr <;> first | cases hr | (split at hr <;> first | cases hr | (split at hr <;> cases hr))
    case makeFunc => unfold dN at hr; split at hr <;> cases hr
    case call c =>
      split at hr
      · simp_all
      · rename_i b hb
        simp only [hb] at h
        unfold cH at hr
        split at hr
        · unfold ib at hr; split at hr <;> cases hr
        · simp at h
        · unfold cG at hr; split at hr <;> cases hr
        · unfold cG at hr; split at hr <;> cases hr
        · cases hr
      · cases hr
  · intro C f args hr
    cases hop : o.op
    all_goals (rw [hop] at h hr; simp only [aH] at hr; try (simp at h; done))
    case move => cases hr
    case assign => cases hr
    case pick => unfold ii at hr; split at hr <;> cases hr
    case build => unfold gl at hr; split at hr <;> first | cases hr | (split at hr <;> cases hr)
    case load => unfold fp at hr; split at hr <;> first | cases hr | (split at hr <;> cases hr)
    case nilCheck => unfold cP at hr; split at hr <;> cases hr
    case binOp => unfold ei at hr; split at hr <;> first | cases hr | (split at hr <;> first | cases hr | (split at hr <;> first | cases hr | (split at hr <;> cases hr)))
    case unOp => unfold unR at hr; split at hr <;> cases hr
    case convert => unfold ij at hr; split at hr <;> cases hr
    case fieldAddr => unfold bU at hr; split at hr <;> cases hr
    case field => unfold gj at hr; split at hr <;> cases hr
    case indexAddr => unfold bB at hr; split at hr <;> first | cases hr | (split at hr <;> cases hr)
    case index => unfold fR at hr; split at hr <;> cases hr
    case extract => unfold er at hr; split at hr <;> cases hr
    case slice =>
      unfold eZ at hr
      split at hr
      · split at hr
        · split at hr
          · split at hr <;> cases hr
          · cases hr
        · cases hr
      · split at hr <;> first | cases hr | (split at hr <;> first | cases hr | (split at hr <;> cases hr))
    case makeFunc => unfold dN at hr; split at hr <;> cases hr
    case call c =>
      split at hr
      · simp_all
      · rename_i b hb
        unfold cH at hr
        split at hr
        · unfold ib at hr; split at hr <;> cases hr
        · split at hr
          · unfold eR at hr
            split at hr
            · cases hr
            · split at hr <;> first | cases hr | (split at hr <;> cases hr)
          · cases hr
        · unfold cG at hr; split at hr <;> cases hr
        · unfold cG at hr; split at hr <;> cases hr
        · cases hr
      · cases hr
end
end Pam
namespace Pam
open Go
section
variable {P : Program} {ops : Array Oper}
theorem nP {E E' : Env} {ts : List Tmp} (h : ∀ t ∈ ts, E.get t = E'.get t) (x : Operand) (hx : ∀ t, x = .tmp t → t ∈ ts) : ev E x = ev E' x := by
 cases x with
 | tmp t => exact h t (hx t rfl)
 | _ => rfl
theorem iV {E E' : Env} (l : List Operand) (h : ∀ x ∈ l, ev E x = ev E' x) : l.map (ev E) = l.map (ev E') := List.map_congr_left h
theorem gy {γ : Bool} {E E' : Env} {σ : List OB} (op : Op) (h : ∀ x ∈ op.operands, ev E x = ev E' x) : aH P γ E σ op = aH P γ E' σ op := by
 cases op
 case move x => simp only [aH]; rw [h x (by simp [Op.operands])]
 case assign x => simp only [aH]; rw [h x (by simp [Op.operands])]
 case pick c a b => simp only [aH]; rw [h c (by simp [Op.operands]), h a (by simp [Op.operands]), h b (by simp [Op.operands])]
 case box T x => simp only [aH]; rw [h x (by simp [Op.operands])]
 case build T parts =>
  simp only [aH, jk]
  rw [List.map_congr_left]
  intro p hp
  rw [h p.2 (by simp only [Op.operands, List.mem_toArray, List.mem_map]; exact ⟨p, hp, rfl⟩)]
 case buildSlice T len parts =>
  simp only [aH, jk]
  rw [List.map_congr_left]
  intro p hp
  rw [h p.2 (by simp only [Op.operands, List.mem_toArray, List.mem_map]; exact ⟨p, hp, rfl⟩)]
 case load T x => simp only [aH]; rw [h x (by simp [Op.operands])]
 case store T x y => simp only [aH]; rw [h x (by simp [Op.operands]), h y (by simp [Op.operands])]
 case nilCheck x => simp only [aH]; rw [h x (by simp [Op.operands])]
 case binOp op T x y T' => simp only [aH]; rw [h x (by simp [Op.operands]), h y (by simp [Op.operands])]
 case unOp op T x => simp only [aH]; rw [h x (by simp [Op.operands])]
 case convert s d x => simp only [aH]; rw [h x (by simp [Op.operands])]
 case fieldAddr T x i => simp only [aH]; rw [h x (by simp [Op.operands])]
 case field T x i => simp only [aH]; rw [h x (by simp [Op.operands])]
 case indexAddr T x i => simp only [aH]; rw [h x (by simp [Op.operands]), h i (by simp [Op.operands])]
 case index T x i => simp only [aH]; rw [h x (by simp [Op.operands]), h i (by simp [Op.operands])]
 case extract x i => simp only [aH]; rw [h x (by simp [Op.operands])]
 case slice T x lo hi mx =>
  simp only [aH]
  rw [h x (by simp [Op.operands])]
  have hl : ∀ o : Option Operand, (∀ y, o = some y → ev E y = ev E' y) → o.map (ev E) = o.map (ev E') := by
   intro o ho; cases o with
   | none => rfl
   | some y => simp [ho y rfl]
  rw [hl lo fun y hy => h y (by simp [Op.operands, hy]), hl hi fun y hy => h y (by simp [Op.operands, hy]), hl mx fun y hy => h y (by simp [Op.operands, hy])]
 case makeSlice T x y => simp only [aH]; rw [h x (by simp [Op.operands]), h y (by simp [Op.operands])]
 case makeFunc fn first caps =>
  simp only [aH]
  rw [iV]
  intro x hx
  exact h x (by simp only [Op.operands, Array.mem_append]; right; simpa using hx)
 case call c =>
  simp only [aH]
  have hargs : c.args.toList.map (ev E) = c.args.toList.map (ev E') := iV _ fun x hx => h x (by simp only [Op.operands, Call.operands, Array.mem_append]; right; simpa using hx)
  rw [hargs]
  split
  ·rename_i f hf
   rw [h f (by simp only [Op.operands, Call.operands, Array.mem_append]; left; simp [hf])]
  ·rfl
  ·rfl
 all_goals rfl
theorem ko {E E' : Env} (o : Oper) (h : ∀ t ∈ o.looksAt ops, E.get t = E'.get t) : cn ops E o.guard = cn ops E' o.guard := by
 unfold cn
 cases hg : o.guard with
 | none => rfl
 | some jw =>
  obtain ⟨j, want⟩ := jw
  simp only
  cases ho : ops[j]? with
  | none => rfl
  | some o' =>
   simp only
   cases hd : o'.dst with
   | none => rfl
   | some d =>
    simp only
    rw [h d (by simp [Oper.looksAt, hg, ho, hd])]
def gA : PV → Option Nat
 | .c (.optr b _) => some b
 | .c (.osl b _ _ _) => some b
 | .c (.oel b _ _ _) => some b
 | _ => none
theorem mb {σ σ' : List OB} {c : CV} (h : ∀ b ob, gA (.c c) = some b → σ[b]? = some ob → σ'[b]? = some ob) (ha : cd σ c) : cd σ' c := by
 cases c <;> simp only [cd] at ha ⊢
 all_goals
  split at ha
  ·rename_i hb; rw [h _ _ rfl hb]; exact ha
  ·exact ha.elim
theorem nb {E : Env} {σ σ' : List OB} {op : Op} {C : Prop} {v : PV} (h : aH P true E σ op = .ok C v) (hC : C)
  (hh : ∀ x, (ev E x).cond = true → ∀ b ob, gA (ev E x).v = some b → σ[b]? = some ob → σ'[b]? = some ob) : ∃ C', aH P true E σ' op = .ok C' v ∧ C' := by
 have al : ∀ x c, (ev E x).v = .c c → ab true (ev E x) → cd σ c → cd σ' c := fun x c hv hn ha => mb (fun b ob ht hb => hh x (hn rfl) b ob (by rw [hv]; exact ht) hb) ha
 have wd : ∀ x b ver lo len s, (ev E x).v = .c (.osl b ver lo len) → ab true (ev E x) → ku σ b s → ku σ' b s := by
  intro x b ver lo len s hv hn ha
  unfold ku at ha ⊢
  cases hb : σ[b]? with
  | none => rw [hb] at ha; exact ha.elim
  | some ob => rw [hh x (hn rfl) b ob (by rw [hv]; rfl) hb]; rw [hb] at ha; exact ha
 cases op
 case load T x =>
  simp only [aH, fp] at h ⊢
  split at h
  ·rename_i b off hv
   split at h
   ·rename_i cs hb
    simp only [R.ok.injEq] at h; obtain ⟨rfl, rfl⟩ := h
    have := hh x (hC.1 rfl) b _ (by rw [hv]; rfl) hb
    exact ⟨_, by first | rfl | (simp only [hv, this]; done) | (simp only [hv, this]; rfl) | (simp only [this]; done) | (simp only [this]; rfl), hC⟩
   ·cases h
  ·rename_i s es i j hv
   exact ⟨C, by first | exact h | (simp only [hv]; exact h), hC⟩
  ·rename_i b ver i j hv
   split at h
   ·rename_i s ver' T' es hb
    simp only [R.ok.injEq] at h; obtain ⟨rfl, rfl⟩ := h
    have := hh x (hC.1 rfl) b _ (by rw [hv]; rfl) hb
    exact ⟨_, by first | rfl | (simp only [hv, this]; done) | (simp only [hv, this]; rfl) | (simp only [this]; done) | (simp only [this]; rfl), hC⟩
   ·cases h
  ·cases h
 case nilCheck x =>
  simp only [aH, cP] at h ⊢
  split at h
  ·rename_i b off hv
   simp only [R.ok.injEq] at h; obtain ⟨rfl, rfl⟩ := h
   refine ⟨_, by first | rfl | (simp only [hv]; done) | (simp only [hv]; rfl), ?_⟩
   exact ⟨hC.1, al x _ hv hC.1 hC.2⟩
  ·rename_i hv; exact ⟨C, by first | exact h | (simp only [hv]; exact h), hC⟩
  ·rename_i b ver i j hv
   simp only [R.ok.injEq] at h; obtain ⟨rfl, rfl⟩ := h
   refine ⟨_, by first | rfl | (simp only [hv]; done) | (simp only [hv]; rfl), ?_⟩
   exact ⟨hC.1, al x _ hv hC.1 hC.2⟩
  ·cases h
 case fieldAddr T x i =>
  simp only [aH, bU] at h ⊢
  split at h
  ·rename_i b off hv
   simp only [R.ok.injEq] at h; obtain ⟨rfl, rfl⟩ := h
   refine ⟨_, by first | rfl | (simp only [hv]; done) | (simp only [hv]; rfl), ?_⟩
   exact ⟨hC.1, al x _ hv hC.1 hC.2.1, hC.2.2⟩
  ·rename_i hv; exact ⟨C, by first | exact h | (simp only [hv]; exact h), hC⟩
  ·rename_i b ver k j hv
   simp only [R.ok.injEq] at h; obtain ⟨rfl, rfl⟩ := h
   refine ⟨_, by first | rfl | (simp only [hv]; done) | (simp only [hv]; rfl), ?_⟩
   exact ⟨hC.1, al x _ hv hC.1 hC.2.1, hC.2.2⟩
  ·cases h
 case indexAddr T x i =>
  simp only [aH, bB] at h ⊢
  split at h
  ·rename_i hv hv2; exact ⟨C, by first | exact h | (simp only [hv, hv2]; exact h), hC⟩
  ·rename_i b ver lo len k n hv hv2
   split at h
   ·rename_i s ver' T' es hb
    simp only [R.ok.injEq] at h; obtain ⟨rfl, rfl⟩ := h
    have := hh x (hC.1 rfl) b _ (by rw [hv]; rfl) hb
    exact ⟨_, by first | rfl | (simp only [hv, hv2, this]; done) | (simp only [hv, hv2, this]; rfl) | (simp only [this]; done) | (simp only [this]; rfl), hC⟩
   ·cases h
  ·rename_i b off k n hv hv2
   simp only [R.ok.injEq] at h; obtain ⟨rfl, rfl⟩ := h
   refine ⟨_, by first | rfl | (simp only [hv, hv2]; done) | (simp only [hv, hv2]; rfl), ?_⟩
   exact ⟨hC.1, hC.2.1, al x _ hv hC.1 hC.2.2.1, hC.2.2.2⟩
  ·rename_i b ver k j k0 n hv hv2
   split at h
   ·rename_i s ver' T' es hb
    simp only [R.ok.injEq] at h; obtain ⟨rfl, rfl⟩ := h
    have := hh x (hC.1 rfl) b _ (by rw [hv]; rfl) hb
    exact ⟨_, by first | rfl | (simp only [hv, hv2, this]; done) | (simp only [hv, hv2, this]; rfl) | (simp only [this]; done) | (simp only [this]; rfl), hC⟩
   ·cases h
  ·cases h
 case slice T x lo hi mx =>
  simp only [aH, eZ] at h ⊢
  split at h
  ·rename_i m hm
   exact ⟨C, by first | exact h | (simp only [hm]; exact h), hC⟩
  ·rename_i hm
   split at h
   ·rename_i s es hv
    split at h
    ·rename_i e1 e2; exact ⟨C, by first | exact h | (simp only [hm, hv, e1, e2]; exact h), hC⟩
    ·cases h
   ·rename_i b ver lo0 len hv
    split at h
    ·rename_i hlo
     split at h
     ·rename_i _ _ e2
      simp only [R.ok.injEq] at h; obtain ⟨rfl, rfl⟩ := h
      refine ⟨_, by first | rfl | (simp only [hm, hv, hlo, e2]; done) | (simp only [hm, hv, hlo, e2]; rfl), ?_⟩
      exact ⟨hC.1, hC.2.1, al x _ hv hC.1 hC.2.2.1, hC.2.2.2⟩
     ·cases h
    ·rename_i q hlo
     split at h
     ·rename_i _ _ _ _ e1 e2
      simp only [R.ok.injEq] at h; obtain ⟨rfl, rfl⟩ := h
      refine ⟨_, by first | rfl | (simp only [hm, hv, hlo, e1, e2]; done) | (simp only [hm, hv, hlo, e1, e2]; rfl), ?_⟩
      exact ⟨hC.1, hC.2.1, hC.2.2.1, al x _ hv hC.1 hC.2.2.2.1, hC.2.2.2.2.1, hC.2.2.2.2.2.1, wd x _ _ _ _ _ hv hC.1 hC.2.2.2.2.2.2.1, hC.2.2.2.2.2.2.2⟩
     ·cases h
   ·rename_i s hv
    split at h
    ·rename_i e1 e2; exact ⟨C, by first | exact h | (simp only [hm, hv, e1, e2]; exact h), hC⟩
    ·cases h
   ·cases h
 case call c =>
  simp only [aH] at h ⊢
  split at h
  ·unfold jF at h; split at h <;> cases h
  ·rename_i b hcal
   try simp only [hcal]
   unfold cH at h ⊢
   split at h
   ·rename_i T x hts hxs
    try simp only [hts, hxs]
    have hx : ∃ X, x = ev E X := by
     have : x ∈ c.args.toList.map (ev E) := by rw [hxs]; simp
     obtain ⟨X, _, hX⟩ := List.mem_map.1 this
     exact ⟨X, hX.symm⟩
    obtain ⟨X, rfl⟩ := hx
    unfold ib at h ⊢
    split at h
    ·rename_i hv; exact ⟨C, by first | exact h | (simp only [hv]; exact h), hC⟩
    ·rename_i b ver lo len hv
     simp only [R.ok.injEq] at h; obtain ⟨rfl, rfl⟩ := h
     refine ⟨_, by first | rfl | (simp only [hv]; done) | (simp only [hv]; rfl), ?_⟩
     exact ⟨hC.1, al X _ hv hC.1 hC.2.1, hC.2.2⟩
    ·rename_i hv; exact ⟨C, by first | exact h | (simp only [hv]; exact h), hC⟩
    ·rename_i hv; exact ⟨C, by first | exact h | (simp only [hv]; exact h), hC⟩
    ·rename_i hv; exact ⟨C, by first | exact h | (simp only [hv]; exact h), hC⟩
    ·rename_i hv; exact ⟨C, by first | exact h | (simp only [hv]; exact h), hC⟩
    ·cases h
   ·split at h
    ·unfold eR at h
     split at h
     ·cases h
     ·split at h <;> first | cases h | (split at h <;> cases h)
    ·cases h
   ·rename_i hxs; exact ⟨C, by first | exact h | (simp only [hxs]; exact h), hC⟩
   ·rename_i hxs; exact ⟨C, by first | exact h | (simp only [hxs]; exact h), hC⟩
   ·cases h
  ·cases h
 all_goals first
  | exact ⟨C, h, hC⟩
  | (simp only [aH] at h; unfold gk at h; split at h <;> cases h)
  | (simp only [aH] at h; unfold kS at h; cases h)
  | (simp only [aH] at h; unfold cF at h; split at h <;> first | cases h | (split at h <;> cases h))
  | (simp only [aH] at h; unfold fQ at h; split at h <;> first | cases h | (split at h <;> cases h))
  | (simp only [aH] at h; unfold db at h; split at h <;> cases h)
  | cases h
theorem jT {E : Env} {σ σ' : List OB} {γ : Bool} {op : Op} {C : Prop} {f : FuncId} {args : List PV} (h : aH P γ E σ op = .call C f args) : aH P γ E σ' op = .call C f args := by
 cases op
 case call c =>
  simp only [aH] at h ⊢
  split at h
  ·exact h
  ·unfold cH at h
   split at h
   ·unfold ib at h; split at h <;> cases h
   ·split at h
    ·unfold eR at h
     split at h
     ·cases h
     ·split at h <;> first | cases h | (split at h <;> cases h)
    ·cases h
   ·unfold cG at h; split at h <;> cases h
   ·unfold cG at h; split at h <;> cases h
   ·cases h
  ·cases h
 case load => simp only [aH] at h; unfold fp at h; split at h <;> first | cases h | (split at h <;> cases h)
 case nilCheck => simp only [aH] at h; unfold cP at h; split at h <;> cases h
 case fieldAddr => simp only [aH] at h; unfold bU at h; split at h <;> cases h
 case indexAddr => simp only [aH] at h; unfold bB at h; split at h <;> first | cases h | (split at h <;> cases h)
 case slice =>
  simp only [aH] at h
  unfold eZ at h
  split at h
  ·split at h
   ·split at h
    ·split at h <;> cases h
    ·cases h
   ·cases h
  ·split at h <;> first | cases h | (split at h <;> first | cases h | (split at h <;> cases h))
 case alloc => simp only [aH] at h; unfold gk at h; split at h <;> cases h
 case box => simp only [aH] at h; unfold kS at h; cases h
 case buildSlice => simp only [aH] at h; unfold cF at h; split at h <;> first | cases h | (split at h <;> cases h)
 case store => simp only [aH] at h; unfold fQ at h; split at h <;> first | cases h | (split at h <;> cases h)
 case makeSlice => simp only [aH] at h; unfold db at h; split at h <;> cases h
 all_goals exact h
end
end Pam
namespace Pam
open Go
section
variable {P : Program}
theorem nc {G : Gh} {E : Env} {σ : List OB} {a : Act} {w : World} {C : Prop} {f : FuncId} {args : List PV} {res : PV} {K : Act → World → Prop} {Q : Exit → Act → World → Prop} (hsim : Sim G E σ a w) (o : Oper)
  (hrun : aH P true E σ o.op = .call C f args) (hC : C) (hs : ee P f args res) (hargs : args.all PV.noOwn = true) (hres : ∀ n, res.ren (cm n []) = res)
  (next : ∀ G' w' v, Gle G G' → aE G.own G'.own → Inv G' σ w' → ai G' res v → K (a.put o.dst v) w') : o.wp P a w K Q := by
 have ha : args.map (PV.ren (cm σ.length [])) = args ∧ aB 0 args := by
  clear hs hrun
  induction args with
  | nil => exact ⟨rfl, trivial⟩
  | cons p l ih =>
   simp only [List.all_cons, Bool.and_eq_true] at hargs
   obtain ⟨h1, h2⟩ := PV.noOwn_ren hargs.1 (cm σ.length [])
   obtain ⟨h3, h4⟩ := ih hargs.2
   exact ⟨by simp [h1, h3], h2 0, h4⟩
 obtain ⟨hf, hcall⟩ := hs
 obtain ⟨vs, e1, e2⟩ := i9 hsim rfl o hrun hC hf
 have hi := hsim.inv
 have hnd : ([] : List Nat).Nodup := List.nodup_nil
 have hlt : ∀ b ∈ ([] : List Nat), b < σ.length := by simp
 have hci : Inv (aZ G w []) [] w := iz (σc := []) hi hnd hlt rfl (fun k ob h => by simp at h) trivial
 have hown := fA (w := w) hi hlt
 rw [← ha.1] at e2
 have hcv := hcall (aZ G w []) w vs (by simp [aZ]) rfl hci (ap.unmapP (G := G) (G' := aZ G w []) rfl _ hown ha.2 e2)
 unfold Oper.wp
 rw [e1]
 refine hcv.mono fun e w' hr => ?_
 obtain ⟨G', σ', p, v, h1, h2, h3, h4⟩ := hr
 rcases h4 with ⟨rfl, rfl, rfl⟩ | ⟨_, h4⟩
 ·obtain ⟨G'', g1, g2, g3, g4⟩ := gZ hi hnd hlt h1 h2 (by simp)
  have g5 := g4 _ v h3
  rw [hres] at g5
  exact next G'' w' v g1 g2 (by simpa [bn] using g3) g5
 ·exact h4.elim
theorem mc {G : Gh} {E : Env} {σ σ2 : List OB} {a : Act} {w : World} {C : Prop} {f : FuncId} {args : List PV} {res : PV} {K : Act → World → Prop} {Q : Exit → Act → World → Prop} (hsim : Sim G E σ a w) (o : Oper)
  (hrun : aH P true E σ o.op = .call C f args) (hC : C) (hs : ja P σ f args res σ2)
  (next : ∀ G' w' v, Gle G G' → (∀ b o, G.H b = some o → G'.H b = some o) → aE G.own G'.own → Inv G' σ2 w' → ai G' res v → K (a.put o.dst v) w') : o.wp P a w K Q := by
 obtain ⟨args', σc, post, pp, ρ, ⟨hf, hcall⟩, hnd, hlt, hargs, hσ, hu, hub, hpost, hpp⟩ := hs
 obtain ⟨vs, e1, e2⟩ := i9 hsim rfl o hrun hC hf
 have hi := hsim.inv
 have hlen : σc.length = ρ.length := by have := congrArg List.length hσ; simpa using this.symm
 have hσ' : ∀ (k : Nat) (ob : OB), σc[k]? = some ob → ∃ b, ρ[k]? = some b ∧ σ[b]? = some (ob.ren (cm σ.length ρ)) := by
  intro k ob h
  have hk : k < ρ.length := by rw [← hlen]; exact (List.getElem?_eq_some_iff.1 h).1
  have := congrArg (fun l => l[k]?) hσ
  simp only [List.getElem?_map, h, Option.map_some, List.getElem?_eq_getElem hk, sJ] at this
  exact ⟨ρ[k], List.getElem?_eq_getElem hk, this⟩
 have hci := iz hi hnd hlt hlen hσ' hub
 have hown := fA (w := w) hi hlt
 rw [hargs] at e2
 have hcv := hcall (aZ G w ρ) w vs (by simp [aZ, hlen]) rfl hci (ap.unmapP (G := G) (G' := aZ G w ρ) rfl _ hown hu e2)
 unfold Oper.wp
 rw [e1]
 refine hcv.mono fun e w' hres => ?_
 obtain ⟨G', σ', p, v, h1, h2, h3, h4⟩ := hres
 have hl : ρ.length ≤ σ'.length := by
  rw [← h2.len]
  rcases Nat.eq_zero_or_pos ρ.length with e0 | e0
  ·omega
  ·have hlast : (aZ G w ρ).own[ρ.length - 1]? = some ((aZ G w ρ).own[ρ.length - 1]'(by simp [aZ]; omega)) := List.getElem?_eq_getElem _
   obtain ⟨oo', q1, _⟩ := h1.own _ _ (by simp [aZ]; omega) hlast
   have := (List.getElem?_eq_some_iff.1 q1).1
   omega
 obtain ⟨G'', g1, g2, g3, g4⟩ := gZ hi hnd hlt h1 h2 hl
 rcases h4 with ⟨rfl, h4⟩ | ⟨rfl, h4⟩
 ·obtain ⟨k1, k2⟩ := hpost p σ' h4 hl
  rw [k2] at g3
  have g5 := g4 p v h3
  rw [k1] at g5
  exact next G'' w' v g1 g1.le.H g2 g3 g5
 ·exact (hpp _ _ h4).elim
theorem nd {G : Gh} {σ : List OB} {w : World} {p : PV} {v : Value} (hi : Inv G σ w) (h : ai G p v) {b : Nat} (hb : gA p = some b) : b < σ.length := by
 have : ∀ oo : Option OG, G.own[b]? = some oo → b < σ.length := fun oo h => by rw [← hi.len]; exact (List.getElem?_eq_some_iff.1 h).1
 unfold gA at hb
 split at hb <;> simp only [sJ, reduceCtorEq] at hb
 ·subst hb; have h' : bK G (.optr _ _) v := h; obtain ⟨_, oo, h1, _⟩ := h'; exact this oo h1
 ·subst hb; have h' : bK G (.osl _ _ _ _) v := h; obtain ⟨_, oo, h1, _⟩ := h'; exact this oo h1
 ·subst hb; have h' : bK G (.oel _ _ _ _) v := h; obtain ⟨_, oo, h1, _⟩ := h'; exact this oo h1
def cR (E : Env) : List Tmp → Env
 | [] => ⟨E.n, E.na, .nil⟩
 | t :: r => (cR E r).put t (E.get t)
theorem iC (E : Env) : ∀ l, (cR E l).n = E.n ∧ (cR E l).na = E.na
 | [] => ⟨rfl, rfl⟩
 | _ :: r => iC E r
theorem iW (E : Env) : ∀ (l : List Tmp) (t : Tmp), (∀ x ∈ l, x < 512) → (t ∈ l → (cR E l).get t = E.get t) ∧ (t ∉ l → ((cR E l).get t).cond = false)
 | [], t, _ => ⟨fun h => by simp at h, fun _ => by simp [cR, Env.get, Tr.get, Tr.ent]⟩
 | x :: l, t, h => by
  obtain ⟨h1, h2⟩ := iW E l t fun y hy => h y (by simp [hy])
  simp only [cR]
  rw [Env.get_put' _ x t _ (h x (by simp))]
  constructor
  ·intro ht
   by_cases e : t = x
   ·subst e; simp
   ·rw [iN e]; exact h1 (by simpa [e] using ht)
  ·intro ht
   simp only [List.mem_cons, not_or] at ht
   rw [iN ht.1]; exact h2 ht.2
theorem kY : ∀ (l : List Oper) (tr : List TS) (E : Env) (k : Nat), (bC E l tr k).n = E.n ∧ (bC E l tr k).na = E.na
 | [], tr, E, k => by cases k <;> simp [bC]
 | o :: l, [], E, k => by cases k <;> simp [bC]
 | o :: l, ts :: tr, E, 0 => by simp [bC]
 | o :: l, ts :: tr, E, k + 1 => by
  simp only [bC]
  obtain ⟨h1, h2⟩ := kY l tr (E.putD o.dst ts.e) k
  rw [h1, h2]
  cases o.dst <;> exact ⟨rfl, rfl⟩
structure Chk (ops : Array Oper) (l : List Oper) (masks : List Nat) (bar : List Bool) : Prop where
 mask : ∀ (i : Nat) (o : Oper), l[i]? = some o → masks.getD i 0 = orM masks (dy o)
 lt : ∀ (i : Nat) (o : Oper), l[i]? = some o → ∀ j ∈ dy o, j < i
 dst : ∀ (i : Nat) (o : Oper), l[i]? = some o → ∀ d, o.dst = some d → d < 512
 look : ∀ (i : Nat) (o : Oper), l[i]? = some o → ∀ t ∈ o.looksAt ops, t < 512
 loud : ∀ (i j : Nat) (x y : Oper), l[i]? = some x → l[j]? = some y → di x = true → di y = true → fc masks i j = true
 hit : ∀ (i j : Nat) (x y : Oper), l[i]? = some x → l[j]? = some y → m9 ops x y = true → fc masks i j = true
 bar : ∀ (i j : Nat) (x y : Oper), l[i]? = some x → l[j]? = some y → bar.getD i false = true → fc masks i j = true
def iD (l : List Oper) (d : Nat → Bool) : Prop := ∀ (i : Nat) (o : Oper), l[i]? = some o → d i = true → ∀ j ∈ dy o, d j = true
theorem Chk.bit {ops : Array Oper} {l : List Oper} {masks : List Nat} {bar : List Bool} (c : Chk ops l masks bar) {d : Nat → Bool} (hd : iD l d) : ∀ (i : Nat) (o : Oper), l[i]? = some o → ∀ j, (masks.getD i 0).testBit j = true → j < i ∧ (d i = true → d j = true) := by
 intro i
 induction i using Nat.strongRecOn with
 | _ i ih =>
  intro o ho j hj
  rw [c.mask i o ho] at hj
  obtain ⟨k, hk, h⟩ := iU masks j _ hj
  have hlt := c.lt i o ho k hk
  have hkl : k < l.length := by have := (List.getElem?_eq_some_iff.1 ho).1; omega
  rcases h with rfl | h
  ·exact ⟨hlt, fun hi => hd i o ho hi k hk⟩
  ·obtain ⟨h1, h2⟩ := ih k hlt l[k] (List.getElem?_eq_getElem hkl) j h
   exact ⟨by omega, fun hi => h2 (hd i o ho hi k hk)⟩
theorem Chk.done {ops : Array Oper} {l : List Oper} {masks : List Nat} {bar : List Bool} (c : Chk ops l masks bar) {d : Nat → Bool} (hd : iD l d) {i : Nat} {o : Oper} (ho : l[i]? = some o) (hi : d i = false)
  (hr : ∀ j ∈ dy o, d j = true) {j : Nat} {y : Oper} (hy : l[j]? = some y) (hord : fc masks i j = true ∨ fc masks j i = true) : d j = decide (j < i) := by
 by_cases e : j = i
 ·subst e; simp [hi]
 ·have hord' : (masks.getD i 0).testBit j = true ∨ (masks.getD j 0).testBit i = true := by
   rcases hord with h | h <;> simp only [fc, Bool.or_eq_true, beq_iff_eq] at h
   ·rcases h with (h | h) | h
    ·exact (e h.symm).elim
    ·exact .inl h
    ·exact .inr h
   ·rcases h with (h | h) | h
    ·exact (e h).elim
    ·exact .inr h
    ·exact .inl h
  rcases hord' with h | h
  ·have hlt := (c.bit hd i o ho j h).1
   rw [c.mask i o ho] at h
   obtain ⟨k, hk, h⟩ := iU masks j _ h
   have hkl : k < l.length := by have := (List.getElem?_eq_some_iff.1 ho).1; have := c.lt i o ho k hk; omega
   have hdj : d j = true := by
    rcases h with rfl | h
    ·exact hr k hk
    ·exact (c.bit hd k l[k] (List.getElem?_eq_getElem hkl) j h).2 (hr k hk)
   rw [hdj]; simp [hlt]
  ·obtain ⟨h1, h2⟩ := c.bit hd j y hy i h
   have hdj : d j = false := by
    cases hh : d j with
    | false => rfl
    | true => rw [h2 hh] at hi; cases hi
   rw [hdj]; simp; omega
def StJ (l : List Oper) (tr : List TS) (E : Env) (σ : List OB) (G0 : Gh) (listed : Array Bool) (a : Act) (w : World) : Prop :=
 listed.size = l.length ∧ iD l (fun i => listed.getD i false) ∧
 ∃ G p, Gle G0 G ∧ p ≤ l.length ∧ (∀ (j : Nat) (o : Oper), l[j]? = some o → di o = true → listed.getD j false = decide (j < p)) ∧
  Inv G (av σ tr p) w ∧ a.defers = G.w0.ds ∧ a.tmps.size = E.n ∧ G.na = E.na ∧
  ∀ t, t < 512 → (da t l tr (fun i => listed.getD i false) (E.get t)).cond = true → ai G (da t l tr (fun i => listed.getD i false) (E.get t)).v (a.tmps.getD t undef)
theorem oK (listed : Array Bool) (i j : Nat) (hi : i < listed.size) : (listed.setIfInBounds i true).getD j false = if j = i then true else listed.getD j false := by
 simp only [Array.getD_eq_getD_getElem?, Array.getElem?_setIfInBounds]
 by_cases e : i = j
 ·subst e; simp [hi]
 ·simp [e, Ne.symm e]
end
end Pam
namespace Pam
open Go
def mF (pv : List Nat) (p : PV) : Bool := match gA p with | some b => !pv.contains b | none => true
def dZ (pv : List Nat) (σ σ' : List OB) : Prop := σ.length ≤ σ'.length ∧ ∀ b, b ∉ pv → b < σ.length → σ'[b]? = σ[b]?
theorem dZ.refl (pv : List Nat) (σ : List OB) : dZ pv σ σ := ⟨Nat.le_refl _, fun _ _ _ => rfl⟩
theorem dZ.trans {pv : List Nat} {σ σ' σ'' : List OB} (h : dZ pv σ σ') (h' : dZ pv σ' σ'') : dZ pv σ σ'' :=
  ⟨Nat.le_trans h.1 h'.1, fun b hb hl => (h'.2 b hb (Nat.lt_of_lt_of_le hl h.1)).trans (h.2 b hb hl)⟩
theorem dZ.of_ext {pv : List Nat} {σ σ' : List OB} (h : Ext σ σ') : dZ pv σ σ' := by
  obtain ⟨ρ, rfl⟩ := h
  exact ⟨by simp, fun b _ hb => List.getElem?_append_left hb⟩
def ld (lt : List Bool) (i : Nat) (o : Oper) : Bool := di o && !(lt.getD i false)
def md (ops : Array Oper) (l : List Oper) (masks : List Nat) (bar prv : List Bool) (rd : List (List Nat)) (lt : List Bool) : Bool :=
  (l.zipIdx.all fun (o, i) => masks.getD i 0 == orM masks (dy o) && (dy o).all (· < i) &&
    (match o.dst with | some d => decide (d < 512) | none => true) && (o.looksAt ops).all (· < 512)) &&
  (l.zipIdx.all fun (x, i) => l.zipIdx.all fun (y, j) => (!(ld lt i x && ld lt j y) || fc masks i j) && (!(m9 ops x y) || fc masks i j) && (!(bar.getD i false) || fc masks i j)) &&
  (l.zipIdx.all fun (x, i) => di x || (x.looksAt ops).all (fun t => (rd.getD i []).contains t) || l.zipIdx.all fun (_, j) => !(prv.getD j false) || fc masks i j)
structure kZ (ops : Array Oper) (l : List Oper) (masks : List Nat) (bar prv : List Bool) (rd : List (List Nat)) (lt : List Bool) : Prop where
  mask : ∀ (i : Nat) (o : Oper), l[i]? = some o → masks.getD i 0 = orM masks (dy o)
  lts : ∀ (i : Nat) (o : Oper), l[i]? = some o → ∀ j ∈ dy o, j < i
  dst : ∀ (i : Nat) (o : Oper), l[i]? = some o → ∀ d, o.dst = some d → d < 512
  look : ∀ (i : Nat) (o : Oper), l[i]? = some o → ∀ t ∈ o.looksAt ops, t < 512
  loud : ∀ (i j : Nat) (x y : Oper), l[i]? = some x → l[j]? = some y → ld lt i x = true → ld lt j y = true → fc masks i j = true
  hit : ∀ (i j : Nat) (x y : Oper), l[i]? = some x → l[j]? = some y → m9 ops x y = true → fc masks i j = true
  bar : ∀ (i j : Nat) (x y : Oper), l[i]? = some x → l[j]? = some y → bar.getD i false = true → fc masks i j = true
  see : ∀ (i : Nat) (o : Oper), l[i]? = some o → di o = false → (∀ t ∈ o.looksAt ops, t ∈ rd.getD i []) ∨ ∀ j y, l[j]? = some y → prv.getD j false = true → fc masks i j = true
theorem oL {ops : Array Oper} {l : List Oper} {masks : List Nat} {bar prv : List Bool} {rd : List (List Nat)} {lt : List Bool} (h : md ops l masks bar prv rd lt = true) : kZ ops l masks bar prv rd lt := by
  unfold md at h
  simp only [Bool.and_eq_true, List.all_eq_true] at h
  obtain ⟨⟨h1, h2⟩, h3⟩ := h
  have m : ∀ (i : Nat) (o : Oper), l[i]? = some o → (o, i) ∈ l.zipIdx := fun i o ho => by
    rw [List.mem_zipIdx_iff_getElem?]; simpa using ho
  constructor
  · intro i o ho; have := h1 _ (m i o ho); simp only [Bool.and_eq_true, beq_iff_eq] at this; exact this.1.1.1
  · intro i o ho j hj
    have := h1 _ (m i o ho)
    simp only [Bool.and_eq_true, List.all_eq_true, decide_eq_true_eq] at this
    exact this.1.1.2 j hj
  · intro i o ho d hd
    have := h1 _ (m i o ho)
    simp only [Bool.and_eq_true, hd, decide_eq_true_eq] at this
    exact this.1.2
  · intro i o ho t ht
    have := h1 _ (m i o ho)
    simp only [Bool.and_eq_true, List.all_eq_true, decide_eq_true_eq] at this
    exact this.2 t ht
  · intro i j x y hx hy lx ly
    have := h2 _ (m i x hx) _ (m j y hy)
    simp only [Bool.and_eq_true, Bool.or_eq_true, Bool.not_eq_true', lx, ly] at this
    simpa using this.1.1
  · intro i j x y hx hy hh
    have := h2 _ (m i x hx) _ (m j y hy)
    simp only [Bool.and_eq_true, Bool.or_eq_true, Bool.not_eq_true', hh] at this
    simpa using this.1.2
  · intro i j x y hx hy hh
    have := h2 _ (m i x hx) _ (m j y hy)
    simp only [Bool.and_eq_true, Bool.or_eq_true, Bool.not_eq_true', hh] at this
    simpa using this.2
  · intro i o ho hq
    have := h3 _ (m i o ho)
    simp only [Bool.or_eq_true, hq, Bool.false_eq_true, false_or, List.all_eq_true] at this
    rcases this with h | h
    · exact .inl fun t ht => by simpa using h t ht
    · right
      intro j y hy hp
      have := h _ (m j y hy)
      simpa only [hp, Bool.not_true, Bool.false_or, Bool.false_eq_true, false_or] using this
theorem kZ.bit {ops : Array Oper} {l : List Oper} {masks : List Nat} {bar prv lt : List Bool} {rd : List (List Nat)} (c : kZ ops l masks bar prv rd lt) {d : Nat → Bool} (hd : iD l d) : ∀ (i : Nat) (o : Oper), l[i]? = some o → ∀ j, (masks.getD i 0).testBit j = true → j < i ∧ (d i = true → d j = true) := by
  intro i
  induction i using Nat.strongRecOn with
  | _ i ih =>
    intro o ho j hj
    rw [c.mask i o ho] at hj
    obtain ⟨k, hk, h⟩ := iU masks j _ hj
    have hlt := c.lts i o ho k hk
    have hkl : k < l.length := by have := (List.getElem?_eq_some_iff.1 ho).1; omega
    rcases h with rfl | h
    · exact ⟨hlt, fun hi => hd i o ho hi k hk⟩
    · obtain ⟨h1, h2⟩ := ih k hlt l[k] (List.getElem?_eq_getElem hkl) j h
      exact ⟨by omega, fun hi => h2 (hd i o ho hi k hk)⟩
theorem kZ.done {ops : Array Oper} {l : List Oper} {masks : List Nat} {bar prv lt : List Bool} {rd : List (List Nat)} (c : kZ ops l masks bar prv rd lt) {d : Nat → Bool} (hd : iD l d) {i : Nat} {o : Oper} (ho : l[i]? = some o) (hi : d i = false)
    (hr : ∀ j ∈ dy o, d j = true) {j : Nat} {y : Oper} (hy : l[j]? = some y) (hord : fc masks i j = true ∨ fc masks j i = true) : d j = decide (j < i) := by
  by_cases e : j = i
  · subst e; simp [hi]
  · have hord' : (masks.getD i 0).testBit j = true ∨ (masks.getD j 0).testBit i = true := by
      rcases hord with h | h <;> simp only [fc, Bool.or_eq_true, beq_iff_eq] at h
      · rcases h with (h | h) | h
        · exact (e h.symm).elim
        · exact .inl h
        · exact .inr h
      · rcases h with (h | h) | h
        · exact (e h).elim
        · exact .inr h
        · exact .inl h
    rcases hord' with h | h
    · have hlt := (c.bit hd i o ho j h).1
      rw [c.mask i o ho] at h
      obtain ⟨k, hk, h⟩ := iU masks j _ h
      have hkl : k < l.length := by have := (List.getElem?_eq_some_iff.1 ho).1; have := c.lts i o ho k hk; omega
      have hdj : d j = true := by
        rcases h with rfl | h
        · exact hr k hk
        · exact (c.bit hd k l[k] (List.getElem?_eq_getElem hkl) j h).2 (hr k hk)
      rw [hdj]; simp [hlt]
    · obtain ⟨h1, h2⟩ := c.bit hd j y hy i h
      have hdj : d j = false := by
        cases hh : d j with
        | false => rfl
        | true => rw [h2 hh] at hi; cases hi
      rw [hdj]; simp; omega
def me (P : Program) (ops : Array Oper) (pv : List Nat) (E : Env) (σ : List OB) (o : Oper) (bar prv : Bool) (rd : List Nat) (lt : Bool) (ts : TS) : Prop :=
  cn ops E o.guard = some ts.γ ∧ cZ E o.dst ∧
  ((lt = false ∧ ((∃ C v, aH P ts.γ E σ o.op = .ok C v ∧ C ∧ (rd.all fun t => mF pv (E.get t).v) = true ∧ ts.e = ⟨ts.γ, v⟩ ∧ ts.σ = σ) ∨
   (ts.γ = true ∧ ∃ C v, aH P ts.γ E σ o.op = .upd C v ts.σ ∧ C ∧ ts.e = ⟨true, v⟩ ∧ (bar = true ∨ Ext σ ts.σ ∨ (prv = true ∧ dZ pv σ ts.σ))) ∨
   (∃ C f args r, aH P ts.γ E σ o.op = .call C f args ∧ (ts.γ = true → C ∧ ee P f args r) ∧ args.all PV.noOwn = true ∧ (∀ n, r.ren (cm n []) = r) ∧ ts.e = ⟨ts.γ, r⟩ ∧ ts.σ = σ) ∨
   (ts.γ = false ∧ ts.e = ⟨true, .t []⟩ ∧ ts.σ = σ) ∨
   (ts.γ = true ∧ ∃ C f args p, aH P ts.γ E σ o.op = .call C f args ∧ C ∧ ja P σ f args p ts.σ ∧ ts.e = ⟨true, p⟩ ∧ (bar = true ∨ Ext σ ts.σ)) ∨
   (ts.γ = true ∧ di o = true ∧ ∃ v, (∀ E', (∀ x ∈ o.op.operands, ev E' x = ev E x) → ∀ G a w, Sim G E' σ a w → kW P G (execOp a.eval o) w v ts.σ) ∧ ts.e = ⟨true, v⟩ ∧ (bar = true ∨ Ext σ ts.σ ∨ (prv = true ∧ dZ pv σ ts.σ))))) ∨
   (ts.γ = true ∧ (∃ v, (∀ E', (∀ x ∈ o.op.operands, ev E' x = ev E x) → ∀ σ' G a w, Sim G E' σ' a w → kW P G (execOp a.eval o) w v σ') ∧ ts.e = ⟨true, v⟩) ∧ ts.σ = σ) ∨
   (ts.γ = false ∧ ts.e = ⟨true, .t []⟩ ∧ ts.σ = σ))
def cS (P : Program) (ops : Array Oper) (pv : List Nat) : List Oper → List Bool → List Bool → List (List Nat) → List Bool → Env → List OB → List TS → Prop
  | [], _, _, _, _, _, _, tr => tr = []
  | o :: l, bs, ps, rd, lt, E, σ, tr => ∃ ts r, tr = ts :: r ∧ me P ops pv E σ o (bs.headD false) (ps.headD false) (rd.headD []) (lt.headD false) ts ∧ cS P ops pv l bs.tail ps.tail rd.tail lt.tail (E.putD o.dst ts.e) ts.σ r
section
variable {P : Program} {ops : Array Oper} {pv : List Nat}
theorem kB : ∀ (l : List Bool) (i : Nat), l[i]? = some false → (l.set i true).count false + 1 = l.count false
  | [], i, h => by simp at h
  | b :: l, 0, h => by
    simp only [List.getElem?_cons_zero, sJ] at h
    subst h
    simp
  | b :: l, i + 1, h => by
    have := kB l i (by simpa using h)
    simp only [List.set_cons_succ, List.count_cons]
    omega
theorem Inv.drawn {G : Gh} {σ : List OB} {w : World} (h : Inv G σ w) : Inv G σ { w with drawn := w.drawn + 1 } :=
  ⟨h.hH, h.hF, h.HF, h.len, fun b ob hb => (h.own b ob hb).keep (fun _ _ h => h) (aE.refl _) rfl (fun _ _ _ => rfl), h.inj, h.sep, h.os, h.tape, h.output, h.grow⟩
theorem hB {σ : List OB} {tr : List TS} (l : List Oper) (hlen : tr.length = l.length) (p : Nat) : ∀ (q : Nat), p ≤ q → q ≤ l.length → (∀ j, p ≤ j → j < q → dZ pv (av σ tr j) (av σ tr (j + 1))) → dZ pv (av σ tr p) (av σ tr q)
  | 0, h, _, _ => by have : p = 0 := by omega
                     subst this; exact dZ.refl _ _
  | q + 1, h, hq, he => by
    by_cases e : p = q + 1
    · subst e; exact dZ.refl _ _
    · exact (hB l hlen p q (by omega) (by omega) fun j h1 h2 => he j h1 (by omega)).trans (he q (by omega) (by omega))
theorem mg {v : Value} {c : CV} (h : eq v = some c) : gA (.c c) = none := by
  unfold eq at h
  split at h <;> first | (cases h; rfl) | cases h
theorem nQ (v : Value) : gA (ia v).v = none := by
  unfold ia
  split
  · split <;> rfl
  · split
    · rename_i h; exact mg h
    · rfl
theorem mh {l : List Oper} {masks : List Nat} {bs ps lt : List Bool} {rd : List (List Nat)} (c : kZ l.toArray l masks bs ps rd lt) {listed : Array Bool} (hs : listed.size = l.length) (h : Region.ready .any l.toArray listed = []) : ∀ i, i < l.length → listed.getD i false = true := by
  intro i
  induction i using Nat.strongRecOn with
  | _ i ih =>
    intro hi
    cases hd : listed.getD i false with
    | true => rfl
    | false =>
      exfalso
      have ho := List.getElem?_eq_getElem hi
      have : i ∈ Region.ready .any l.toArray listed := by
        refine mem_ready.2 ⟨?_, l[i], by simp, fun e he hb => ?_⟩
        · rw [Array.getD_eq_getD_getElem?] at hd ⊢
          rw [Array.getElem?_eq_getElem (by omega)] at hd ⊢
          simpa using hd
        · have hlt := c.lts i _ ho e.on (by simp only [dy, List.mem_map, List.mem_filter]; exact ⟨e, ⟨by simpa using he, hb⟩, rfl⟩)
          exact ih e.on hlt (by omega)
      rw [h] at this; simp at this
def iE (lt : List Bool) (l : List Oper) (tr : List TS) (E : Env) (σ : List OB) (G0 : Gh) (listed : Array Bool) (a : Act) (w : World) : Prop :=
  listed.size = l.length ∧ iD l (fun i => listed.getD i false) ∧
  ∃ G p, Gle G0 G ∧ p ≤ l.length ∧ (∀ (j : Nat) (o : Oper), l[j]? = some o → ld lt j o = true → listed.getD j false = decide (j < p)) ∧
    Inv G (av σ tr p) w ∧ a.defers = G.w0.ds ∧ a.tmps.size = E.n ∧ G.na = E.na ∧
    ∀ t, t < 512 → (da t l tr (fun i => listed.getD i false) (E.get t)).cond = true → ai G (da t l tr (fun i => listed.getD i false) (E.get t)).v (a.tmps.getD t undef)
theorem cS.at : ∀ {l : List Oper} {bs ps : List Bool} {rd : List (List Nat)} {lt : List Bool} {E : Env} {σ : List OB} {tr : List TS}, cS P ops pv l bs ps rd lt E σ tr → tr.length = l.length ∧
    ∀ (i : Nat) (o : Oper), l[i]? = some o → ∃ ts, tr[i]? = some ts ∧ me P ops pv (bC E l tr i) (av σ tr i) o (bs.getD i false) (ps.getD i false) (rd.getD i []) (lt.getD i false) ts ∧ av σ tr (i + 1) = ts.σ
  | [], bs, ps, rd, lt, E, σ, tr, h => by simp only [cS] at h; subst h; exact ⟨rfl, fun i o h => by simp at h⟩
  | o :: l, bs, ps, rd, lt, E, σ, tr, h => by
    obtain ⟨ts, r, rfl, h1, h2⟩ := h
    obtain ⟨h3, h4⟩ := cS.at h2
    refine ⟨by simp [h3], fun i o' ho => ?_⟩
    cases i with
    | zero =>
      simp only [List.getElem?_cons_zero, sJ] at ho
      subst ho
      refine ⟨ts, rfl, ?_, ?_⟩
      · cases bs <;> cases ps <;> cases rd <;> cases lt <;> exact h1
      · cases r <;> rfl
    | succ i =>
      obtain ⟨ts', k1, k2, k3⟩ := h4 i o' (by simpa using ho)
      refine ⟨ts', by simpa using k1, ?_, ?_⟩
      · cases bs <;> cases ps <;> cases rd <;> cases lt <;> simpa [bC, av] using k2
      · simpa [av] using k3
theorem hI {l : List Oper} {bs ps : List Bool} {rd : List (List Nat)} {lt : List Bool} {E : Env} {σ : List OB} {tr : List TS} (ht : cS P ops pv l bs ps rd lt E σ tr) {j : Nat} {o : Oper} (ho : l[j]? = some o) (hq : ld lt j o = false) : av σ tr (j + 1) = av σ tr j := by
  obtain ⟨_, h⟩ := ht.at
  obtain ⟨ts, _, h2, h3⟩ := h j o ho
  rw [h3]
  rcases h2.2.2 with ⟨hlt, h2⟩ | ⟨_, _, h⟩ | ⟨_, _, h⟩
  rotate_left
  · exact h
  · exact h
  have hq : di o = false := by unfold ld at hq; rw [hlt] at hq; simpa using hq
  obtain ⟨q1, q2⟩ := iB (P := P) (γ := ts.γ) (E := bC E l tr j) (σ := av σ tr j) hq
  rcases h2 with ⟨_, _, _, _, _, _, h⟩ | ⟨_, C, v, h, _⟩ | ⟨C, f, args, r, h, _⟩ | ⟨_, _, h⟩ | ⟨_, C, f, args, p, h, _⟩ | ⟨_, h, _⟩
  · exact h
  · exact (q1 _ _ _ h).elim
  · exact (q2 _ _ _ h).elim
  · exact h
  · exact (q2 _ _ _ h).elim
  · rw [hq] at h; cases h
theorem iF {l : List Oper} {bs ps : List Bool} {rd : List (List Nat)} {lt : List Bool} {E : Env} {σ : List OB} {tr : List TS} (ht : cS P ops pv l bs ps rd lt E σ tr) {p q : Nat} (hpq : p ≤ q) (hq : q ≤ l.length)
    (h : ∀ (j : Nat) (o : Oper), l[j]? = some o → p ≤ j → j < q → ld lt j o = false) : av σ tr q = av σ tr p := by
  induction q with
  | zero => have : p = 0 := by omega
            subst this; rfl
  | succ q ih =>
    by_cases e : p = q + 1
    · subst e; rfl
    · have hl : q < l.length := by omega
      rw [hI ht (List.getElem?_eq_getElem hl) (h q _ (List.getElem?_eq_getElem hl) (by omega) (by omega))]
      exact ih (by omega) (by omega) fun j o ho h1 h2 => h j o ho h1 (by omega)
theorem jU {l : List Oper} {bs ps : List Bool} {rd : List (List Nat)} {lt : List Bool} {E : Env} {σ : List OB} {tr : List TS} (ht : cS P ops pv l bs ps rd lt E σ tr) {j : Nat} {o : Oper} (ho : l[j]? = some o) (hb : bs.getD j false = false) :
    (ps.getD j false = false → Ext (av σ tr j) (av σ tr (j + 1))) ∧ dZ pv (av σ tr j) (av σ tr (j + 1)) := by
  obtain ⟨_, h⟩ := ht.at
  obtain ⟨ts, _, h2, h3⟩ := h j o ho
  rw [h3]
  have same : ∀ σ' : List OB, σ' = av σ tr j → (ps.getD j false = false → Ext (av σ tr j) σ') ∧ dZ pv (av σ tr j) σ' := fun σ' e => by
    subst e; exact ⟨fun _ => ⟨[], by simp⟩, dZ.refl _ _⟩
  have ext : Ext (av σ tr j) ts.σ → (ps.getD j false = false → Ext (av σ tr j) ts.σ) ∧ dZ pv (av σ tr j) ts.σ := fun e => ⟨fun _ => e, .of_ext e⟩
  rcases h2.2.2 with ⟨_, h2⟩ | ⟨_, _, h⟩ | ⟨_, _, h⟩
  rotate_left
  · exact same _ h
  · exact same _ h
  rcases h2 with ⟨_, _, _, _, _, _, h⟩ | ⟨_, C, v, h, _, _, h'⟩ | ⟨C, f, args, r, h, _, _, _, _, h'⟩ | ⟨_, _, h'⟩ | ⟨_, C, f, args, p, h, _, _, _, h'⟩ | ⟨_, _, v, _, _, h'⟩
  · exact same _ h
  · rcases h' with h' | h' | ⟨h', h''⟩
    · rw [hb] at h'; cases h'
    · exact ext h'
    · exact ⟨fun hp => by (rw [hp] at h'; cases h'), h''⟩
  · exact same _ h'
  · exact same _ h'
  · rcases h' with h' | h'
    · rw [hb] at h'; cases h'
    · exact ext h'
  · rcases h' with h' | h' | ⟨h', h''⟩
    · rw [hb] at h'; cases h'
    · exact ext h'
    · exact ⟨fun hp => by (rw [hp] at h'; cases h'), h''⟩
theorem iE.stepQ {l : List Oper} {bs ps : List Bool} {rd : List (List Nat)} {lt : List Bool} {masks : List Nat} {E : Env} {σ : List OB} {tr : List TS} (c : kZ l.toArray l masks bs ps rd lt) (ht : cS P l.toArray pv l bs ps rd lt E σ tr) (G0 : Gh) {Q : Exit → Act → World → Prop} (listed : Array Bool) (a : Act) (w : World) (i : Nat)
    (hJ : iE lt l tr E σ G0 listed a w) (hready : i ∈ Region.ready .any l.toArray listed) : wpOp P l.toArray Q i (iE lt l tr E σ G0 (listed.setIfInBounds i true)) a w := by
  obtain ⟨hsz, hcl, G, p, hG, hp, hloud, hinv, hdef, htm, hna, hslot⟩ := hJ
  obtain ⟨hun, o, ho', hdeps⟩ := mem_ready.1 hready
  have ho : l[i]? = some o := by simpa using ho'
  have hil : i < l.length := (List.getElem?_eq_some_iff.1 ho).1
  have hi0 : listed.getD i false = false := by
    rw [Array.getD_eq_getD_getElem?] at hun ⊢
    rw [Array.getElem?_eq_getElem (by omega)] at hun ⊢
    simpa using hun
  have hr : ∀ j ∈ dy o, listed.getD j false = true := by
    intro j hj
    simp only [dy, List.mem_map, List.mem_filter] at hj
    obtain ⟨e, ⟨h1, h2⟩, rfl⟩ := hj
    exact hdeps e (by simpa using h1) h2
  have hdone := fun {j : Nat} {y : Oper} (hy : l[j]? = some y) (hord : fc masks i j = true ∨ fc masks j i = true) => c.done hcl ho hi0 hr hy hord
  obtain ⟨htl, hat⟩ := ht.at
  obtain ⟨ts, hts, ⟨hguard, hdst, hstep⟩, hnext⟩ := hat i o ho
  have hcl' : iD l (fun k => (listed.setIfInBounds i true).getD k false) := by
    intro k ok hk hd j hj
    simp only at hd ⊢
    rw [oK _ _ _ (by omega)] at hd ⊢
    by_cases e : k = i
    · subst e; rw [ho] at hk; simp only [sJ] at hk; subst hk
      by_cases e' : j = k
      · rw [iP e']
      · rw [iN e']; exact hr j hj
    · rw [iN e] at hd
      by_cases e' : j = i
      · rw [iP e']
      · rw [iN e']; exact hcl k ok hk hd j hj
  have hsz' : (listed.setIfInBounds i true).size = l.length := by simpa using hsz
  have hEn := kY l tr E i
  have hlook := c.look i o ho
  have hreads : ∀ t ∈ o.looksAt l.toArray, (bC E l tr i).get t = da t l tr (fun j => listed.getD j false) (E.get t) := by
    intro t htm'
    rw [jb t l tr E i (fun j o x hj hd => c.dst j o hj x hd) htl]
    apply eg
    intro j y hy hd
    refine (hdone hy (.inr ?_)).symm
    refine c.hit j i y o hy ho ?_
    simp only [m9, hd, Bool.or_eq_true]
    left
    simpa using htm'
  have hres := iW (bC E l tr i) (o.looksAt l.toArray)
  have hgetr : ∀ t ∈ o.looksAt l.toArray, (cR (bC E l tr i) (o.looksAt l.toArray)).get t = (bC E l tr i).get t := fun t h => (hres t hlook).1 h
  have hsim : Sim G (cR (bC E l tr i) (o.looksAt l.toArray)) (av σ tr p) a w := by
    refine ⟨hinv, hdef, by rw [(iC _ _).1, hEn.1]; exact htm, by rw [(iC _ _).2, hEn.2]; exact hna, fun t hc => ?_⟩
    by_cases hmem : t ∈ o.looksAt l.toArray
    · rw [hgetr t hmem, hreads t hmem] at hc ⊢
      exact hslot t (hlook t hmem) hc
    · rw [(hres t hlook).2 hmem] at hc; cases hc
  have hops : ∀ x ∈ o.op.operands, ev (cR (bC E l tr i) (o.looksAt l.toArray)) x = ev (bC E l tr i) x := by
    intro x hx
    refine nP (ts := o.looksAt l.toArray) (fun t h => hgetr t h) x fun t e => ?_
    subst e
    simp only [Oper.looksAt, List.mem_append, List.mem_filterMap]
    left
    exact ⟨.tmp t, by simpa using hx, rfl⟩
  have hguard' : cn l.toArray (cR (bC E l tr i) (o.looksAt l.toArray)) o.guard = some ts.γ := by
    rw [ko o hgetr]; exact hguard
  have hwant := fv (P := P) hsim hguard'
  have hdlt : ∀ d, o.dst = some d → d < a.tmps.size := by
    intro d hd
    rw [htm]
    rw [hd] at hdst
    have h' : d < (bC E l tr i).n := hdst
    rwa [hEn.1] at h'
  have hslot' : ∀ (G' : Gh) (val : Value), (∀ q v, ai G q v → ai G' q v) → (ts.e.cond = true → ai G' ts.e.v val) → ∀ t, t < 512 →
      (da t l tr (fun k => (listed.setIfInBounds i true).getD k false) (E.get t)).cond = true →
      ai G' (da t l tr (fun k => (listed.setIfInBounds i true).getD k false) (E.get t)).v ((a.put o.dst val).tmps.getD t undef) := by
    intro G' val hmono hval t ht512 hc
    have hfun : (fun k => (listed.setIfInBounds i true).getD k false) = (fun k => if k = i then true else listed.getD k false) := by
      funext k; exact oK _ _ _ (by omega)
    rw [hfun] at hc ⊢
    by_cases hd : o.dst = some t
    · rw [kA t l tr _ _ i o ts ho hts hd (fun j y hy hdy hij => by
          have := hdone hy (.inr (c.hit j i y o hy ho (by simp [m9, hdy, hd])))
          rw [this]; simp; omega)] at hc ⊢
      have hlt := hdlt t hd
      have : (a.put o.dst val).tmps.getD t undef = val := by rw [hd]; simp [Act.put, Array.getD, hlt]
      rw [this]; exact hval hc
    · rw [lD t l tr _ _ i o ho hd] at hc ⊢
      have : (a.put o.dst val).tmps.getD t undef = a.tmps.getD t undef := by
        cases hod : o.dst with
        | none => rfl
        | some d =>
          have hne : d ≠ t := fun e => hd (by rw [hod, e])
          simp only [Act.put, Array.getD_eq_getD_getElem?]
          rw [Array.getElem?_setIfInBounds_ne hne]
      rw [this]
      exact hmono _ _ (hslot t ht512 hc)
  have hput : ∀ val, (a.put o.dst val).defers = G.w0.ds ∧ (a.put o.dst val).tmps.size = E.n := by
    intro val; cases o.dst <;> simp [Act.put, hdef, htm]
  have hheap : ld lt i o = true → av σ tr p = av σ tr i := by
    intro hl
    have key : ∀ (j : Nat) (y : Oper), l[j]? = some y → ld lt j y = true → (j < p ↔ j < i) := by
      intro j y hy hly
      have h1 := hloud j y hy hly
      have h2 := hdone hy (.inl (c.loud i j o y ho hy hl hly))
      rw [h2] at h1
      simpa using h1.symm
    rcases Nat.le_total p i with h | h
    · exact (iF ht h (by omega) fun j y hy h1 h2 => by
        cases hly : ld lt j y with
        | false => rfl
        | true => have := (key j y hy hly).2 h2; omega).symm
    · exact iF ht h hp fun j y hy h1 h2 => by
        cases hly : ld lt j y with
        | false => rfl
        | true => have := (key j y hy hly).1 h2; omega
  have hloud' : ld lt i o = true → ∀ (j : Nat) (y : Oper), l[j]? = some y → ld lt j y = true → (listed.setIfInBounds i true).getD j false = decide (j < i + 1) := by
    intro hl j y hy hly
    rw [oK _ _ _ (by omega)]
    by_cases e : j = i
    · subst e; simp
    · rw [iN e, hdone hy (.inl (c.loud i j o y ho hy hl hly))]
      simp; omega
  have hquiet' : ld lt i o = false → ∀ (j : Nat) (y : Oper), l[j]? = some y → ld lt j y = true → (listed.setIfInBounds i true).getD j false = decide (j < p) := by
    intro hl j y hy hly
    rw [oK _ _ _ (by omega)]
    by_cases e : j = i
    · subst e; rw [ho] at hy; simp only [sJ] at hy; subst hy; rw [hl] at hly; cases hly
    · rw [iN e]; exact hloud j y hy hly
  have stay : ∀ (G' : Gh) (w' : World) (val : Value), Gle G G' → aE G.own G'.own → Inv G' (av σ tr p) w' → ts.σ = av σ tr i → (ts.e.cond = true → ai G' ts.e.v val) → iE lt l tr E σ G0 (listed.setIfInBounds i true) (a.put o.dst val) w' := by
    intro G' w' val h1 h2 h3 h4 h5
    refine ⟨hsz', hcl', ?_⟩
    have hm : ∀ q v, ai G q v → ai G' q v := fun q v h => ai.mono h1.le.H h2 h
    cases hl : ld lt i o with
    | true =>
      refine ⟨G', i + 1, hG.trans h1, by omega, hloud' hl, ?_, (hput val).1.trans (by rw [h1.le.w0]), (hput val).2, h1.le.na.trans hna, hslot' G' val hm h5⟩
      rw [hnext, h4, ← hheap hl]; exact h3
    | false => exact ⟨G', p, hG.trans h1, hp, hquiet' hl, h3, (hput val).1.trans (by rw [h1.le.w0]), (hput val).2, h1.le.na.trans hna, hslot' G' val hm h5⟩
  unfold wpOp
  simp only [ho']
  have skip : ts.γ = false → (ts.e.cond = true → ai G ts.e.v undef) → ts.σ = av σ tr i → (if Region.wanted o (yielded l.toArray a.tmps) = true then o.wp P a w (iE lt l tr E σ G0 (listed.setIfInBounds i true)) Q ∨ (o.asks P a w ∧ LetsOut Q) else iE lt l tr E σ G0 (listed.setIfInBounds i true) (a.put o.dst undef) w) := by
    intro hγ hc hσ
    rw [iN (by rw [hwant, hγ]; simp)]
    exact stay G w undef (Gle.refl G) (aE.refl _) hinv hσ hc
  rcases hstep with ⟨hlt, hstep⟩ | ⟨hγ, ⟨v, hx, he⟩, hσ⟩ | ⟨hγ, he, hσ⟩
  rotate_left
  · rw [iP (by rw [hwant, hγ])]
    left
    obtain ⟨nx, val, w', G', e1, e2, e3, e4, e5, e6⟩ := hx _ hops _ G a w hsim
    have hfin := stay G' w' val (Gle.mk' e3 e4) e4 e5 hσ (fun _ => by rw [he]; exact e6)
    unfold Oper.wp
    rw [e1]
    rcases e2 with rfl | ⟨rfl, rfl⟩
    · exact hfin
    · exact hfin
  · exact skip hγ (by rw [he]; exact fun _ => ⟨[], rfl, trivial⟩) hσ
  have hld : ld lt i o = di o := by unfold ld; rw [hlt]; simp
  rcases hstep with ⟨C, v, hrun, hC, hrd, he, hσ⟩ | ⟨hγ, C, v, hrun, hC, he, _⟩ | ⟨C, f, args, r, hrun, hC, hargs, hres', he, hσ⟩ | ⟨hγ, he, hσ⟩ | ⟨hγ, C, f, args, r, hrun, hC, hto, he, _⟩ | ⟨hγ, hl, v, hx, he, _⟩
  · cases hγ : ts.γ with
    | false => exact skip hγ (by rw [he, hγ]; intro h; cases h) hσ
    | true =>
      rw [iP (by rw [hwant, hγ])]
      left
      rw [hγ] at hrun
      have hrun1 := (gy (P := P) (γ := true) (σ := av σ tr i) o.op hops).trans hrun
      have hlo : di o = false ∨ di o = true := by cases di o <;> simp
      have notbar : ∀ (j : Nat) (y : Oper), l[j]? = some y → ld lt j y = true → listed.getD j false ≠ decide (j < i) → bs.getD j false = false := by
        intro j y hy hly hne
        cases hb : bs.getD j false with
        | false => rfl
        | true => exact (hne (hdone hy (.inr (c.bar j i y o hy ho hb)))).elim
      have one : ∀ (j : Nat), j < l.length → (∀ y, l[j]? = some y → ld lt j y = true → listed.getD j false ≠ decide (j < i)) → dZ pv (av σ tr j) (av σ tr (j + 1)) := by
        intro j hj hne
        have hy := List.getElem?_eq_getElem hj
        cases hly : ld lt j l[j] with
        | false => rw [hI ht hy hly]; exact dZ.refl _ _
        | true => exact (jU ht hy (notbar j _ hy hly (hne _ hy hly))).2
      have onePv : (∀ j y, l[j]? = some y → ps.getD j false = true → fc masks i j = true) → ∀ (j : Nat), j < l.length → (∀ y, l[j]? = some y → ld lt j y = true → listed.getD j false ≠ decide (j < i)) → dZ [] (av σ tr j) (av σ tr (j + 1)) := by
        intro hord j hj hne
        have hy := List.getElem?_eq_getElem hj
        cases hly : ld lt j l[j] with
        | false => rw [hI ht hy hly]; exact dZ.refl _ _
        | true =>
          refine .of_ext ((jU ht hy (notbar j _ hy hly (hne _ hy hly))).1 ?_)
          cases hp : ps.getD j false with
          | false => rfl
          | true => exact (hne _ hy hly (hdone hy (.inl (hord j _ hy hp)))).elim
      have reach : ∀ (q : List Nat), (∀ (j : Nat), j < l.length → (∀ y, l[j]? = some y → ld lt j y = true → listed.getD j false ≠ decide (j < i)) → dZ q (av σ tr j) (av σ tr (j + 1))) → dZ q (av σ tr p) (av σ tr i) ∨ dZ q (av σ tr i) (av σ tr p) := by
        intro q hone
        rcases Nat.le_total p i with h | h
        · left
          refine hB l htl p i h (by omega) fun j h1 h2 => hone j (by omega) fun y hy hly => ?_
          rw [hloud j y hy hly]; simp; omega
        · right
          refine hB l htl i p h hp fun j h1 h2 => hone j (by omega) fun y hy hly => ?_
          rw [hloud j y hy hly]; simp; omega
      have fromNear : ∀ (q : List Nat) (b : Nat) (ob : OB), dZ q (av σ tr p) (av σ tr i) ∨ dZ q (av σ tr i) (av σ tr p) → b ∉ q → b < (av σ tr p).length → (av σ tr i)[b]? = some ob → (av σ tr p)[b]? = some ob := by
        intro q b ob hn hb hlt hob
        rcases hn with h | h
        · rw [← h.2 b hb hlt]; exact hob
        · rw [h.2 b hb (List.getElem?_eq_some_iff.1 hob).1]; exact hob
      obtain ⟨C', hrun2, hC'⟩ := nb (σ' := av σ tr p) hrun1 hC (fun x hc b ob htop hb => by
        have hlt := nd hinv (bp hsim x hc) htop
        rcases hlo with hl | hl
        · rcases c.see i o ho hl with hsee | hsee
          · refine fromNear pv b ob (reach pv one) ?_ hlt hb
            cases x with
            | tmp t =>
              by_cases hmem : t ∈ o.looksAt l.toArray
              · have h1 := List.all_eq_true.1 hrd t (hsee t hmem)
                have h2 : (cR (bC E l tr i) (o.looksAt l.toArray)).get t = (bC E l tr i).get t := hgetr t hmem
                have htop' : gA ((bC E l tr i).get t).v = some b := by rw [← h2]; exact htop
                simp only [mF, htop'] at h1
                simpa using h1
              · exfalso
                have : ((cR (bC E l tr i) (o.looksAt l.toArray)).get t).cond = true := hc
                rw [(hres t hlook).2 hmem] at this; cases this
            | const v =>
              exfalso
              have h1 : gA (ia v).v = some b := htop
              rw [nQ] at h1; cases h1
            | func f => cases htop
            | global g => cases htop
          · exact fromNear [] b ob (reach [] (onePv hsee)) (by simp) hlt hb
        · rw [hheap (hld.trans hl)]; exact hb)
      obtain ⟨val, e1, e2⟩ := mC hsim rfl o hrun2 hC'
      unfold Oper.wp
      rw [e1]
      exact stay G w val (Gle.refl G) (aE.refl _) hinv hσ fun _ => by rw [he]; exact e2
  · rw [iP (by rw [hwant, hγ])]
    left
    rw [hγ] at hrun
    have hl : ld lt i o = true := by
      rw [hld]
      cases hl : di o with
      | true => rfl
      | false => exact ((iB hl).1 _ _ _ hrun).elim
    have hrun1 := (gy (P := P) (γ := true) (σ := av σ tr i) o.op hops).trans hrun
    rw [← hheap hl] at hrun1
    obtain ⟨nx, val, w', G', e1, e2, e3, e4, e5, e6⟩ := lC hsim rfl o hrun1 hC
    have hfin : iE lt l tr E σ G0 (listed.setIfInBounds i true) (a.put o.dst val) w' :=
      ⟨hsz', hcl', G', i + 1, hG.trans (Gle.mk' e3 e4), by omega, hloud' hl, by rw [hnext]; exact e5, (hput val).1.trans (by rw [e3.w0]), (hput val).2, e3.na.trans hna,
        hslot' G' val (fun q v h => ai.mono e3.H e4 h) fun _ => by rw [he]; exact e6⟩
    unfold Oper.wp
    rw [e1]
    rcases e2 with rfl | ⟨rfl, rfl⟩
    · exact hfin
    · exact hfin
  · cases hγ : ts.γ with
    | false => exact skip hγ (by rw [he, hγ]; intro h; cases h) hσ
    | true =>
      rw [iP (by rw [hwant, hγ])]
      left
      rw [hγ] at hrun
      obtain ⟨hC1, hspec⟩ := hC hγ
      have hrun1 := (gy (P := P) (γ := true) (σ := av σ tr i) o.op hops).trans hrun
      have hrun2 := jT (σ' := av σ tr p) hrun1
      exact nc hsim o hrun2 hC1 hspec hargs hres' fun G' w' v h1 h2 h3 h4 => stay G' w' v h1 h2 h3 hσ fun _ => by rw [he]; exact h4
  · exact skip hγ (by rw [he]; exact fun _ => ⟨[], rfl, trivial⟩) hσ
  · rw [iP (by rw [hwant, hγ])]
    left
    rw [hγ] at hrun
    have hl : ld lt i o = true := by
      rw [hld]
      cases hl : di o with
      | true => rfl
      | false => exact ((iB hl).2 _ _ _ hrun).elim
    have hrun1 := (gy (P := P) (γ := true) (σ := av σ tr i) o.op hops).trans hrun
    rw [← hheap hl] at hrun1 hto
    exact mc hsim o hrun1 hC hto fun G' w' v h1 h2 h3 h4 h5 =>
      ⟨hsz', hcl', G', i + 1, hG.trans h1, by omega, hloud' hl, by rw [hnext]; exact h4, (hput v).1.trans (by rw [h1.le.w0]), (hput v).2, h1.le.na.trans hna,
        hslot' G' v (fun q v h => ai.mono h2 h3 h) fun _ => by rw [he]; exact h5⟩
  · rw [iP (by rw [hwant, hγ])]
    left
    have hl : ld lt i o = true := hld.trans hl
    rw [← hheap hl] at hx
    obtain ⟨nx, val, w', G', e1, e2, e3, e4, e5, e6⟩ := hx _ hops G a w hsim
    have hfin : iE lt l tr E σ G0 (listed.setIfInBounds i true) (a.put o.dst val) w' :=
      ⟨hsz', hcl', G', i + 1, hG.trans (Gle.mk' e3 e4), by omega, hloud' hl, by rw [hnext]; exact e5, (hput val).1.trans (by rw [e3.w0]), (hput val).2, e3.na.trans hna,
        hslot' G' val (fun q v h => ai.mono e3.H e4 h) fun _ => by rw [he]; exact e6⟩
    unfold Oper.wp
    rw [e1]
    rcases e2 with rfl | ⟨rfl, rfl⟩
    · exact hfin
    · exact hfin
theorem nf {l : List Oper} {masks : List Nat} {bs ps : List Bool} {rd : List (List Nat)} {lt : List Bool} {E : Env} {σ : List OB} {tr : List TS} (c : kZ l.toArray l masks bs ps rd lt) (ht : cS P l.toArray pv l bs ps rd lt E σ tr) (G0 : Gh) {Q : Exit → Act → World → Prop}
    (fin : ∀ G a w, Gle G0 G → Sim G (bC E l tr l.length) (av σ tr l.length) a w → Q .normal a w) :
    ∀ (fuel : Nat) (listed : Array Bool) (a : Act) (w : World), listed.toList.count false ≤ fuel → iE lt l tr E σ G0 listed a w → wpAny P .any l.toArray Q fuel listed a w := by
  have done : ∀ (listed : Array Bool) (a : Act) (w : World), iE lt l tr E σ G0 listed a w → Region.ready .any l.toArray listed = [] → Q .normal a w := by
    intro listed a w hJ hr
    obtain ⟨hsz, hcl, G, p, hG, hp, hloud, hinv, hdef, htm, hna, hslot⟩ := hJ
    have hall := mh c hsz hr
    obtain ⟨htl, hat⟩ := ht.at
    have hE := kY l tr E l.length
    have hheap : av σ tr l.length = av σ tr p := iF ht hp (Nat.le_refl _) fun j y hy h1 h2 => by
      cases hly : ld lt j y with
      | false => rfl
      | true =>
        have := hloud j y hy hly
        rw [hall j h2] at this
        have : j < p := by simpa using this.symm
        omega
    refine fin G a w hG ⟨by rw [hheap]; exact hinv, hdef, by rw [hE.1]; exact htm, by rw [hE.2]; exact hna, fun t hc => ?_⟩
    by_cases h512 : t < 512
    · have hg : (bC E l tr l.length).get t = da t l tr (fun i => listed.getD i false) (E.get t) := by
        rw [jb t l tr E l.length (fun j o x hj hd => c.dst j o hj x hd) htl]
        apply eg
        intro j y hy _
        have hlt := (List.getElem?_eq_some_iff.1 hy).1
        simp [hlt, hall j hlt]
      rw [hg] at hc ⊢
      exact hslot t h512 hc
    · rw [Env.get_big _ t (by omega)] at hc; cases hc
  intro fuel
  induction fuel with
  | zero =>
    intro listed a w hf hJ
    have hr : Region.ready .any l.toArray listed = [] := by
      rw [List.eq_nil_iff_forall_not_mem]
      intro i hi
      obtain ⟨h1, o, ho, _⟩ := mem_ready.1 hi
      have hlt : i < listed.size := by rw [hJ.1]; have := (Array.getElem?_eq_some_iff.1 ho).1; simpa using this
      have : listed.toList[i]? = some false := by
        rw [Array.getD_eq_getD_getElem?, Array.getElem?_eq_getElem hlt] at h1
        rw [Array.getElem?_toList, Array.getElem?_eq_getElem hlt]
        simpa using h1
      have hpos := List.count_pos_iff.2 (List.mem_of_getElem? this)
      omega
    exact ⟨hr, done listed a w hJ hr⟩
  | succ fuel ih =>
    intro listed a w hf hJ
    refine ⟨fun hr => done listed a w hJ hr, fun i hi => ?_⟩
    have hstep := iE.stepQ (Q := Q) c ht G0 listed a w i hJ hi
    refine wpOp_mono (fun a' w' hJ' => ih _ a' w' ?_ hJ') hstep
    obtain ⟨h1, o, ho, _⟩ := mem_ready.1 hi
    have hlt : i < listed.size := by rw [hJ.1]; have := (Array.getElem?_eq_some_iff.1 ho).1; simpa using this
    have : listed.toList[i]? = some false := by
      rw [Array.getD_eq_getD_getElem?, Array.getElem?_eq_getElem hlt] at h1
      rw [Array.getElem?_toList, Array.getElem?_eq_getElem hlt]
      simpa using h1
    have hc := kB _ _ this
    simp only [Array.toList_setIfInBounds]
    omega
def TRQ (P : Program) (ops : Array Oper) (pv : List Nat) (l : List Oper) (bs ps : List Bool) (rd : List (List Nat)) (lt : List Bool) (E : Env) (σ : List OB) (k : Env → List OB → Prop) : Prop :=
  ∃ tr, cS P ops pv l bs ps rd lt E σ tr ∧ k (bC E l tr l.length) (av σ tr l.length)
theorem mG {id : Nat} {l : List Oper} {K : Kt} {E : Env} {σ : List OB} (hm : P.follows .mixedOrders = true) (pv masks : List Nat) (bs ps : List Bool) (rd : List (List Nat)) (lt : List Bool) (hc : md l.toArray l masks bs ps rd lt = true)
    (h : TRQ P l.toArray pv l bs ps rd lt E σ (K .normal)) : W P (.region id l.toArray true) K E σ := fun G a w hs => by
  obtain ⟨tr, ht, hk⟩ := h
  refine wp_region_any hm ?_
  refine nf (oL hc) ht G (fun G' a' w' hG hs' => ⟨G', _, _, .normal, hG, hs', rfl, hk⟩) _ _ a _ ?_ ?_
  · simp
  · have hfalse : ∀ i, (Array.replicate l.length false).getD i false = false := by
      intro i
      rw [Array.getD_eq_getD_getElem?, Array.getElem?_replicate]
      split <;> rfl
    refine ⟨by simp, fun i o ho hd => by simp [hfalse] at hd, G, 0, Gle.refl G, by omega, fun j o ho hl => by simp [hfalse], ?_, hs.defers, hs.size, hs.na, fun t ht hc => ?_⟩
    · have : av σ tr 0 = σ := by cases tr <;> rfl
      rw [this]; exact hs.inv.drawn
    · have : da t l tr (fun i => (Array.replicate l.length false).getD i false) (E.get t) = E.get t := iA t l tr _ _ fun j o _ _ => hfalse j
      simp only [List.size_toArray] at hc ⊢
      rw [this] at hc ⊢
      exact hs.slot t hc
theorem cS.of {ops : Array Oper} : ∀ {l : List Oper} {bs : List Bool} {E : Env} {σ : List OB} {tr : List TS}, jo P ops l bs E σ tr → cS P ops [] l bs [] [] [] E σ tr
  | [], _, _, _, _, h => h
  | o :: l, bs, E, σ, tr, ⟨ts, r, h1, ⟨h2, h3, h4⟩, h5⟩ => by
    refine ⟨ts, r, h1, ⟨h2, h3, .inl ⟨rfl, ?_⟩⟩, cS.of h5⟩
    rcases h4 with ⟨C, v, a, b, c, d⟩ | ⟨a, C, v, b, c, d, e⟩ | h | h | h | h
    · exact .inl ⟨C, v, a, b, rfl, c, d⟩
    · exact .inr (.inl ⟨a, C, v, b, c, d, e.imp id .inl⟩)
    · exact .inr (.inr (.inl h))
    · exact .inr (.inr (.inr (.inl h)))
    · exact .inr (.inr (.inr (.inr (.inl h))))
    · obtain ⟨a, b, v, c, d, e⟩ := h
      exact .inr (.inr (.inr (.inr (.inr ⟨a, b, v, c, d, e.imp id .inl⟩))))
theorem jV (i : Nat) (o : Oper) : ld [] i o = di o := by simp [ld]
theorem oM {ops : Array Oper} {l : List Oper} {masks : List Nat} {bs : List Bool} (h : chk ops l masks bs = true) : md ops l masks bs [] [] [] = true := by
  unfold chk at h
  unfold md
  rw [show ld ([] : List Bool) = fun _ o => di o from by funext i o; exact jV i o]
  refine Bool.and_eq_true_iff.2 ⟨h, ?_⟩
  rw [List.all_eq_true]
  intro x _
  simp only [Bool.or_eq_true, List.all_eq_true]
  right
  intro y _
  simp
end
end Pam
namespace Pam
open Go
section
variable {P : Program}
theorem Chk.q {ops : Array Oper} {l : List Oper} {masks : List Nat} {bs : List Bool} (c : Chk ops l masks bs) : kZ ops l masks bs [] [] [] :=
 ⟨c.mask, c.lt, c.dst, c.look, fun i j x y h1 h2 h3 h4 => c.loud i j x y h1 h2 (by rwa [jV] at h3) (by rwa [jV] at h4), c.hit, c.bar, fun _ _ _ _ => .inr fun j y _ h => by simp at h⟩
theorem lE (l : List Oper) (tr : List TS) (E : Env) (σ : List OB) (G0 : Gh) (listed : Array Bool) (a : Act) (w : World) : iE [] l tr E σ G0 listed a w = StJ l tr E σ G0 listed a w := by
 unfold iE StJ
 rw [show ld ([] : List Bool) = fun _ o => di o from by funext i o; exact jV i o]
theorem StJ.step {l : List Oper} {bs : List Bool} {masks : List Nat} {E : Env} {σ : List OB} {tr : List TS} (c : Chk l.toArray l masks bs) (ht : jo P l.toArray l bs E σ tr) (G0 : Gh) {Q : Exit → Act → World → Prop} (listed : Array Bool) (a : Act) (w : World) (i : Nat)
  (hJ : StJ l tr E σ G0 listed a w) (hready : i ∈ Region.ready .any l.toArray listed) : wpOp P l.toArray Q i (StJ l tr E σ G0 (listed.setIfInBounds i true)) a w := by
 have h := iE.stepQ (Q := Q) c.q (cS.of ht) G0 listed a w i (by rw [lE]; exact hJ) hready
 rwa [show (iE [] l tr E σ G0 (listed.setIfInBounds i true)) = StJ l tr E σ G0 (listed.setIfInBounds i true) from by funext a w; exact lE _ _ _ _ _ _ _ _] at h
def TR (P : Program) (ops : Array Oper) (l : List Oper) (bs : List Bool) (E : Env) (σ : List OB) (k : Env → List OB → Prop) : Prop :=
 ∃ tr, jo P ops l bs E σ tr ∧ k (bC E l tr l.length) (av σ tr l.length)
def jr : List OB → List OB → Prop
 | [], _ => True
 | a :: az, b :: bs => a = b ∧ jr az bs
 | _ :: _, [] => False
theorem jy : ∀ {σ σ' : List OB}, jr σ σ' → Ext σ σ'
 | [], σ', _ => ⟨σ', rfl⟩
 | a :: az, b :: bs, ⟨h1, h2⟩ => by obtain ⟨ρ, h⟩ := jy h2; exact ⟨ρ, by rw [h1, h]; rfl⟩
def oN (P : Program) (ops : Array Oper) (γ : Bool) (C : Prop) (f : FuncId) (args : List PV) (o : Oper) (r : List Oper) (bs : List Bool) (E : Env) (σ : List OB) (k : Env → List OB → Prop) : Prop :=
 aH P γ E σ o.op = .call C f args → cn ops E o.guard = some γ → TR P ops (o :: r) bs E σ k
def kC (P : Program) (ops : Array Oper) (γ : Bool) (o : Oper) (r : List Oper) (bs : List Bool) (E : Env) (σ : List OB) (k : Env → List OB → Prop) (run : Env → List OB → Prop) : R → Prop
 | .ok C v => cZ E o.dst ∧ C ∧ run (E.putD o.dst ⟨γ, v⟩) σ
 | .upd C v σ' => cZ E o.dst ∧ γ = true ∧ C ∧ (bs.headD false = true ∨ jr σ σ') ∧ run (E.putD o.dst ⟨true, v⟩) σ'
 | .call C f args => oN P ops γ C f args o r bs E σ k
 | .bad => False
def fC (P : Program) (ops : Array Oper) : List Oper → List Bool → Env → List OB → (Env → List OB → Prop) → Prop
 | [], _, E, σ, k => k E σ
 | o :: r, bs, E, σ, k =>
  match cn ops E o.guard with
  | none => False
  | some false => cZ E o.dst ∧ fC P ops r bs.tail (E.putD o.dst ⟨true, .t []⟩) σ k
  | some true => kC P ops true o r bs E σ k (fun E' σ' => fC P ops r bs.tail E' σ' k) (aH P true E σ o.op)
theorem TR.cons {ops : Array Oper} {o : Oper} {r : List Oper} {bs : List Bool} {E : Env} {σ : List OB} {k : Env → List OB → Prop} {ts : TS} (h : nN P ops E σ o (bs.headD false) ts) (ht : TR P ops r bs.tail (E.putD o.dst ts.e) ts.σ k) : TR P ops (o :: r) bs E σ k := by
 obtain ⟨tr, h1, h2⟩ := ht
 refine ⟨ts :: tr, ⟨ts, tr, rfl, h, h1⟩, ?_⟩
 simpa [bC, av] using h2
theorem f8 {ops : Array Oper} : ∀ (l : List Oper) (bs : List Bool) (E : Env) (σ : List OB) (k : Env → List OB → Prop), fC P ops l bs E σ k → TR P ops l bs E σ k
 | [], bs, E, σ, k, h => ⟨[], rfl, by unfold fC at h; simpa [bC, av] using h⟩
 | o :: r, bs, E, σ, k, h => by
  unfold fC at h
  split at h
  ·exact h.elim
  ·rename_i hγ
   exact TR.cons (ts := ⟨false, ⟨true, .t []⟩, σ⟩) ⟨hγ, h.1, .inr (.inr (.inr (.inl ⟨rfl, rfl, rfl⟩)))⟩ (f8 r _ _ _ _ h.2)
  ·rename_i hγ
   unfold kC at h
   split at h
   ·rename_i C v hrun
    obtain ⟨hd, hC, hr⟩ := h
    exact TR.cons (ts := ⟨true, ⟨true, v⟩, σ⟩) ⟨hγ, hd, .inl ⟨C, v, hrun, hC, rfl, rfl⟩⟩ (f8 r _ _ _ _ hr)
   ·rename_i C v σ' hrun
    obtain ⟨hd, hg, hC, hb, hr⟩ := h
    exact TR.cons (ts := ⟨true, ⟨true, v⟩, σ'⟩) ⟨hγ, hd, .inr (.inl ⟨rfl, C, v, hrun, hC, rfl, hb.imp id jy⟩)⟩ (f8 r _ _ _ _ hr)
   ·rename_i C f args hrun
    exact h hrun hγ
   ·exact h.elim
theorem nR {id : Nat} {l : List Oper} {K : Kt} {E : Env} {σ : List OB} (hm : P.follows .mixedOrders = true) (masks : List Nat) (bs : List Bool) (hc : chk l.toArray l masks bs = true)
  (h : TR P l.toArray l bs E σ (K .normal)) : W P (.region id l.toArray true) K E σ := by
 obtain ⟨tr, ht, hk⟩ := h
 exact mG hm [] masks bs [] [] [] (oM hc) ⟨tr, cS.of ht, hk⟩
end
end Pam
namespace Pam
open Go
theorem mH (γ : Bool) (v : PV) : ab γ ⟨true, v⟩ = True := by simp [ab]
theorem kD (γ : Bool) (v : PV) : ab γ ⟨γ, v⟩ = True := by simp [ab]
section
variable (n na : Nat) (t x a0 a1 a2 a3 a4 a5 a6 a7 : Tr) (e : Ent) (i : Nat)
theorem nS :
    ((∀ (n na : Nat) (t : Tr) (i : Nat), Env.get ⟨n, na, t⟩ i = (((t.get (i / 64)).get (i / 8 % 8)).get (i % 8)).ent) ∧
     (∀ (n na : Nat) (t : Tr) (i : Nat) (e : Ent), Env.put ⟨n, na, t⟩ i e = ⟨n, na, t.put (i / 64) ((t.get (i / 64)).put (i / 8 % 8) (((t.get (i / 64)).get (i / 8 % 8)).put (i % 8) (.leaf e)))⟩) ∧
     (∀ (E : Env) (i : Nat) (e : Ent), Env.putD E (some i) e = E.put i e) ∧ (∀ (E : Env) (e : Ent), Env.putD E none e = E) ∧
     (∀ (n na : Nat) (t : Tr) (d : Tmp), cZ ⟨n, na, t⟩ (some d) = (d < n)) ∧ (∀ E : Env, cZ E none = True)) ∧
    ((∀ i, Tr.get .nil i = .nil) ∧ (∀ e, Tr.ent (.leaf e) = e) ∧ Tr.ent .nil = ⟨false, .x⟩) :=
  ⟨⟨fun _ _ _ _ => rfl, fun _ _ _ _ _ => rfl, fun _ _ _ => rfl, fun _ _ => rfl, fun _ _ _ _ => rfl, fun _ => rfl⟩, fun _ => rfl, fun _ => rfl, rfl⟩
theorem nT :
    ((∀ a0 a1 a2 a3 a4 a5 a6 a7, Tr.get (.node a0 a1 a2 a3 a4 a5 a6 a7) 0 = a0) ∧ (∀ a0 a1 a2 a3 a4 a5 a6 a7, Tr.get (.node a0 a1 a2 a3 a4 a5 a6 a7) 1 = a1) ∧
     (∀ a0 a1 a2 a3 a4 a5 a6 a7, Tr.get (.node a0 a1 a2 a3 a4 a5 a6 a7) 2 = a2) ∧ (∀ a0 a1 a2 a3 a4 a5 a6 a7, Tr.get (.node a0 a1 a2 a3 a4 a5 a6 a7) 3 = a3)) ∧
    ((∀ a0 a1 a2 a3 a4 a5 a6 a7, Tr.get (.node a0 a1 a2 a3 a4 a5 a6 a7) 4 = a4) ∧ (∀ a0 a1 a2 a3 a4 a5 a6 a7, Tr.get (.node a0 a1 a2 a3 a4 a5 a6 a7) 5 = a5) ∧
     (∀ a0 a1 a2 a3 a4 a5 a6 a7, Tr.get (.node a0 a1 a2 a3 a4 a5 a6 a7) 6 = a6) ∧ (∀ a0 a1 a2 a3 a4 a5 a6 a7, Tr.get (.node a0 a1 a2 a3 a4 a5 a6 a7) 7 = a7)) := by
  refine ⟨⟨?_, ?_, ?_, ?_⟩, ?_, ?_, ?_, ?_⟩ <;> (intros; rfl)
theorem nU :
    (((∀ a0 a1 a2 a3 a4 a5 a6 a7 x, Tr.put (.node a0 a1 a2 a3 a4 a5 a6 a7) 0 x = .node x a1 a2 a3 a4 a5 a6 a7) ∧ (∀ a0 a1 a2 a3 a4 a5 a6 a7 x, Tr.put (.node a0 a1 a2 a3 a4 a5 a6 a7) 1 x = .node a0 x a2 a3 a4 a5 a6 a7) ∧
      (∀ a0 a1 a2 a3 a4 a5 a6 a7 x, Tr.put (.node a0 a1 a2 a3 a4 a5 a6 a7) 2 x = .node a0 a1 x a3 a4 a5 a6 a7) ∧ (∀ a0 a1 a2 a3 a4 a5 a6 a7 x, Tr.put (.node a0 a1 a2 a3 a4 a5 a6 a7) 3 x = .node a0 a1 a2 x a4 a5 a6 a7)) ∧
     ((∀ a0 a1 a2 a3 a4 a5 a6 a7 x, Tr.put (.node a0 a1 a2 a3 a4 a5 a6 a7) 4 x = .node a0 a1 a2 a3 x a5 a6 a7) ∧ (∀ a0 a1 a2 a3 a4 a5 a6 a7 x, Tr.put (.node a0 a1 a2 a3 a4 a5 a6 a7) 5 x = .node a0 a1 a2 a3 a4 x a6 a7) ∧
      (∀ a0 a1 a2 a3 a4 a5 a6 a7 x, Tr.put (.node a0 a1 a2 a3 a4 a5 a6 a7) 6 x = .node a0 a1 a2 a3 a4 a5 x a7) ∧ (∀ a0 a1 a2 a3 a4 a5 a6 a7 x, Tr.put (.node a0 a1 a2 a3 a4 a5 a6 a7) 7 x = .node a0 a1 a2 a3 a4 a5 a6 x))) ∧
    (((∀ x, Tr.put .nil 0 x = .node x .nil .nil .nil .nil .nil .nil .nil) ∧ (∀ x, Tr.put .nil 1 x = .node .nil x .nil .nil .nil .nil .nil .nil) ∧
      (∀ x, Tr.put .nil 2 x = .node .nil .nil x .nil .nil .nil .nil .nil) ∧ (∀ x, Tr.put .nil 3 x = .node .nil .nil .nil x .nil .nil .nil .nil)) ∧
     ((∀ x, Tr.put .nil 4 x = .node .nil .nil .nil .nil x .nil .nil .nil) ∧ (∀ x, Tr.put .nil 5 x = .node .nil .nil .nil .nil .nil x .nil .nil) ∧
      (∀ x, Tr.put .nil 6 x = .node .nil .nil .nil .nil .nil .nil x .nil) ∧ (∀ x, Tr.put .nil 7 x = .node .nil .nil .nil .nil .nil .nil .nil x))) ∧
    (((∀ e x, Tr.put (.leaf e) 0 x = .node x .nil .nil .nil .nil .nil .nil .nil))) := by
  refine ⟨⟨⟨?_, ?_, ?_, ?_⟩, ?_, ?_, ?_, ?_⟩, ⟨⟨?_, ?_, ?_, ?_⟩, ?_, ?_, ?_, ?_⟩, ?_⟩ <;> (intros; rfl)
end
theorem qS :
    ((∀ E t, ev E (.tmp t) = E.get t) ∧ (∀ E v, ev E (.const v) = ia v) ∧ (∀ E f, ev E (.func f) = ⟨true, .c (.fn f [])⟩)) ∧
    ((∀ k n, ia (.int k n) = ⟨true, .c (.int k n)⟩) ∧ (∀ b, ia (.bool b) = ⟨true, .c (.bool b)⟩) ∧ (∀ s, ia (.string s) = ⟨true, .c (.str s.data.toList)⟩) ∧
     (ia (.pointer none) = ⟨true, .c .nilp⟩) ∧ (ia (.slice none 0 0) = ⟨true, .c .nils⟩) ∧ (ia .nilFunc = ⟨true, .c .nilf⟩) ∧ (ia .nilIface = ⟨true, .c .nili⟩)) ∧
    ((∀ cs, ia (.agg cs) = (match dX cs.toList with | some l => ⟨true, .a l⟩ | none => ⟨false, .x⟩)) ∧ (dX [] = some []) ∧
     (∀ v r, dX (v :: r) = (match eq v, dX r with | some c, some cs => some (c :: cs) | _, _ => none)) ∧
     (∀ k n, eq (.int k n) = some (.int k n)) ∧ (∀ b, eq (.bool b) = some (.bool b)) ∧ (∀ s, eq (.string s) = some (.str s.data.toList)) ∧
     (eq (.pointer none) = some .nilp) ∧ (eq (.slice none 0 0) = some .nils) ∧ (eq .nilFunc = some .nilf) ∧ (eq .nilIface = some .nili)) := by
  refine ⟨⟨?_, ?_, ?_⟩, ⟨?_, ?_, ?_, ?_, ?_, ?_, ?_⟩, ?_, ?_, ?_, ?_, ?_, ?_, ?_, ?_, ?_, ?_⟩ <;> (intros; rfl)
theorem qv :
    ((∀ P γ E σ x, aH P γ E σ (.move x) = .ok (ab γ (ev E x)) (ev E x).v) ∧ (∀ P γ E σ x, aH P γ E σ (.assign x) = .ok (ab γ (ev E x)) (ev E x).v) ∧
     (∀ P γ E σ c a b, aH P γ E σ (.pick c a b) = ii γ (ev E c) (ev E a) (ev E b)) ∧ (∀ P γ E σ T, aH P γ E σ (.alloc T) = gk P σ T) ∧
     (∀ P γ E σ T x, aH P γ E σ (.box T x) = kS P σ T (ev E x)) ∧ (∀ P γ E σ T p, aH P γ E σ (.load T p) = fp P γ σ T (ev E p)) ∧
     (∀ P γ E σ T p x, aH P γ E σ (.store T p x) = fQ P σ T (ev E p) (ev E x)) ∧ (∀ P γ E σ x, aH P γ E σ (.nilCheck x) = cP γ σ (ev E x))) ∧
    ((∀ P γ E σ op T x y T', aH P γ E σ (.binOp op T x y T') = ei P γ op T (ev E x) (ev E y)) ∧ (∀ P γ E σ op T x, aH P γ E σ (.unOp op T x) = unR γ op (ev E x)) ∧
     (∀ P γ E σ s d x, aH P γ E σ (.convert s d x) = ij P γ s d (ev E x)) ∧ (∀ P γ E σ T x i, aH P γ E σ (.fieldAddr T x i) = bU P γ σ T (ev E x) i) ∧
     (∀ P γ E σ T x i, aH P γ E σ (.field T x i) = gj P γ T (ev E x) i) ∧ (∀ P γ E σ T x i, aH P γ E σ (.indexAddr T x i) = bB P γ σ T (ev E x) (ev E i)) ∧
     (∀ P γ E σ T x i, aH P γ E σ (.index T x i) = fR P γ T (ev E x) (ev E i)) ∧ (∀ P γ E σ x i, aH P γ E σ (.extract x i) = er γ (ev E x) i)) ∧
    ((∀ P γ E σ T x lo hi mx, aH P γ E σ (.slice T x lo hi mx) = eZ P γ σ T (ev E x) (lo.map (ev E)) (hi.map (ev E)) (mx.map (ev E))) ∧
     (∀ P γ E σ T x y, aH P γ E σ (.makeSlice T x y) = db P σ T (ev E x) (ev E y)) ∧
     (∀ P γ E σ T (l : List (Nat × Operand)), aH P γ E σ (.build T l.toArray) = gl P γ T (jk E l)) ∧
     (∀ P γ E σ T n (l : List (Nat × Operand)), aH P γ E σ (.buildSlice T n l.toArray) = cF P σ T n (jk E l)) ∧
     (∀ P γ E σ fn (first caps : List Operand), aH P γ E σ (.makeFunc fn first.toArray caps.toArray) = dN γ fn first (caps.map (ev E))) ∧
     (∀ P γ E σ f (args : List Operand) ts, aH P γ E σ (.call ⟨.value f, args.toArray, ts⟩) = jF γ (ev E f) (args.map (ev E))) ∧
     (∀ P γ E σ b (args : List Operand) (ts : List TypeId), aH P γ E σ (.call ⟨.builtin b, args.toArray, ts.toArray⟩) = cH P γ σ b ts (args.map (ev E)))) := by
  refine ⟨⟨?_, ?_, ?_, ?_, ?_, ?_, ?_, ?_⟩, ⟨?_, ?_, ?_, ?_, ?_, ?_, ?_, ?_⟩, ?_, ?_, ?_, ?_, ?_, ?_, ?_⟩ <;> (intros; rfl)
theorem pm :
    ((∀ P γ σ T c b off, fp P γ σ T ⟨c, .c (.optr b off)⟩ = (match σ[b]? with
        | some (.box cs) => .ok (ab γ ⟨c, .c (.optr b off)⟩ ∧ aK P T = true ∧ 0 < P.cellsOf T ∧ off + P.cellsOf T ≤ cs.length ∧ (ep P T = true ∨ P.cellsOf T = 1)) (mkV P T ((cs.drop off).take (P.cellsOf T)))
        | _ => .bad)) ∧
     (∀ P γ σ T c s es i j, fp P γ σ T ⟨c, .c (.tptr s es i j)⟩ = .ok (ab γ ⟨c, .c (.tptr s es i j)⟩ ∧ aK P T = true ∧ 0 < P.cellsOf T ∧ (γ = true → i < es.length) ∧ j + P.cellsOf T ≤ s ∧ (ep P T = true ∨ P.cellsOf T = 1)) (mkV P T (((elt es i).drop j).take (P.cellsOf T)))) ∧
     (∀ P γ σ T c b ver i j, fp P γ σ T ⟨c, .c (.oel b ver i j)⟩ = (match σ[b]? with
        | some (.arr s ver' _ es) => .ok (ab γ ⟨c, .c (.oel b ver i j)⟩ ∧ ver = ver' ∧ aK P T = true ∧ 0 < P.cellsOf T ∧ (γ = true → i < es.length) ∧ j + P.cellsOf T ≤ s ∧ (ep P T = true ∨ P.cellsOf T = 1)) (mkV P T (((elt es i).drop j).take (P.cellsOf T)))
        | _ => .bad))) ∧
    ((∀ P σ T c b off x, fQ P σ T ⟨c, .c (.optr b off)⟩ x = (match σ[b]? with
        | some (.box cs) => .upd (c = true ∧ x.cond = true ∧ aK P T = true ∧ 0 < P.cellsOf T ∧ x.v.cells.length = P.cellsOf T ∧ off + P.cellsOf T ≤ cs.length) .x (σ.set b (.box (cE cs off x.v.cells)))
        | _ => .bad)) ∧
     (∀ P σ T c b ver i j x, fQ P σ T ⟨c, .c (.oel b ver i j)⟩ x = (match σ[b]? with
        | some (.arr s ver' T' es) => .upd (c = true ∧ x.cond = true ∧ ver = ver' ∧ aK P T = true ∧ 0 < P.cellsOf T ∧ x.v.cells.length = P.cellsOf T ∧ (x.v.cells.all CV.flat) = true ∧ i < es.length ∧ j + P.cellsOf T ≤ s) .x
            (σ.set b (.arr s ver' T' (es.set i (cE (elt es i) j x.v.cells))))
        | _ => .bad))) ∧
    ((∀ y, PV.cells (.c y) = [y]) ∧ (∀ ys, PV.cells (.a ys) = ys) ∧ (∀ P σ T x, kS P σ T x = .upd (x.cond = true ∧ aK P T = true ∧ 0 < x.v.cells.length) (.c (.optr σ.length 0)) (σ ++ [.box x.v.cells])) ∧
     (∀ P σ T, gk P σ T = (match fI P T with | some z => .upd (0 < z.length) (.c (.optr σ.length 0)) (σ ++ [.box z]) | none => .bad))) ∧
    ((∀ (σ : List OB) b off, cd σ (.optr b off) = (match σ[b]? with | some (.box _) => True | _ => False)) ∧ (∀ (σ : List OB) b ver lo len, cd σ (.osl b ver lo len) = (match σ[b]? with | some (.arr _ ver' _ _) => ver = ver' | _ => False)) ∧
     (∀ (σ : List OB) b ver i j, cd σ (.oel b ver i j) = (match σ[b]? with | some (.arr _ ver' _ _) => ver = ver' | _ => False)) ∧ (∀ P T cs, mkV P T cs = (match ep P T with | true => .a cs | false => .c (cs.headD .junk)))) := by
  refine ⟨⟨?_, ?_, ?_⟩, ⟨?_, ?_⟩, ⟨?_, ?_, ?_, ?_⟩, ?_, ?_, ?_, ?_⟩ <;> (intros; rfl)
theorem qw :
    ((∀ P γ T c c' k a k' b, ei P γ .add T ⟨c, .c (.int k a)⟩ ⟨c', .c (.int k' b)⟩ = if k = k' then .ok (ab γ ⟨c, .c (.int k a)⟩ ∧ ab γ ⟨c', .c (.int k' b)⟩ ∧ (γ = true → True)) (.c (.int k (k.wrap (a + b)))) else .bad) ∧
     (∀ P γ T c c' k a k' b, ei P γ .sub T ⟨c, .c (.int k a)⟩ ⟨c', .c (.int k' b)⟩ = if k = k' then .ok (ab γ ⟨c, .c (.int k a)⟩ ∧ ab γ ⟨c', .c (.int k' b)⟩ ∧ (γ = true → True)) (.c (.int k (k.wrap (a - b)))) else .bad) ∧
     (∀ P γ T c c' k a k' b, ei P γ .mul T ⟨c, .c (.int k a)⟩ ⟨c', .c (.int k' b)⟩ = if k = k' then .ok (ab γ ⟨c, .c (.int k a)⟩ ∧ ab γ ⟨c', .c (.int k' b)⟩ ∧ (γ = true → True)) (.c (.int k (k.wrap (a * b)))) else .bad) ∧
     (∀ P γ T c c' k a k' b, ei P γ .quo T ⟨c, .c (.int k a)⟩ ⟨c', .c (.int k' b)⟩ = if k = k' then .ok (ab γ ⟨c, .c (.int k a)⟩ ∧ ab γ ⟨c', .c (.int k' b)⟩ ∧ (γ = true → b ≠ 0)) (.c (.int k (k.wrap (a.tdiv b)))) else .bad) ∧
     (∀ P γ T c c' k a k' b, ei P γ .rem T ⟨c, .c (.int k a)⟩ ⟨c', .c (.int k' b)⟩ = if k = k' then .ok (ab γ ⟨c, .c (.int k a)⟩ ∧ ab γ ⟨c', .c (.int k' b)⟩ ∧ (γ = true → b ≠ 0)) (.c (.int k (a.tmod b))) else .bad)) ∧
    ((∀ P γ T c c' k a k' b, ei P γ .and T ⟨c, .c (.int k a)⟩ ⟨c', .c (.int k' b)⟩ = if k = k' then .ok (ab γ ⟨c, .c (.int k a)⟩ ∧ ab γ ⟨c', .c (.int k' b)⟩ ∧ (γ = true → True)) (.c (.int k (bits .and k a b))) else .bad) ∧
     (∀ P γ T c c' k a k' b, ei P γ .or T ⟨c, .c (.int k a)⟩ ⟨c', .c (.int k' b)⟩ = if k = k' then .ok (ab γ ⟨c, .c (.int k a)⟩ ∧ ab γ ⟨c', .c (.int k' b)⟩ ∧ (γ = true → True)) (.c (.int k (bits .or k a b))) else .bad) ∧
     (∀ P γ T c c' k a k' b, ei P γ .xor T ⟨c, .c (.int k a)⟩ ⟨c', .c (.int k' b)⟩ = if k = k' then .ok (ab γ ⟨c, .c (.int k a)⟩ ∧ ab γ ⟨c', .c (.int k' b)⟩ ∧ (γ = true → True)) (.c (.int k (bits .xor k a b))) else .bad) ∧
     (∀ P γ T c c' k a k' b, ei P γ .shl T ⟨c, .c (.int k a)⟩ ⟨c', .c (.int k' b)⟩ = .ok (ab γ ⟨c, .c (.int k a)⟩ ∧ ab γ ⟨c', .c (.int k' b)⟩ ∧ (γ = true → 0 ≤ b)) (.c (.int k (k.wrap (a * 2 ^ (min b.toNat k.bits)))))) ∧
     (∀ P γ T c c' k a k' b, ei P γ .shr T ⟨c, .c (.int k a)⟩ ⟨c', .c (.int k' b)⟩ = .ok (ab γ ⟨c, .c (.int k a)⟩ ∧ ab γ ⟨c', .c (.int k' b)⟩ ∧ (γ = true → 0 ≤ b)) (.c (.int k (a.fdiv (2 ^ (min b.toNat k.bits))))))) ∧
    ((∀ P γ T c c' k a k' b, ei P γ .eql T ⟨c, .c (.int k a)⟩ ⟨c', .c (.int k' b)⟩ = if k = k' then .ok (ab γ ⟨c, .c (.int k a)⟩ ∧ ab γ ⟨c', .c (.int k' b)⟩ ∧ (γ = true → True)) (.c (.bool (a == b))) else .bad) ∧
     (∀ P γ T c c' k a k' b, ei P γ .neq T ⟨c, .c (.int k a)⟩ ⟨c', .c (.int k' b)⟩ = if k = k' then .ok (ab γ ⟨c, .c (.int k a)⟩ ∧ ab γ ⟨c', .c (.int k' b)⟩ ∧ (γ = true → True)) (.c (.bool (a != b))) else .bad) ∧
     (∀ P γ T c c' k a k' b, ei P γ .lss T ⟨c, .c (.int k a)⟩ ⟨c', .c (.int k' b)⟩ = if k = k' then .ok (ab γ ⟨c, .c (.int k a)⟩ ∧ ab γ ⟨c', .c (.int k' b)⟩ ∧ (γ = true → True)) (.c (.bool (decide (a < b)))) else .bad) ∧
     (∀ P γ T c c' k a k' b, ei P γ .leq T ⟨c, .c (.int k a)⟩ ⟨c', .c (.int k' b)⟩ = if k = k' then .ok (ab γ ⟨c, .c (.int k a)⟩ ∧ ab γ ⟨c', .c (.int k' b)⟩ ∧ (γ = true → True)) (.c (.bool (decide (a ≤ b)))) else .bad) ∧
     (∀ P γ T c c' k a k' b, ei P γ .gtr T ⟨c, .c (.int k a)⟩ ⟨c', .c (.int k' b)⟩ = if k = k' then .ok (ab γ ⟨c, .c (.int k a)⟩ ∧ ab γ ⟨c', .c (.int k' b)⟩ ∧ (γ = true → True)) (.c (.bool (decide (a > b)))) else .bad) ∧
     (∀ P γ T c c' k a k' b, ei P γ .geq T ⟨c, .c (.int k a)⟩ ⟨c', .c (.int k' b)⟩ = if k = k' then .ok (ab γ ⟨c, .c (.int k a)⟩ ∧ ab γ ⟨c', .c (.int k' b)⟩ ∧ (γ = true → True)) (.c (.bool (decide (a ≥ b)))) else .bad)) := by
  refine ⟨⟨?_, ?_, ?_, ?_, ?_⟩, ⟨?_, ?_, ?_, ?_, ?_⟩, ?_, ?_, ?_, ?_, ?_, ?_⟩ <;> (intros; rfl)
theorem qx :
    ((∀ P γ op T c c' a b, ei P γ op T ⟨c, .c (.str a)⟩ ⟨c', .c (.str b)⟩ = (match jE op a b with | some (C, v) => .ok (ab γ ⟨c, .c (.str a)⟩ ∧ ab γ ⟨c', .c (.str b)⟩ ∧ (γ = true → C)) v | none => .bad)) ∧
     (∀ P γ op T c c' a b, ei P γ op T ⟨c, .c (.bool a)⟩ ⟨c', .c (.bool b)⟩ = (match op, eqV P T (.c (.bool a)) (.c (.bool b)) with
        | .eql, some (C, r) => .ok (ab γ ⟨c, .c (.bool a)⟩ ∧ ab γ ⟨c', .c (.bool b)⟩ ∧ C) (.c (.bool r)) | .neq, some (C, r) => .ok (ab γ ⟨c, .c (.bool a)⟩ ∧ ab γ ⟨c', .c (.bool b)⟩ ∧ C) (.c (.bool (!r))) | _, _ => .bad)) ∧
     (∀ P γ op T c c' a b, ei P γ op T ⟨c, .a a⟩ ⟨c', .a b⟩ = (match op, eqV P T (.a a) (.a b) with
        | .eql, some (C, r) => .ok (ab γ ⟨c, .a a⟩ ∧ ab γ ⟨c', .a b⟩ ∧ C) (.c (.bool r)) | .neq, some (C, r) => .ok (ab γ ⟨c, .a a⟩ ∧ ab γ ⟨c', .a b⟩ ∧ C) (.c (.bool (!r))) | _, _ => .bad)) ∧
     (∀ P T a b, eqV P T (.c (.bool a)) (.c (.bool b)) = some (jC P T = true, a == b)) ∧ (∀ P T s es, eqV P T (.c (.tree s es)) (.c .nils) = some (cO P T = true ∧ es ≠ [], false)) ∧ (∀ P T, eqV P T (.c .nils) (.c .nils) = some (cO P T = true, true)) ∧ (∀ P T, eqV P T (.c .emn) (.c .nils) = some (cO P T = true, false)) ∧
     (∀ P γ op T c c' s es, ei P γ op T ⟨c, .c (.tree s es)⟩ ⟨c', .c .nils⟩ = (match op, eqV P T (.c (.tree s es)) (.c .nils) with
        | .eql, some (C, r) => .ok (ab γ ⟨c, .c (.tree s es)⟩ ∧ ab γ ⟨c', .c .nils⟩ ∧ C) (.c (.bool r)) | .neq, some (C, r) => .ok (ab γ ⟨c, .c (.tree s es)⟩ ∧ ab γ ⟨c', .c .nils⟩ ∧ C) (.c (.bool (!r))) | _, _ => .bad)) ∧
     (∀ P γ op T c c', ei P γ op T ⟨c, .c .nils⟩ ⟨c', .c .nils⟩ = (match op, eqV P T (.c .nils) (.c .nils) with
        | .eql, some (C, r) => .ok (ab γ ⟨c, .c .nils⟩ ∧ ab γ ⟨c', .c .nils⟩ ∧ C) (.c (.bool r)) | .neq, some (C, r) => .ok (ab γ ⟨c, .c .nils⟩ ∧ ab γ ⟨c', .c .nils⟩ ∧ C) (.c (.bool (!r))) | _, _ => .bad)) ∧
     (∀ P γ op T c c', ei P γ op T ⟨c, .c .emn⟩ ⟨c', .c .nils⟩ = (match op, eqV P T (.c .emn) (.c .nils) with
        | .eql, some (C, r) => .ok (ab γ ⟨c, .c .emn⟩ ∧ ab γ ⟨c', .c .nils⟩ ∧ C) (.c (.bool r)) | .neq, some (C, r) => .ok (ab γ ⟨c, .c .emn⟩ ∧ ab γ ⟨c', .c .nils⟩ ∧ C) (.c (.bool (!r))) | _, _ => .bad)) ∧ (∀ P T xs ys, eqV P T (.a xs) (.a ys) = (match kh xs ys with | some b => some (ln P T = some (xs.map jD), b) | none => none))) ∧
    ((∀ γ c b, unR γ .not ⟨c, .c (.bool b)⟩ = .ok (ab γ ⟨c, .c (.bool b)⟩) (.c (.bool (!b)))) ∧ (∀ γ c k n, unR γ .neg ⟨c, .c (.int k n)⟩ = .ok (ab γ ⟨c, .c (.int k n)⟩) (.c (.int k (k.wrap (0 - n))))) ∧
     (∀ γ c k n, unR γ .xor ⟨c, .c (.int k n)⟩ = .ok (ab γ ⟨c, .c (.int k n)⟩) (.c (.int k (bits .xor k (if k.signed then -1 else k.max) n)))) ∧
     (∀ γ c a b, ii γ ⟨c, .c (.bool true)⟩ a b = .ok (ab γ ⟨c, .c (.bool true)⟩ ∧ ab γ a) a.v) ∧ (∀ γ c a b, ii γ ⟨c, .c (.bool false)⟩ a b = .ok (ab γ ⟨c, .c (.bool false)⟩ ∧ ab γ b) b.v) ∧
     (∀ P γ s d c k n, ij P γ s d ⟨c, .c (.int k n)⟩ = .ok (ab γ ⟨c, .c (.int k n)⟩ ∧ (P.underlying s).isSome = true ∧ kt P d = true) (.c (.int (P.intKind d) ((P.intKind d).wrap n)))) ∧
     (∀ P γ s d c n, ij P γ s d ⟨c, .c (.str n)⟩ = .ok (ab γ ⟨c, .c (.str n)⟩ ∧ (P.underlying s).isSome = true ∧ e8 P d = true) (.c (.str n)))) ∧
    ((∀ P γ σ T c b off i, bU P γ σ T ⟨c, .c (.optr b off)⟩ i = .ok (ab γ ⟨c, .c (.optr b off)⟩ ∧ cd σ (.optr b off) ∧ fH P T i = true) (.c (.optr b (off + dV P T i)))) ∧
     (∀ P γ σ T c s es k j i, bU P γ σ T ⟨c, .c (.tptr s es k j)⟩ i = .ok (ab γ ⟨c, .c (.tptr s es k j)⟩ ∧ fH P T i = true) (.c (.tptr s es k (j + dV P T i)))) ∧
     (∀ P γ σ T c b ver k j i, bU P γ σ T ⟨c, .c (.oel b ver k j)⟩ i = .ok (ab γ ⟨c, .c (.oel b ver k j)⟩ ∧ cd σ (.oel b ver k j) ∧ fH P T i = true) (.c (.oel b ver k (j + dV P T i)))) ∧
     (∀ P γ T c ys i, gj P γ T ⟨c, .a ys⟩ i = .ok (ab γ ⟨c, .a ys⟩ ∧ fH P T i = true ∧ aK P (gU P T i) = true ∧ dV P T i + P.cellsOf (gU P T i) ≤ ys.length ∧ (ep P (gU P T i) = true ∨ P.cellsOf (gU P T i) = 1))
      (mkV P (gU P T i) ((ys.drop (dV P T i)).take (P.cellsOf (gU P T i)))))) := by
  refine ⟨⟨?_, ?_, ?_, ?_, ?_, ?_, ?_, ?_, ?_, ?_, ?_⟩, ⟨?_, ?_, ?_, ?_, ?_, ?_, ?_⟩, ?_, ?_, ?_, ?_⟩ <;> (intros; rfl)
theorem qT :
    ((∀ P γ σ T c c' s es k n, bB P γ σ T ⟨c, .c (.tree s es)⟩ ⟨c', .c (.int k n)⟩ = .ok (ab γ ⟨c, .c (.tree s es)⟩ ∧ ab γ ⟨c', .c (.int k n)⟩ ∧ cO P T = true ∧ aK P (P.elem T) = true ∧ P.cellsOf (P.elem T) = s ∧ (γ = true → 0 ≤ n ∧ n < es.length)) (.c (.tptr s es n.toNat 0))) ∧
     (∀ P γ σ T c c' b ver lo len k n, bB P γ σ T ⟨c, .c (.osl b ver lo len)⟩ ⟨c', .c (.int k n)⟩ = (match σ[b]? with
        | some (.arr s ver' _ _) => .ok (ab γ ⟨c, .c (.osl b ver lo len)⟩ ∧ ab γ ⟨c', .c (.int k n)⟩ ∧ ver = ver' ∧ cO P T = true ∧ aK P (P.elem T) = true ∧ P.cellsOf (P.elem T) = s ∧ (γ = true → 0 ≤ n ∧ n < len)) (.c (.oel b ver (lo + n.toNat) 0))
        | _ => .bad)) ∧
     (∀ P γ σ T c c' b off k n, bB P γ σ T ⟨c, .c (.optr b off)⟩ ⟨c', .c (.int k n)⟩ = .ok (ab γ ⟨c, .c (.optr b off)⟩ ∧ ab γ ⟨c', .c (.int k n)⟩ ∧ cd σ (.optr b off) ∧ gV P T = true ∧ aK P (P.elem T) = true ∧ (γ = true → 0 ≤ n ∧ n < P.arrayLen T)) (.c (.optr b (off + n.toNat * P.cellsOf (P.elem T))))) ∧
     (∀ P γ σ T c c' b ver i j k n, bB P γ σ T ⟨c, .c (.oel b ver i j)⟩ ⟨c', .c (.int k n)⟩ = (match σ[b]? with
        | some (.arr s ver' _ _) => .ok (ab γ ⟨c, .c (.oel b ver i j)⟩ ∧ ab γ ⟨c', .c (.int k n)⟩ ∧ ver = ver' ∧ gV P T = true ∧ aK P (P.elem T) = true ∧ P.cellsOf (P.elem T) = s ∧ j = 0 ∧ (γ = true → 0 ≤ n ∧ n < P.arrayLen T)) (.c (.oel b ver (i + n.toNat) 0))
        | _ => .bad)) ∧
     (∀ P γ T c c' s k n, fR P γ T ⟨c, .c (.str s)⟩ ⟨c', .c (.int k n)⟩ = .ok (ab γ ⟨c, .c (.str s)⟩ ∧ ab γ ⟨c', .c (.int k n)⟩ ∧ e8 P T = true ∧ (γ = true → 0 ≤ n ∧ n < s.length)) (.c (.int .u8 ((s.getD n.toNat 0).toNat)))) ∧
     (∀ P γ T c c' ys k n, fR P γ T ⟨c, .a ys⟩ ⟨c', .c (.int k n)⟩ = .ok (ab γ ⟨c, .a ys⟩ ∧ ab γ ⟨c', .c (.int k n)⟩ ∧ gV P T = true ∧ aK P (P.elem T) = true ∧ P.arrayLen T * P.cellsOf (P.elem T) ≤ ys.length ∧ ep P (P.elem T) = false ∧ P.cellsOf (P.elem T) = 1 ∧ (γ = true → 0 ≤ n ∧ n < P.arrayLen T)) (.c (ys.getD n.toNat .junk)))) ∧
    ((∀ γ c ps i, er γ ⟨c, .t ps⟩ i = .ok (ab γ ⟨c, .t ps⟩ ∧ i < ps.length) (ps.getD i .x)) ∧
     (∀ P γ σ T c s es, ib P γ σ T ⟨c, .c (.tree s es)⟩ = .ok (ab γ ⟨c, .c (.tree s es)⟩ ∧ cO P T = true) (.c (.int .i64 es.length))) ∧
     (∀ P γ σ T c b ver lo len, ib P γ σ T ⟨c, .c (.osl b ver lo len)⟩ = .ok (ab γ ⟨c, .c (.osl b ver lo len)⟩ ∧ cd σ (.osl b ver lo len) ∧ cO P T = true) (.c (.int .i64 len))) ∧
     (∀ P γ σ T c, ib P γ σ T ⟨c, .c .nils⟩ = .ok (ab γ ⟨c, .c .nils⟩ ∧ cO P T = true) (.c (.int .i64 0))) ∧ (∀ P γ σ T c, ib P γ σ T ⟨c, .c .emn⟩ = .ok (ab γ ⟨c, .c .emn⟩ ∧ cO P T = true) (.c (.int .i64 0))) ∧ (∀ P γ σ T c, ib P γ σ T ⟨c, .c .emp⟩ = .ok (ab γ ⟨c, .c .emp⟩ ∧ cO P T = true) (.c (.int .i64 0))) ∧
     (∀ P γ σ T c s, ib P γ σ T ⟨c, .c (.str s)⟩ = .ok (ab γ ⟨c, .c (.str s)⟩ ∧ e8 P T = true) (.c (.int .i64 s.length)))) ∧
    ((∀ P γ σ T x, cH P γ σ .len [T] [x] = ib P γ σ T x) ∧ (∀ P γ σ T T' x y, cH P γ σ .append [T, T'] [x, y] = if T = T' ∨ e8 P T' then eR P σ T x y else .bad) ∧
     (∀ P γ σ l x y, cH P γ σ .min l [x, y] = cG γ false x y) ∧ (∀ P γ σ l x y, cH P γ σ .max l [x, y] = cG γ true x y) ∧
     (∀ γ mx c c' k a k' b, cG γ mx ⟨c, .c (.int k a)⟩ ⟨c', .c (.int k' b)⟩ = .ok (ab γ ⟨c, .c (.int k a)⟩ ∧ ab γ ⟨c', .c (.int k' b)⟩ ∧ k = k') (.c (.int k (if mx then (if b > a then b else a) else (if b < a then b else a))))) ∧
     (∀ γ c g caps args, jF γ ⟨c, .c (.fn g caps)⟩ args = .call (c = true ∧ ∀ e ∈ args, ab γ e) g (args.map (·.v) ++ caps.map .c)) ∧
     (∀ γ σ c b off, cP γ σ ⟨c, .c (.optr b off)⟩ = .ok (ab γ ⟨c, .c (.optr b off)⟩ ∧ cd σ (.optr b off)) (.c (.optr b off)))) := by
  refine ⟨⟨?_, ?_, ?_, ?_, ?_, ?_⟩, ⟨?_, ?_, ?_, ?_, ?_, ?_, ?_⟩, ?_, ?_, ?_, ?_, ?_, ?_, ?_⟩ <;> (intros; rfl)
theorem oO :
    (∀ ops E, cn ops E none = some true) ∧ (∀ (l : List Oper) E j w, cn l.toArray E (some (j, w)) = (match l[j]? with
      | none => none
      | some o => (match o.dst with | none => none | some d => (match (E.get d).cond, (E.get d).v with | true, .c (.bool X) => some (X == w) | true, .t [] => some false | _, _ => none)))) := by
  refine ⟨?_, ?_⟩
  · intros; rfl
  · intro l E j w; rw [← List.getElem?_toArray]; rfl
end Pam
namespace Pam
open Go
theorem oP {α : Type} [Inhabited α] (f : α → List CV) (xs : List α) (i : Nat) (h : i < xs.length) : elt (xs.map f) i = f (xs.getD i default) := by
 simp [elt, List.getD, h]
theorem ng {α : Type} [Inhabited α] (l : List α) (k : Nat) (h : k < l.length) : l.drop k = l.getD k default :: l.drop (k + 1) := by
 rw [List.drop_eq_getElem_cons h]; simp [List.getD, h]
end Pam
namespace Pam
open Go
def Tr.le : Tr → Tr → Prop
  | _, .nil => True
  | t, .leaf e' => e'.cond = false ∨ t = .leaf e'
  | .node a0 a1 a2 a3 a4 a5 a6 a7, .node b0 b1 b2 b3 b4 b5 b6 b7 => Tr.le a0 b0 ∧ Tr.le a1 b1 ∧ Tr.le a2 b2 ∧ Tr.le a3 b3 ∧ Tr.le a4 b4 ∧ Tr.le a5 b5 ∧ Tr.le a6 b6 ∧ Tr.le a7 b7
  | .nil, .node b0 b1 b2 b3 b4 b5 b6 b7 => Tr.le .nil b0 ∧ Tr.le .nil b1 ∧ Tr.le .nil b2 ∧ Tr.le .nil b3 ∧ Tr.le .nil b4 ∧ Tr.le .nil b5 ∧ Tr.le .nil b6 ∧ Tr.le .nil b7
  | _, .node _ _ _ _ _ _ _ _ => False
def Tr.under (n : Nat) : Tr → Prop
  | .nil => True
  | .leaf e => e.cond = false ∨ e.v.under n
  | .node a0 a1 a2 a3 a4 a5 a6 a7 => Tr.under n a0 ∧ Tr.under n a1 ∧ Tr.under n a2 ∧ Tr.under n a3 ∧ Tr.under n a4 ∧ Tr.under n a5 ∧ Tr.under n a6 ∧ Tr.under n a7
theorem Tr.le_get {t t' : Tr} (h : Tr.le t t') (j : Nat) : Tr.le (t.get j) (t'.get j) := by
  rcases Nat.lt_or_ge j 8 with hj | hj
  · have hj' : j = 0 ∨ j = 1 ∨ j = 2 ∨ j = 3 ∨ j = 4 ∨ j = 5 ∨ j = 6 ∨ j = 7 := by omega
    cases t' with
    | nil => show Tr.le _ .nil; cases t.get j <;> trivial
    | leaf e => show Tr.le _ .nil; cases t.get j <;> trivial
    | node b0 b1 b2 b3 b4 b5 b6 b7 =>
      cases t with
      | nil =>
        obtain ⟨h0, h1, h2, h3, h4, h5, h6, h7⟩ := h
        rcases hj' with rfl | rfl | rfl | rfl | rfl | rfl | rfl | rfl <;> assumption
      | leaf e => exact h.elim
      | node a0 a1 a2 a3 a4 a5 a6 a7 =>
        obtain ⟨h0, h1, h2, h3, h4, h5, h6, h7⟩ := h
        rcases hj' with rfl | rfl | rfl | rfl | rfl | rfl | rfl | rfl <;> assumption
  · rw [Tr.get_big t' j hj]; cases t.get j <;> trivial
theorem Tr.le_ent {t t' : Tr} (h : Tr.le t t') (hc : t'.ent.cond = true) : t.ent = t'.ent := by
  cases t' with
  | nil => cases hc
  | node => cases hc
  | leaf e =>
    have h' : e.cond = false ∨ t = .leaf e := by cases t <;> exact h
    rcases h' with h' | h'
    · simp only [Tr.ent] at hc; rw [h'] at hc; cases hc
    · rw [h']
theorem Tr.under_get {n : Nat} {t : Tr} (h : Tr.under n t) (j : Nat) : Tr.under n (t.get j) := by
  rcases Nat.lt_or_ge j 8 with hj | hj
  · have hj' : j = 0 ∨ j = 1 ∨ j = 2 ∨ j = 3 ∨ j = 4 ∨ j = 5 ∨ j = 6 ∨ j = 7 := by omega
    cases t with
    | nil => trivial
    | leaf e => trivial
    | node a0 a1 a2 a3 a4 a5 a6 a7 =>
      obtain ⟨h0, h1, h2, h3, h4, h5, h6, h7⟩ := h
      rcases hj' with rfl | rfl | rfl | rfl | rfl | rfl | rfl | rfl <;> assumption
  · rw [Tr.get_big t j hj]; trivial
theorem Tr.under_ent {n : Nat} {t : Tr} (h : Tr.under n t) (hc : t.ent.cond = true) : t.ent.v.under n := by
  cases t with
  | nil => cases hc
  | node => cases hc
  | leaf e => rcases h with h | h
              · simp only [Tr.ent] at hc; rw [h] at hc; cases hc
              · exact h
def gN (E : Env) (σ : List OB) (E' : Env) (τ : List OB) : Prop :=
  (E.n = E'.n ∧ E.na = E'.na) ∧ Tr.le E.t E'.t ∧ (∃ ρ, σ = τ ++ ρ) ∧ E.na ≤ τ.length ∧ aj τ.length τ ∧ Tr.under τ.length E'.t
theorem gN.sim {G : Gh} {E E' : Env} {σ τ : List OB} {a : Act} {w : World} (h : gN E σ E' τ) (hs : Sim G E σ a w) :
    ∃ G', Gle G G' ∧ Sim G' E' τ a w := by
  obtain ⟨⟨hn, hna'⟩, hk, ⟨ρ, rfl⟩, hna, hob, hsl⟩ := h
  refine ⟨{ G with own := G.own.take τ.length }, ⟨⟨fun _ _ h => h, rfl, rfl, rfl⟩, ?_⟩, hs.inv.drop hob, hs.defers, by rw [← hn]; exact hs.size, by rw [← hna']; exact hs.na, fun i hc => ?_⟩
  · intro b oo hb hoo
    refine ⟨oo, ?_, fun o' e => ⟨o', e, .inl rfl⟩⟩
    rw [hs.na] at hb
    simp only
    rw [List.getElem?_take_of_lt (by omega)]; exact hoo
  · have hE : E.get i = E'.get i := Tr.le_ent (Tr.le_get (Tr.le_get (Tr.le_get hk _) _) _) hc
    have hu : (E'.get i).v.under τ.length := Tr.under_ent (Tr.under_get (Tr.under_get (Tr.under_get hsl _) _) _) hc
    have hr := hs.slot i (by rw [hE]; exact hc)
    rw [hE] at hr
    exact ai.drop (G := G) (G' := { G with own := G.own.take τ.length }) rfl rfl hu hr
def Env.erase (E : Env) (i : Nat) : Env := ⟨E.n, E.na, E.t.put (i / 64) ((E.t.get (i / 64)).put (i / 8 % 8) (((E.t.get (i / 64)).get (i / 8 % 8)).put (i % 8) .nil))⟩
def Env.forget (E : Env) : List Nat → Env
  | [] => E
  | i :: r => Env.forget (E.erase i) r
def Env.puts (E : Env) : List (Nat × PV) → Env
  | [] => E
  | (i, p) :: r => Env.puts (E.put i ⟨true, p⟩) r
def Env.over (E : Env) (ms : List Nat) (l : List (Nat × PV)) : Env := (E.forget ms).puts l
section
variable {P : Program} {K : Kt} {E E0 : Env} {σ : List OB}
theorem oQ {c : Code} {E' : Env} {τ : List OB} (h : gN E σ E' τ) (hw : W P c K E' τ) : W P c K E σ := fun G a w hs => by
  obtain ⟨G', h1, h2⟩ := h.sim hs
  exact Code.wp_mono (fun _ _ _ hq => cI.back h1 hq) (hw G' a w h2)
theorem Tr.get_erase (t : Tr) (i j : Nat) (x : Tr) : (t.put i x).get j = .nil ∨ (t.put i x).get j = t.get j ∨ (j = i ∧ (t.put i x).get j = x) := by
  rcases Nat.lt_or_ge i 8 with hi | hi
  · rw [Tr.get_put t i j x hi]
    by_cases e : j = i
    · subst e; simp
    · simp [e]
  · rcases Tr.put_big t i j x hi with h | h
    · exact .inr (.inl h)
    · exact .inl h
theorem Env.erase_get (E : Env) (i j : Nat) (h : ((E.erase i).get j).cond = true) : (E.erase i).get j = E.get j := by
  unfold Env.erase Env.get at *
  simp only at *
  have nil1 : ∀ k, (Tr.nil.get k) = .nil := fun _ => rfl
  rcases Tr.get_erase E.t (i / 64) (j / 64) ((E.t.get (i / 64)).put (i / 8 % 8) (((E.t.get (i / 64)).get (i / 8 % 8)).put (i % 8) .nil)) with e | e | ⟨e0, e⟩
  · rw [e] at h; simp [nil1, Tr.ent] at h
  · rw [e]
  · rw [e] at h ⊢
    rcases Tr.get_erase (E.t.get (i / 64)) (i / 8 % 8) (j / 8 % 8) (((E.t.get (i / 64)).get (i / 8 % 8)).put (i % 8) .nil) with f | f | ⟨f0, f⟩
    · rw [f] at h; simp [nil1, Tr.ent] at h
    · rw [f, e0]
    · rw [f] at h ⊢
      rcases Tr.get_erase ((E.t.get (i / 64)).get (i / 8 % 8)) (i % 8) (j % 8) .nil with g | g | ⟨g0, g⟩
      · rw [g] at h; simp [Tr.ent] at h
      · rw [g, e0, f0]
      · rw [g] at h; simp [Tr.ent] at h
theorem Env.erase_sim {G : Gh} {E : Env} {σ : List OB} {a : Act} {w : World} (h : Sim G E σ a w) (i : Nat) : Sim G (E.erase i) σ a w :=
  ⟨h.inv, h.defers, h.size, h.na, fun j hc => by have e := Env.erase_get E i j hc; rw [e] at hc ⊢; exact h.slot j hc⟩
theorem Env.forget_sim {G : Gh} {σ : List OB} {a : Act} {w : World} : ∀ (ms : List Nat) {E : Env}, Sim G E σ a w → Sim G (E.forget ms) σ a w
  | [], _, h => h
  | i :: r, _, h => Env.forget_sim r (Env.erase_sim h i)
theorem hK {c : Code} (ms : List Nat) (h : W P c K (E.forget ms) σ) : W P c K E σ := fun G a w hs => h G a w (Env.forget_sim ms hs)
theorem aV {id : Nat} {l : List Oper} {y : Code} (ms : List Nat)
    (h : ∀ (k : Env → List OB → Prop) (kp : PV → Env → List OB → Prop), (∀ E σ, W P y K E σ → k E σ) → (∀ p E σ, K (.panic p) E σ → kp p E σ) → eA P l.toArray l E σ (fun E σ => k (E.forget ms) σ) kp) :
    W P (.seq (.region id l.toArray false) y) K E σ := jR fun G a w hs =>
  wp_region_lit (cg (fun _ _ _ hp => cI.mono (fun x E σ hk => by
      cases x with
      | normal => exact hK ms hk
      | exit id => exact hk.elim
      | ret => exact hk.elim
      | panic p => exact hk) hp)
    l a w (d8 l E σ _ _ (h (W P y K) (fun p => K (.panic p)) (fun _ _ h => h) (fun _ _ _ h => h)) G a w hs))
theorem nV {id : Nat} {l : List Oper} {y : Code} (ms : List Nat) (hm : P.follows .mixedOrders = true) (masks : List Nat) (bs : List Bool) (hc : chk l.toArray l masks bs = true)
    (h : ∀ (k : Env → List OB → Prop), (∀ E σ, W P y K E σ → k E σ) → fC P l.toArray l bs E σ (fun E σ => k (E.forget ms) σ)) : W P (.seq (.region id l.toArray true) y) K E σ :=
  jR (nR hm masks bs hc (by
    obtain ⟨tr, h1, h2⟩ := f8 l bs E σ _ (h (W P y K) fun _ _ h => h)
    exact ⟨tr, h1, hK ms h2⟩))
theorem aw {k : Env → List OB → Prop} (h : k E σ) : jQ k K .normal E σ := h
theorem cD {k : Env → List OB → Prop} {i : Nat} (h : K (.exit i) E σ) : jQ k K (.exit i) E σ := h
theorem am {k : Env → List OB → Prop} (h : K .ret E σ) : jQ k K .ret E σ := h
theorem dz {k : Env → List OB → Prop} {p : PV} (h : K (.panic p) E σ) : jQ k K (.panic p) E σ := h
theorem aT {i : Nat} (h : K .normal E σ) : gr i K .normal E σ := h
theorem a9 {i : Nat} (h : K .normal E σ) : gr i K (.exit i) E σ := by simp only [gr, if_true]; exact h
theorem nW {i j : Nat} (hj : j ≠ i) (h : K (.exit j) E σ) : gr i K (.exit j) E σ := by simp only [gr, iN hj]; exact h
theorem ak {i : Nat} (h : K .ret E σ) : gr i K .ret E σ := h
theorem bk {i : Nat} {p : PV} (h : K (.panic p) E σ) : gr i K (.panic p) E σ := h
section
variable {α : Type} {ms : List Nat} {slots : α → List (Nat × PV)} {heap : α → List OB} {inv : α → Prop} {μ : α → Nat} {x : α}
end
theorem ae {c : Operand} {x y : Code} {X : Bool} (hc : ev E c = ⟨true, .c (.bool X)⟩) (hX : X = true) (h : W P x K E σ) : W P (.cond c x y) K E σ :=
  nM hc (fun _ => h) (fun h' => by rw [hX] at h'; cases h')
theorem af {c : Operand} {x y : Code} {X : Bool} (hc : ev E c = ⟨true, .c (.bool X)⟩) (hX : X = false) (h : W P y K E σ) : W P (.cond c x y) K E σ :=
  nM hc (fun h' => by rw [hX] at h'; cases h') (fun _ => h)
end
def f9 : List OB → List OB → Prop
  | [], _ => True
  | a :: az, b :: bs => a = b ∧ f9 az bs
  | _ :: _, [] => False
theorem jW : ∀ {τ σ : List OB}, f9 τ σ → ∃ ρ, σ = τ ++ ρ
  | [], σ, _ => ⟨σ, rfl⟩
  | a :: az, b :: bs, h => by obtain ⟨ρ, hr⟩ := jW h.2; exact ⟨ρ, by rw [h.1, hr]; rfl⟩
theorem nh (τ ρ : List OB) : f9 τ (τ ++ ρ) := by
  induction τ with
  | nil => trivial
  | cons a az ih => exact ⟨rfl, ih⟩
theorem nX :
    ((∀ E σ E' τ, gN E σ E' τ = ((E.n = E'.n ∧ E.na = E'.na) ∧ Tr.le E.t E'.t ∧ f9 τ σ ∧ E.na ≤ τ.length ∧ aj τ.length τ ∧ Tr.under τ.length E'.t)) ∧
     (∀ τ, f9 [] τ = True) ∧ (∀ a az b bs, f9 (a :: az) (b :: bs) = (a = b ∧ f9 az bs)) ∧ (∀ a az, f9 (a :: az) [] = False) ∧
     (∀ t, Tr.le t .nil = True) ∧ (∀ e t, Tr.le t (.leaf ⟨false, e⟩) = True) ∧ (∀ c v v', Tr.le (.leaf ⟨c, v⟩) (.leaf ⟨true, v'⟩) = (c = true ∧ v = v')) ∧
     (∀ b0 b1 b2 b3 b4 b5 b6 b7, Tr.le .nil (.node b0 b1 b2 b3 b4 b5 b6 b7) = (Tr.le .nil b0 ∧ Tr.le .nil b1 ∧ Tr.le .nil b2 ∧ Tr.le .nil b3 ∧ Tr.le .nil b4 ∧ Tr.le .nil b5 ∧ Tr.le .nil b6 ∧ Tr.le .nil b7)) ∧
     (∀ a0 a1 a2 a3 a4 a5 a6 a7 b0 b1 b2 b3 b4 b5 b6 b7, Tr.le (.node a0 a1 a2 a3 a4 a5 a6 a7) (.node b0 b1 b2 b3 b4 b5 b6 b7) = (Tr.le a0 b0 ∧ Tr.le a1 b1 ∧ Tr.le a2 b2 ∧ Tr.le a3 b3 ∧ Tr.le a4 b4 ∧ Tr.le a5 b5 ∧ Tr.le a6 b6 ∧ Tr.le a7 b7))) ∧
    ((∀ n, Tr.under n .nil = True) ∧ (∀ n v, Tr.under n (.leaf ⟨false, v⟩) = True) ∧ (∀ n v, Tr.under n (.leaf ⟨true, v⟩) = v.under n) ∧
     (∀ n a0 a1 a2 a3 a4 a5 a6 a7, Tr.under n (.node a0 a1 a2 a3 a4 a5 a6 a7) = (Tr.under n a0 ∧ Tr.under n a1 ∧ Tr.under n a2 ∧ Tr.under n a3 ∧ Tr.under n a4 ∧ Tr.under n a5 ∧ Tr.under n a6 ∧ Tr.under n a7))) ∧
    ((∀ E ms l, Env.over E ms l = (E.forget ms).puts l) ∧      (∀ E, Env.puts E [] = E) ∧ (∀ E i p r, Env.puts E ((i, p) :: r) = Env.puts (E.put i ⟨true, p⟩) r)) ∧
    ((∀ n, aj n [] = True) ∧ (∀ n o r, aj n (o :: r) = (o.under n ∧ aj n r)) ∧ (∀ n cs, OB.under n (.box cs) = ar n cs) ∧ (∀ n, OB.under n .dead = True) ∧ (∀ n s v T es, OB.under n (.arr s v T es) = True) ∧
     (∀ n, ar n [] = True) ∧ (∀ n c r, ar n (c :: r) = (c.under n ∧ ar n r)) ∧ (∀ n y, PV.under n (.c y) = y.under n) ∧ (∀ n ys, PV.under n (.a ys) = ar n ys) ∧ (∀ n, PV.under n .x = True)) ∧
    ((∀ n b, CV.under n (.bool b) = True) ∧ (∀ n k m, CV.under n (.int k m) = True) ∧ (∀ n s, CV.under n (.str s) = True) ∧ (∀ n s es, CV.under n (.tree s es) = True) ∧ (∀ n s es i j, CV.under n (.tptr s es i j) = True) ∧
     (∀ n, CV.under n .nilp = True) ∧ (∀ n, CV.under n .nils = True) ∧ (∀ n, CV.under n .nilf = True) ∧ (∀ n, CV.under n .nili = True) ∧ (∀ n, CV.under n .emp = True) ∧ (∀ n, CV.under n .emn = True) ∧ (∀ n, CV.under n .junk = True) ∧
     (∀ n b off, CV.under n (.optr b off) = (b < n)) ∧ (∀ n b v l k, CV.under n (.osl b v l k) = (b < n)) ∧ (∀ n b v i j, CV.under n (.oel b v i j) = (b < n)) ∧ (∀ n f, CV.under n (.fn f []) = True) ∧ (∀ n t g cs, CV.under n (.ifc t g cs) = True)) := by
  refine ⟨⟨?_, ?_, ?_, ?_, ?_, ?_, ?_, ?_, ?_⟩, ⟨?_, ?_, ?_, ?_⟩, ⟨?_, ?_, ?_⟩, ⟨?_, ?_, ?_, ?_, ?_, ?_, ?_, ?_, ?_, ?_⟩, ?_, ?_, ?_, ?_, ?_, ?_, ?_, ?_, ?_, ?_, ?_, ?_, ?_, ?_, ?_, ?_, ?_⟩
  all_goals first
    | (intros; rfl)
    | (intro E σ E' τ; unfold gN; exact propext ⟨fun ⟨h1, h2, ⟨ρ, h3⟩, h4⟩ => ⟨h1, h2, by rw [h3]; exact nh τ ρ, h4⟩, fun ⟨h1, h2, h3, h4⟩ => ⟨h1, h2, jW h3, h4⟩⟩)
    | (intro t; cases t <;> rfl)
    | (intro e t; cases t <;> simp [Tr.le]; done)
    | (intros; simp [Tr.le]; done)
    | (intros; simp [Tr.under]; done)
    | (intros; simp [CV.under]; done)
theorem gO {P : Program} {c : Code} {K : Kt} {E E' : Env} {σ σ' : List OB} (hE : E = E') (hσ : σ = σ') (h : W P c K E' σ') : W P c K E σ := by subst hE hσ; exact h
theorem pn :
    ((∀ x y, (PV.c x = PV.c y) = (x = y)) ∧ (∀ x y, (PV.a x = PV.a y) = (x = y)) ∧ (∀ x y, (PV.t x = PV.t y) = (x = y)) ∧ (∀ k n k' n', (CV.int k n = CV.int k' n') = (k = k' ∧ n = n')) ∧ (∀ b b', (CV.bool b = CV.bool b') = (b = b')) ∧ (∀ b b', (CV.str b = CV.str b') = (b = b'))) ∧
    ((∀ s es s' es', (CV.tree s es = CV.tree s' es') = (s = s' ∧ es = es')) ∧ (∀ s es i j s' es' i' j', (CV.tptr s es i j = CV.tptr s' es' i' j') = (s = s' ∧ es = es' ∧ i = i' ∧ j = j')) ∧
     (∀ b o b' o', (CV.optr b o = CV.optr b' o') = (b = b' ∧ o = o')) ∧ (∀ b v l n b' v' l' n', (CV.osl b v l n = CV.osl b' v' l' n') = (b = b' ∧ v = v' ∧ l = l' ∧ n = n')) ∧ (∀ b v l n b' v' l' n', (CV.oel b v l n = CV.oel b' v' l' n') = (b = b' ∧ v = v' ∧ l = l' ∧ n = n'))) ∧
    ((∀ cs cs', (OB.box cs = OB.box cs') = (cs = cs')) ∧ (∀ s v T es s' v' T' es', (OB.arr s v T es = OB.arr s' v' T' es') = (s = s' ∧ v = v' ∧ T = T' ∧ es = es')) ∧
     (∀ {α : Type} (a : α) az b bs, (a :: az = b :: bs) = (a = b ∧ az = bs)) ∧ (∀ {α β : Type} (a : α) (b : β) a' b', ((a, b) = (a', b')) = (a = a' ∧ b = b'))) := by
  refine ⟨⟨?_, ?_, ?_, ?_, ?_, ?_⟩, ⟨?_, ?_, ?_, ?_, ?_⟩, ?_, ?_, ?_, ?_⟩ <;> (intros; simp)
theorem qy :
    ((∀ P rs post pp E σ, f7 P rs post pp .ret E σ = (match cy P E σ rs with | some (C, ps) => C ∧ ps.all PV.isV = true ∧ post (ci ps) σ | none => False)) ∧
     (∀ P rs post pp E σ, f7 P rs post pp .normal E σ = (match cy P E σ rs with | some (C, ps) => C ∧ ps.all PV.isV = true ∧ post (ci ps) σ | none => False)) ∧
     (∀ P rs post pp p E σ, f7 P rs post pp (.panic p) E σ = pp p σ)) ∧
    ((∀ P E σ, cy P E σ [] = some (True, [])) ∧ (∀ P E σ r rs, cy P E σ (r :: rs) = (match m8 P E σ r, cy P E σ rs with | some (C, p), some (C', ps) => some (C ∧ C', p :: ps) | _, _ => none)) ∧
     (∀ P E σ t, m8 P E σ (.tmp t) = some ((E.get t).cond = true, (E.get t).v)) ∧ (∀ P E σ t T, m8 P E σ (.cell t T) = (match fp P true σ T (E.get t) with | .ok C v => some (C, v) | _ => none))) ∧
    ((∀ p, ci [p] = p) ∧ (ci [] = .t []) ∧ (∀ p q r, ci (p :: q :: r) = .t (p :: q :: r)) ∧ (∀ y, PV.isV (.c y) = true) ∧ (∀ y, PV.isV (.a y) = true) ∧ (PV.isV .x = true)) := by
  refine ⟨⟨?_, ?_, ?_⟩, ⟨?_, ?_, ?_, ?_⟩, ?_, ?_, ?_, ?_, ?_, ?_⟩ <;> (intros; rfl)
theorem qz : (∀ E, Env.forget E [] = E) ∧ (∀ E i r, Env.forget E (i :: r) = Env.forget (E.erase i) r) ∧ (∀ n na t i, Env.erase ⟨n, na, t⟩ i = ⟨n, na, t.put (i / 64) ((t.get (i / 64)).put (i / 8 % 8) (((t.get (i / 64)).get (i / 8 % 8)).put (i % 8) .nil))⟩) :=
  ⟨fun _ => rfl, fun _ _ _ => rfl, fun _ _ _ _ => rfl⟩
end Pam
namespace Pam
open Go
def fD (n : Nat) : List PV → Prop
 | [] => True
 | p :: r => p.under n ∧ fD n r
def PV.underP (n : Nat) : PV → Prop
 | .t ps => fD n ps
 | p => p.under n
theorem gS.drop {G G' : Gh} {n : Nat} (hH : G'.H = G.H) (ho : G'.own = G.own.take n) {p : PV} {v : Value} (hb : p.under n) (h : gS G p v) : gS G' p v := by
 cases p with
 | x => trivial
 | c y => exact Rep.drop hH ho hb h
 | a ys => obtain ⟨vs, rfl, h2⟩ := h; exact ⟨vs, rfl, ap.under hH ho hb h2⟩
 | t ps => exact hb.elim
theorem ai.dropP {G G' : Gh} {n : Nat} (hH : G'.H = G.H) (ho : G'.own = G.own.take n) {p : PV} {v : Value} (hb : p.underP n) (h : ai G p v) : ai G' p v := by
 cases p with
 | x => trivial
 | c y => exact ai.drop (p := .c y) hH ho hb h
 | a ys => exact ai.drop (p := .a ys) hH ho hb h
 | t ps =>
  obtain ⟨vs, rfl, h2⟩ := h
  refine ⟨vs, rfl, ?_⟩
  have hb' : fD n ps := hb
  clear hb
  induction ps generalizing vs with
  | nil => cases vs <;> simp_all [ap]
  | cons p ps ih =>
   cases vs with
   | nil => simp [ap] at h2
   | cons v vs => exact ⟨gS.drop hH ho hb'.1 h2.1, ih vs h2.2 hb'.2⟩
def ni (n : Nat) (post : PV → List OB → Prop) (p : PV) (σ : List OB) : Prop :=
 ∃ τ, f9 τ σ ∧ n ≤ τ.length ∧ aj τ.length τ ∧ p.underP τ.length ∧ post p τ
theorem fw.drop {P : Program} {f : FuncId} {args : List PV} {σ : List OB} {post pp : PV → List OB → Prop} (h : fw P f args σ (ni σ.length post) pp) : fw P f args σ post pp := by
 refine ⟨h.1, fun G w vs hna hds hi ha => (h.2 G w vs hna hds hi ha).mono fun e w' hr => ?_⟩
 obtain ⟨G', σ', p, v, h1, h2, h3, h4⟩ := hr
 rcases h4 with ⟨rfl, τ, k1, k2, k3, k4, k5⟩ | h4
 ·obtain ⟨ρ, rfl⟩ := jW k1
  refine ⟨{ G' with own := G'.own.take τ.length }, τ, p, v, ⟨⟨h1.le.H, h1.le.F, h1.le.w0, h1.le.na⟩, ?_⟩, h2.drop k3, ai.dropP (G := G') (G' := { G' with own := G'.own.take τ.length }) rfl rfl k4 h3, .inl ⟨rfl, k5⟩⟩
  intro b oo hb hoo
  obtain ⟨oo', q1, q2⟩ := h1.own b oo hb hoo
  refine ⟨oo', ?_, q2⟩
  simp only
  rw [List.getElem?_take_of_lt (by omega)]; exact q1
 ·exact ⟨G', σ', p, v, h1, h2, h3, .inr h4⟩
theorem bq {P : Program} {σ : List OB} {f : FuncId} {fn : Func} {c : Code} {args : List PV} {post pp : PV → List OB → Prop} (n : Nat) (rs : List ResultVar) (hf : P.funcs[f]? = some fn) (hb : fn.body = some c) (hn : fn.ntmps = n) (hr : fn.results.toList = rs)
  (hname : (fn.name == "runtime.NumGoroutine") = false) (hlen : args.length ≤ n)
  (h : W P c (f7 P rs (ni σ.length post) pp) (Env.ofList n σ.length (dY 0 args)) σ) : fw P f args σ post pp :=
 fw.drop (oH n rs hf hb hn hr hname hlen h)
theorem oR : ((∀ n ps, PV.underP n (.t ps) = fD n ps) ∧ (∀ n y, PV.underP n (.c y) = y.under n) ∧ (∀ n ys, PV.underP n (.a ys) = ar n ys) ∧ (∀ n, PV.underP n .x = True)) ∧
  ((∀ n, fD n [] = True) ∧ (∀ n p r, fD n (p :: r) = (p.under n ∧ fD n r))) := by
 refine ⟨⟨?_, ?_, ?_, ?_⟩, ?_, ?_⟩ <;> (intros; rfl)
theorem nj {P : Program} {rs : List ResultVar} {n : Nat} {post pp : PV → List OB → Prop} {E : Env} {σ : List OB} (τ : List OB)
  (h : match cy P E σ rs with | some (C, ps) => C ∧ ps.all PV.isV = true ∧ (f9 τ σ ∧ n ≤ τ.length ∧ aj τ.length τ ∧ (ci ps).underP τ.length ∧ post (ci ps) τ) | none => False) : f7 P rs (ni n post) pp .ret E σ := by
 simp only [f7]
 split at h
 ·rename_i C ps e
  rw [e]
  exact ⟨h.1, h.2.1, τ, h.2.2⟩
 ·exact h.elim
theorem kE {P : Program} {rs : List ResultVar} {n : Nat} {post pp : PV → List OB → Prop} {E : Env} {σ : List OB} (τ : List OB)
  (h : match cy P E σ rs with | some (C, ps) => C ∧ ps.all PV.isV = true ∧ (f9 τ σ ∧ n ≤ τ.length ∧ aj τ.length τ ∧ (ci ps).underP τ.length ∧ post (ci ps) τ) | none => False) : f7 P rs (ni n post) pp .normal E σ := by
 simp only [f7]
 split at h
 ·rename_i C ps e
  rw [e]
  exact ⟨h.1, h.2.1, τ, h.2.2⟩
 ·exact h.elim
end Pam
namespace Pam
open Go
def dS (E : Env) (σ : List OB) (E' : Env) (σ' : List OB) : Prop :=
  ∀ (G : Gh) (a : Act) (w : World), Sim G E σ a w → ∃ G', Gle G G' ∧ Sim G' E' σ' a w
theorem fd {P : Program} {c : Code} {K : Kt} {E E' : Env} {σ σ' : List OB} (hg : dS E σ E' σ') (h : W P c K E' σ') : W P c K E σ := fun G a w hs => by
  obtain ⟨G', h1, h2⟩ := hg G a w hs
  exact Code.wp_mono (fun _ _ _ hq => cI.back h1 hq) (h G' a w h2)
theorem aQ {P : Program} {ops : Array Oper} {γ : Bool} {C : Prop} {f : FuncId} {args : List PV} {o : Oper} {r : List Oper} {E E' : Env} {σ σ' : List OB} {k : Env → List OB → Prop} {kp : PV → Env → List OB → Prop}
    (hg : dS E σ E' σ') (h : eA P ops (o :: r) E' σ' k kp) : fL P ops γ C f args o r E σ k kp := by
  intro _ _ G a w hs
  obtain ⟨G', h1, h2⟩ := hg G a w hs
  exact cg (fun _ _ _ hq => cI.back h1 hq) _ _ _ (d8 _ _ _ _ _ h G' a w h2)
def CV.frO (b ver s : Nat) (es : List (List CV)) : CV → CV
  | .osl b' v lo len => if b' = b then (if v = ver ∧ lo + len ≤ es.length then .tree s ((es.drop lo).take len) else .junk) else .osl b' v lo len
  | .oel b' v i j => if b' = b then .junk else .oel b' v i j
  | .optr b' off => if b' = b then .junk else .optr b' off
  | .fn f caps => .fn f caps
  | .junk => .junk
  | .bool x => .bool x
  | .int k n => .int k n
  | .str x => .str x
  | .nilp => .nilp
  | .nils => .nils
  | .nilf => .nilf
  | .nili => .nili
  | .emp => .emp
  | .emn => .emn
  | .tree s' es' => .tree s' es'
  | .tptr s' es' i j => .tptr s' es' i j
  | .ifc T g cs => .ifc T g cs
def CV.fr (b ver s : Nat) (es : List (List CV)) : CV → CV
  | .fn f caps => .fn f (caps.map (CV.frO b ver s es))
  | c => c.frO b ver s es
def PV.fr (b ver s : Nat) (es : List (List CV)) : PV → PV
  | .x => .x
  | .c y => .c (y.fr b ver s es)
  | .a ys => .a (ys.map (CV.fr b ver s es))
  | .t _ => .x
def OB.fr (b ver s : Nat) (es : List (List CV)) : OB → OB
  | .box cs => .box (cs.map (CV.fr b ver s es))
  | .arr s' v T e => .arr s' v T e
  | .dead => .dead
def Tr.fr (b ver s : Nat) (es : List (List CV)) : Tr → Tr
  | .nil => .nil
  | .leaf e => .leaf ⟨e.cond && (match e.v with | .t _ => false | _ => true), e.v.fr b ver s es⟩
  | .node a0 a1 a2 a3 a4 a5 a6 a7 => .node (a0.fr b ver s es) (a1.fr b ver s es) (a2.fr b ver s es) (a3.fr b ver s es) (a4.fr b ver s es) (a5.fr b ver s es) (a6.fr b ver s es) (a7.fr b ver s es)
def Env.fr (b ver s : Nat) (es : List (List CV)) (E : Env) : Env := ⟨E.n, E.na, E.t.fr b ver s es⟩
theorem Tr.fr_get (b ver s : Nat) (es : List (List CV)) (t : Tr) (j : Nat) : (t.fr b ver s es).get j = (t.get j).fr b ver s es := by
  rcases Nat.lt_or_ge j 8 with hj | hj
  · have hj' : j = 0 ∨ j = 1 ∨ j = 2 ∨ j = 3 ∨ j = 4 ∨ j = 5 ∨ j = 6 ∨ j = 7 := by omega
    cases t <;> rcases hj' with rfl | rfl | rfl | rfl | rfl | rfl | rfl | rfl <;> rfl
  · rw [Tr.get_big _ _ hj, Tr.get_big _ _ hj]; rfl
theorem Tr.fr_ent (b ver s : Nat) (es : List (List CV)) (t : Tr) : (t.fr b ver s es).ent = ⟨t.ent.cond && (match t.ent.v with | .t _ => false | _ => true), t.ent.v.fr b ver s es⟩ := by
  cases t <;> rfl
def frG (G : Gh) (w : World) (b : Nat) (o : OG) : Gh :=
  { G with H := fun x => if o.has = true ∧ x = o.blk then w.heap[x]? else G.H x, own := G.own.set b none }
section
variable {G : Gh} {σ : List OB} {w : World} {b s ver : Nat} {T : TypeId} {es : List (List CV)} {o : OG}
theorem mI (hi : Inv G σ w) (ho : G.own[b]? = some (some o)) : ∀ x y, G.H x = some y → (frG G w b o).H x = some y := by
  intro x y h
  simp only [frG]
  split
  · rename_i hc
    have := (hi.sep b o ho hc.1).1
    rw [hc.2] at h; rw [this] at h; cases h
  · exact h
theorem mJ (ho : G.own[b]? = some (some o)) : aE G.own (G.own.set b none) := by
  intro x oo h
  by_cases e : x = b
  · subst e
    have hlt : x < G.own.length := (List.getElem?_eq_some_iff.1 h).1
    exact ⟨none, by simp [hlt], fun o' ho' => by cases ho'⟩
  · exact ⟨oo, by rw [List.getElem?_set_ne (Ne.symm e)]; exact h, fun o' ho' => ⟨o', ho', .inl rfl⟩⟩
theorem dC (hi : Inv G σ w) (hσ : σ[b]? = some (.arr s ver T es)) (ho : G.own[b]? = some (some o)) {c : CV} {v : Value} (h : bK G c v) : bK (frG G w b o) (c.frO b ver s es) v := by
  have h1 : v.oneCell' = true := bK.one h
  have hm : ∀ {c}, bK G c v → bK (frG G w b o) c v := fun h => bK.mono (mI hi ho) (mJ ho) h
  have junk : bK (frG G w b o) .junk v := .junk v h1
  cases c <;> simp only [CV.frO] <;> try exact hm h
  case optr b' off =>
    split
    · exact junk
    · exact hm h
  case oel b' v' i j =>
    split
    · exact junk
    · exact hm h
  case osl b' v' lo len =>
    split
    · rename_i e
      subst e
      split
      · rename_i hc
        obtain ⟨rfl, hle⟩ := hc
        obtain ⟨_, oo, k1, k2⟩ := h
        rw [ho] at k1
        simp only [sJ] at k1
        obtain ⟨o', g1, g2, g3, g4, g5, g6, g7, g8, g9⟩ := hi.own b' _ hσ
        rw [ho] at g1
        simp only [sJ] at g1
        subst g1
        obtain ⟨q1, q2⟩ := k2 o k1.symm
        obtain ⟨q3, a, rfl, q4⟩ := q2 g2.symm
        have hlen : ((es.drop lo).take len).length = len := by simp; omega
        show az _ _ _
        rcases Nat.eq_zero_or_pos len with e0 | e0
        · subst e0
          simp only [List.take_zero]
          exact .tree0 s a _ (fun h => by
            cases hh : o.has with
            | true => obtain ⟨a', e, _⟩ := q4 hh; rw [h] at e; cases e
            | false => have := g8 hh; omega)
        · have hh : o.has = true := by
            cases hh : o.has with
            | true => rfl
            | false => have := g8 hh; omega
          obtain ⟨a', rfl, q5⟩ := q4 hh
          have := q5 (by omega)
          subst this
          obtain ⟨c, fz, r1, r2, r3, r4⟩ := g9 hh
          have hget : ∀ (i : Nat) (e : List CV), ((es.drop lo).take len)[i]? = some e → es[lo + i]? = some e := by
            intro i e h
            rw [List.getElem?_take] at h
            split at h
            · rwa [List.getElem?_drop] at h
            · cases h
          have hr := az.tree (H := (frG G w b' o).H) s ((es.drop lo).take len) o.blk (lo * o.sz) (o.cap - lo) c T fz (fun i j => (c[lo * o.sz + i * s + j]?).getD undef) (by simp [frG, hh, r1]) (by omega)
            (fun i e h => g7 e (List.mem_of_getElem? (hget i e h)))
            (fun i j e x h1 h2 => by
              obtain ⟨v, r5, _⟩ := r4 (lo + i) j e x (hget i e h1) h2
              have : lo * o.sz + i * s + j = (lo + i) * s + j := by rw [g3, Nat.add_mul]
              rw [this, r5]; rfl)
            (fun i j e x h1 h2 => by
              obtain ⟨v, r5, r6⟩ := r4 (lo + i) j e x (hget i e h1) h2
              have : lo * o.sz + i * s + j = (lo + i) * s + j := by rw [g3, Nat.add_mul]
              rw [this, r5]
              exact az.mono (mI hi ho) r6)
          rw [hlen] at hr
          exact hr
      · exact junk
    · exact hm h
theorem po (hi : Inv G σ w) (hσ : σ[b]? = some (.arr s ver T es)) (ho : G.own[b]? = some (some o)) {c : CV} {v : Value} (h : Rep G c v) : Rep (frG G w b o) (c.fr b ver s es) v := by
  cases c
  case fn f caps =>
    obtain ⟨vs, rfl, h2⟩ := h
    refine ⟨vs, rfl, ?_⟩
    induction caps generalizing vs with
    | nil => cases vs <;> simp_all [ap]
    | cons c cs ih =>
      cases vs with
      | nil => simp [ap] at h2
      | cons v vs => exact ⟨dC hi hσ ho h2.1, ih vs h2.2⟩
  all_goals first
    | exact dC hi hσ ho (c := .junk) h
    | exact dC hi hσ ho (c := .bool _) h
    | exact dC hi hσ ho (c := .int _ _) h
    | exact dC hi hσ ho (c := .str _) h
    | exact dC hi hσ ho (c := .nilp) h
    | exact dC hi hσ ho (c := .nils) h
    | exact dC hi hσ ho (c := .nilf) h
    | exact dC hi hσ ho (c := .nili) h
    | exact dC hi hσ ho (c := .emp) h
    | exact dC hi hσ ho (c := .emn) h
    | exact dC hi hσ ho (c := .tree _ _) h
    | exact dC hi hσ ho (c := .tptr _ _ _ _) h
    | exact dC hi hσ ho (c := .ifc _ _ _) h
    | skip
  case optr b' off =>
    have := dC hi hσ ho (c := .optr b' off) h
    simp only [CV.fr]
    by_cases e : b' = b <;> simp only [CV.frO, e, if_true, if_false] at this ⊢ <;> exact this
  case osl b' v' lo len =>
    have := dC hi hσ ho (c := .osl b' v' lo len) h
    simp only [CV.fr]
    by_cases e : b' = b
    · by_cases e2 : v' = ver ∧ lo + len ≤ es.length <;> simp only [CV.frO, e, e2, if_true, if_false] at this ⊢ <;> exact this
    · simp only [CV.frO, e, if_false] at this ⊢; exact this
  case oel b' v' i j =>
    have := dC hi hσ ho (c := .oel b' v' i j) h
    simp only [CV.fr]
    by_cases e : b' = b <;> simp only [CV.frO, e, if_true, if_false] at this ⊢ <;> exact this
theorem nY (hi : Inv G σ w) (hσ : σ[b]? = some (.arr s ver T es)) (ho : G.own[b]? = some (some o)) : ∀ {cs : List CV} {vs : List Value}, ap (Rep G) cs vs → ap (Rep (frG G w b o)) (cs.map (CV.fr b ver s es)) vs
  | [], [], _ => trivial
  | _ :: _, _ :: _, h => ⟨po hi hσ ho h.1, nY hi hσ ho h.2⟩
theorem qA (hi : Inv G σ w) (hσ : σ[b]? = some (.arr s ver T es)) (ho : G.own[b]? = some (some o)) : Inv (frG G w b o) ((σ.set b .dead).map (OB.fr b ver s es)) w := by
  have hH := mI (b := b) hi ho
  have hblt : b < G.own.length := (List.getElem?_eq_some_iff.1 ho).1
  have hne : ∀ (x : Nat) (o' : OG), (G.own.set b none)[x]? = some (some o') → x ≠ b ∧ G.own[x]? = some (some o') := by
    intro x o' h
    by_cases e : x = b
    · subst e; simp [hblt] at h
    · rw [List.getElem?_set_ne (Ne.symm e)] at h; exact ⟨e, h⟩
  refine ⟨?_, hi.hF, ?_, by simp [frG, hi.len], ?_, fun x x' o1 o2 h1 h2 => hi.inj x x' o1 o2 (hne _ _ h1).2 (hne _ _ h2).2, ?_, hi.os, hi.tape, hi.output, hi.grow⟩
  · intro x y h
    simp only [frG] at h
    split at h
    · exact h
    · exact hi.hH x y h
  · intro x y h
    simp only [frG]
    split
    · rename_i hc
      have := (hi.sep b o ho hc.1).2
      have h : G.F x = some y := h
      rw [hc.2] at h; rw [this] at h; cases h
    · exact hi.HF x y h
  · intro x ob h
    rw [List.getElem?_map, Option.map_eq_some_iff] at h
    obtain ⟨ob', h1, rfl⟩ := h
    by_cases e : x = b
    · subst e
      have hlt : x < σ.length := (List.getElem?_eq_some_iff.1 hσ).1
      simp only [List.getElem?_set_self hlt, sJ] at h1
      subst h1
      simp [OB.fr, fo, frG, hblt]
    · rw [List.getElem?_set_ne (Ne.symm e)] at h1
      have hx : (frG G w b o).own[x]? = G.own[x]? := by simp only [frG]; exact List.getElem?_set_ne (Ne.symm e)
      have hok := hi.own x ob' h1
      cases ob' with
      | dead => simpa [OB.fr, fo, hx] using hok
      | box cs =>
        obtain ⟨o', c, T', g1, g2, g3, g4, g5⟩ := hok
        exact ⟨o', c, T', hx.trans g1, g2, g3, g4, nY hi hσ ho g5⟩
      | arr s' v' T' e' =>
        obtain ⟨o', g1, g2, g3, g4, g5, g6, g7, g8, g9⟩ := hok
        refine ⟨o', hx.trans g1, g2, g3, g4, g5, g6, g7, g8, fun hh => ?_⟩
        obtain ⟨c, fz, r1, r2, r3, r4⟩ := g9 hh
        exact ⟨c, fz, r1, r2, r3, fun i j e y p1 p2 => by obtain ⟨v, p3, p4⟩ := r4 i j e y p1 p2; exact ⟨v, p3, az.mono hH p4⟩⟩
  · intro x o' h hh
    obtain ⟨e, h'⟩ := hne _ _ h
    obtain ⟨s1, s2⟩ := hi.sep x o' h' hh
    refine ⟨?_, s2⟩
    simp only [frG]
    split
    · rename_i hc
      exact (e (hi.inj x b o' o h' ho hh hc.1 hc.2)).elim
    · exact s1
end
theorem bO {E : Env} {σ : List OB} (b : Nat) {s ver : Nat} {T : TypeId} {es : List (List CV)} (hσ : σ[b]? = some (.arr s ver T es)) : dS E σ (E.fr b ver s es) ((σ.set b .dead).map (OB.fr b ver s es)) := by
  intro G a w hs
  have hi := hs.inv
  obtain ⟨o, ho, _⟩ := hi.own b _ hσ
  refine ⟨frG G w b o, .mk' ⟨mI hi ho, rfl, rfl, rfl⟩ (mJ ho), qA hi hσ ho, hs.defers, hs.size, hs.na, fun i hc => ?_⟩
  have hget : (E.fr b ver s es).get i = ⟨(E.get i).cond && (match (E.get i).v with | .t _ => false | _ => true), (E.get i).v.fr b ver s es⟩ := by
    unfold Env.get Env.fr
    simp only
    rw [Tr.fr_get, Tr.fr_get, Tr.fr_get, Tr.fr_ent]
  rw [hget] at hc ⊢
  simp only [Bool.and_eq_true] at hc
  have hr := hs.slot i hc.1
  cases hv : (E.get i).v with
  | x => trivial
  | c y => rw [hv] at hr; exact po hi hσ ho hr
  | a ys => rw [hv] at hr; obtain ⟨vs, e, h2⟩ := hr; exact ⟨vs, e, nY hi hσ ho h2⟩
  | t ps => rw [hv] at hc; simp at hc
theorem qU :
    ((∀ b v s es n na t, Env.fr b v s es ⟨n, na, t⟩ = ⟨n, na, t.fr b v s es⟩) ∧ (∀ b v s es, Tr.fr b v s es .nil = .nil) ∧ (∀ b v s es c y, Tr.fr b v s es (.leaf ⟨c, .c y⟩) = .leaf ⟨c, .c (y.fr b v s es)⟩) ∧ (∀ b v s es c ys, Tr.fr b v s es (.leaf ⟨c, .a ys⟩) = .leaf ⟨c, .a (ys.map (CV.fr b v s es))⟩) ∧
     (∀ b v s es c ps, Tr.fr b v s es (.leaf ⟨c, .t ps⟩) = .leaf ⟨false, .x⟩) ∧ (∀ b v s es c, Tr.fr b v s es (.leaf ⟨c, .x⟩) = .leaf ⟨c, .x⟩) ∧
     (∀ b v s es a0 a1 a2 a3 a4 a5 a6 a7, Tr.fr b v s es (.node a0 a1 a2 a3 a4 a5 a6 a7) = .node (a0.fr b v s es) (a1.fr b v s es) (a2.fr b v s es) (a3.fr b v s es) (a4.fr b v s es) (a5.fr b v s es) (a6.fr b v s es) (a7.fr b v s es))) ∧
    ((∀ b v s es, OB.fr b v s es .dead = .dead) ∧ (∀ b v s es cs, OB.fr b v s es (.box cs) = .box (cs.map (CV.fr b v s es))) ∧ (∀ b v s es s' v' T e, OB.fr b v s es (.arr s' v' T e) = .arr s' v' T e)) ∧
    ((∀ b v s es x, CV.fr b v s es (.bool x) = .bool x) ∧ (∀ b v s es k n, CV.fr b v s es (.int k n) = .int k n) ∧ (∀ b v s es x, CV.fr b v s es (.str x) = .str x) ∧ (∀ b v s es, CV.fr b v s es .nilp = .nilp) ∧ (∀ b v s es, CV.fr b v s es .nils = .nils) ∧
     (∀ b v s es, CV.fr b v s es .nilf = .nilf) ∧ (∀ b v s es, CV.fr b v s es .nili = .nili) ∧ (∀ b v s es, CV.fr b v s es .emp = .emp) ∧ (∀ b v s es, CV.fr b v s es .emn = .emn) ∧ (∀ b v s es, CV.fr b v s es .junk = .junk) ∧ (∀ b v s es s' e', CV.fr b v s es (.tree s' e') = .tree s' e') ∧
     (∀ b v s es s' e' i j, CV.fr b v s es (.tptr s' e' i j) = .tptr s' e' i j) ∧ (∀ b v s es T g cs, CV.fr b v s es (.ifc T g cs) = .ifc T g cs)) ∧
    ((∀ b v s es b' v' lo len, CV.fr b v s es (.osl b' v' lo len) = if b' = b then (if v' = v ∧ lo + len ≤ es.length then .tree s ((es.drop lo).take len) else .junk) else .osl b' v' lo len) ∧
     (∀ b v s es b' v' i j, CV.fr b v s es (.oel b' v' i j) = if b' = b then .junk else .oel b' v' i j) ∧ (∀ b v s es b' off, CV.fr b v s es (.optr b' off) = if b' = b then .junk else .optr b' off) ∧
     (∀ b v s es f caps, CV.fr b v s es (.fn f caps) = .fn f (caps.map (CV.frO b v s es)))) := by
  refine ⟨⟨?_, ?_, ?_, ?_, ?_, ?_, ?_⟩, ⟨?_, ?_, ?_⟩, ⟨?_, ?_, ?_, ?_, ?_, ?_, ?_, ?_, ?_, ?_, ?_, ?_, ?_⟩, ?_, ?_, ?_, ?_⟩
  all_goals intros
  all_goals first | rfl | (simp [Tr.fr, PV.fr]; done)
theorem bJ : (∀ n f, CV.under n (.fn f []) = True) ∧ (∀ n f b off r, CV.under n (.fn f (.optr b off :: r)) = (b < n ∧ CV.under n (.fn f r))) ∧ (∀ n f b v lo k r, CV.under n (.fn f (.osl b v lo k :: r)) = (b < n ∧ CV.under n (.fn f r))) ∧
    (∀ n f k i r, CV.under n (.fn f (.int k i :: r)) = CV.under n (.fn f r)) ∧ (∀ n f k i r, CV.under n (.fn f (.tree k i :: r)) = CV.under n (.fn f r)) ∧ (∀ n f s r, CV.under n (.fn f (.str s :: r)) = CV.under n (.fn f r)) ∧ (∀ n f s r, CV.under n (.fn f (.bool s :: r)) = CV.under n (.fn f r)) := by
  refine ⟨?_, ?_, ?_, ?_, ?_, ?_, ?_⟩ <;> intros <;> simp [CV.under]
theorem cN {E : Env} {d : Nat} (h : Nat.ble (d + 1) E.n = true) : cZ E (some d) := Nat.le_of_ble_eq_true h
def PV.ren1 (r : Nat → Nat) : PV → PV
  | .c y => .c (y.ren r)
  | .a ys => .a (ys.map (CV.ren r))
  | q => q
theorem qB :
    ((∀ r y, PV.ren r (.c y) = .c (y.ren r)) ∧ (∀ r ys, PV.ren r (.a ys) = .a (ys.map (CV.ren r))) ∧ (∀ r, PV.ren r .x = .x) ∧ (∀ r ps, PV.ren r (.t ps) = .t (ps.map (PV.ren1 r))) ∧ (∀ r y, PV.ren1 r (.c y) = .c (y.ren r)) ∧ (∀ r ys, PV.ren1 r (.a ys) = .a (ys.map (CV.ren r)))) ∧
    ((∀ r cs, OB.ren r (.box cs) = .box (cs.map (CV.ren r))) ∧ (∀ r, OB.ren r .dead = .dead) ∧ (∀ r s v T es, OB.ren r (.arr s v T es) = .arr s v T es)) ∧
    ((∀ r x, CV.ren r (.bool x) = .bool x) ∧ (∀ r k n, CV.ren r (.int k n) = .int k n) ∧ (∀ r x, CV.ren r (.str x) = .str x) ∧ (∀ r, CV.ren r .nilp = .nilp) ∧ (∀ r, CV.ren r .nils = .nils) ∧ (∀ r, CV.ren r .nilf = .nilf) ∧ (∀ r, CV.ren r .nili = .nili) ∧ (∀ r, CV.ren r .emp = .emp) ∧ (∀ r, CV.ren r .emn = .emn) ∧ (∀ r, CV.ren r .junk = .junk) ∧
     (∀ r s es, CV.ren r (.tree s es) = .tree s es) ∧ (∀ r s es i j, CV.ren r (.tptr s es i j) = .tptr s es i j) ∧ (∀ r T g cs, CV.ren r (.ifc T g cs) = .ifc T g cs)) ∧
    ((∀ r b off, CV.ren r (.optr b off) = .optr (r b) off) ∧ (∀ r b v lo n, CV.ren r (.osl b v lo n) = .osl (r b) v lo n) ∧ (∀ r b v i j, CV.ren r (.oel b v i j) = .oel (r b) v i j) ∧ (∀ r f caps, CV.ren r (.fn f caps) = .fn f (caps.map (CV.ren0 r))) ∧
     (∀ r b off, CV.ren0 r (.optr b off) = .optr (r b) off) ∧ (∀ r b v lo n, CV.ren0 r (.osl b v lo n) = .osl (r b) v lo n) ∧ (∀ r k n, CV.ren0 r (.int k n) = .int k n) ∧ (∀ r s es, CV.ren0 r (.tree s es) = .tree s es) ∧ (∀ r x, CV.ren0 r (.str x) = .str x) ∧ (∀ r x, CV.ren0 r (.bool x) = .bool x)) ∧
    ((∀ n ρ k, cm n ρ k = if k < ρ.length then ρ.getD k 0 else n + (k - ρ.length)) ∧ (∀ {α : Type} (σ xs : List α), bn σ [] xs = σ ++ xs) ∧ (∀ {α : Type} (σ xs : List α) b ρ x, bn σ (b :: ρ) (x :: xs) = bn (σ.set b x) ρ xs)) := by
  refine ⟨⟨?_, ?_, ?_, ?_, ?_, ?_⟩, ⟨?_, ?_, ?_⟩, ⟨?_, ?_, ?_, ?_, ?_, ?_, ?_, ?_, ?_, ?_, ?_, ?_, ?_⟩, ⟨?_, ?_, ?_, ?_, ?_, ?_, ?_, ?_, ?_, ?_⟩, ?_, ?_, ?_⟩ <;> intros <;> first | rfl | simp [bn]
end Pam
namespace Pam
open Go
def ie {S O : Type} (body : S → Option (S ⊕ O)) : Nat → S → Option O
  | 0, _ => none
  | n + 1, s => match body s with
    | none => none
    | some (.inl s') => ie body n s'
    | some (.inr o) => some o
theorem kF {S O : Type} {body : S → Option (S ⊕ O)} : ∀ {n : Nat} {s : S} {o : O}, ie body n s = some o → ie body (n + 1) s = some o
  | 0, _, _, h => by cases h
  | n + 1, s, o, h => by
    unfold ie at h ⊢
    cases hb : body s with
    | none => rw [hb] at h; cases h
    | some r => cases r with
      | inl s' => rw [hb] at h; exact kF h
      | inr o' => rw [hb] at h; exact h
theorem mK {S O : Type} {body : S → Option (S ⊕ O)} {n m : Nat} {s : S} {o : O} (h : ie body n s = some o) (hm : n ≤ m) : ie body m s = some o := by
  induction hm with
  | refl => exact h
  | step _ ih => exact kF ih
open Classical in
noncomputable def bz {S O : Type} (body : S → Option (S ⊕ O)) (s : S) : Option O :=
  if h : ∃ n o, ie body n s = some o then some (Classical.choose (Classical.choose_spec h)) else none
theorem gb {S O : Type} {body : S → Option (S ⊕ O)} {s : S} {o : O} (h : bz body s = some o) : ∃ n, ie body n s = some o := by
  unfold bz at h
  split at h
  · rename_i hx
    simp only [sJ] at h
    exact ⟨_, h ▸ Classical.choose_spec (Classical.choose_spec hx)⟩
  · cases h
theorem gB {S O : Type} {body : S → Option (S ⊕ O)} {s : S} {o : O} {n : Nat} (h : ie body n s = some o) : bz body s = some o := by
  have hx : ∃ n o, ie body n s = some o := ⟨n, o, h⟩
  cases hl : bz body s with
  | none => unfold bz at hl; rw [dif_pos hx] at hl; cases hl
  | some o' =>
    obtain ⟨m, hm⟩ := gb hl
    have h1 := mK h (Nat.le_max_left n m)
    have h2 := mK hm (Nat.le_max_right n m)
    rw [h1] at h2; exact h2.symm
theorem mL {S O : Type} (body : S → Option (S ⊕ O)) (s : S) : bz body s = match body s with
    | none => none
    | some (.inl s') => bz body s'
    | some (.inr o) => some o := by
  cases hb : body s with
  | none =>
    cases hl : bz body s with
    | none => rfl
    | some o =>
      obtain ⟨n, hn⟩ := gb hl
      cases n with
      | zero => cases hn
      | succ n => simp [ie, hb] at hn
  | some r =>
    cases r with
    | inr o => exact gB (n := 1) (by simp [ie, hb])
    | inl s' =>
      show bz body s = bz body s'
      cases hl : bz body s with
      | some o =>
        obtain ⟨n, hn⟩ := gb hl
        cases n with
        | zero => cases hn
        | succ n => exact (gB (n := n) (by simpa [ie, hb] using hn)).symm
      | none =>
        cases hl' : bz body s' with
        | none => rfl
        | some o =>
          obtain ⟨n, hn⟩ := gb hl'
          have := gB (body := body) (s := s) (n := n + 1) (o := o) (by simpa [ie, hb] using hn)
          rw [this] at hl; cases hl
theorem eh {S O : Type} {body : S → Option (S ⊕ O)} {s s' : S} (h : body s = some (.inl s')) : bz body s = bz body s' := by rw [mL, h]
theorem dm {S O : Type} {body : S → Option (S ⊕ O)} {s : S} {o : O} (h : body s = some (.inr o)) : bz body s = some o := by rw [mL, h]
theorem gd {α : Type} {p : Prop} [Decidable p] {m : Option α} {r : α} (h : (if p then m else none) = some r) : p ∧ m = some r := by
  split at h
  · exact ⟨by assumption, h⟩
  · cases h
theorem bd {α β : Type} {o : Option α} {f : α → Option β} {r : β} (h : o.bind f = some r) : ∃ y, o = some y ∧ f y = some r := by
  cases o with
  | none => cases h
  | some y => exact ⟨y, rfl, h⟩
def iX (n b : Nat) : Prop := n * b ≤ 140737488355328 ∧ n ≤ maxLen
instance (n b : Nat) : Decidable (iX n b) := inferInstanceAs (Decidable (_ ∧ _))
def eK (k : IntKind) (n : Int) : List CV := [.int k n]
def eB (b : Bool) : List CV := [.bool b]
def eS (s : List UInt8) : List CV := [.str s]
def eL {α : Type} (s : Nat) (f : α → List CV) (l : List α) : List CV := [.tree s (l.map f)]
section
variable {P : Program} {K : Kt} {E E0 : Env} {σ : List OB}
theorem dS.refl (E : Env) (σ : List OB) : dS E σ E σ := fun G _ _ hs => ⟨G, Gle.refl G, hs⟩
theorem dS.trans {E E' E'' : Env} {σ σ' σ'' : List OB} (h : dS E σ E' σ') (h' : dS E' σ' E'' σ'') : dS E σ E'' σ'' := fun G a w hs => by
  obtain ⟨G', g1, hs'⟩ := h G a w hs
  obtain ⟨G'', g2, hs''⟩ := h' G' a w hs'
  exact ⟨G'', g1.trans g2, hs''⟩
def oS {α : Type} (E0 : Env) (ms : List Nat) (slots : α → List (Nat × PV)) (heap : α → List OB) (inv : α → Prop) (μ : α → Nat) (x : α) (K : Kt) : Kt
  | .normal, E, σ => ∃ y E' σ', dS E σ E' σ' ∧ inv y ∧ μ y < μ x ∧ gN E' σ' (E0.over ms (slots y)) (heap y)
  | e, E, σ => K e E σ
theorem oT {α : Type} {c : Code} (ms : List Nat) (slots : α → List (Nat × PV)) (heap : α → List OB) (inv : α → Prop) (μ : α → Nat) (x0 : α) (h0 : inv x0) (hl : gN E σ (E.over ms (slots x0)) (heap x0))
    (round : ∀ x, inv x → W P c (oS E ms slots heap inv μ x K) (E.over ms (slots x)) (heap x)) : W P (.loop c) K E σ := fun G a w hs => by
  obtain ⟨G0, hg0, hs0⟩ := hl.sim hs
  refine Code.wp_mono (fun _ _ _ hq => cI.back hg0 hq) ?_
  intro b k cs
  have key : ∀ (m : Nat) (x : α) (G : Gh) (a : Act) (w : World), μ x = m → inv x → Gle G0 G → Sim G (E.over ms (slots x)) (heap x) a w →
      ∃ e a' w', cI G0 K e a' w' ∧ Arrives P (lone (b.at a (.code c :: .inLoop c :: k)) cs w) b k cs e a' w' := by
    intro m
    induction m using Nat.strongRecOn with
    | _ m ih =>
      intro x G a w hm hinv hG hs
      have hr := round x hinv G a w hs
      obtain ⟨e, a₁, w₁, hq, harr⟩ := hr b (.inLoop c :: k) cs
      obtain ⟨G', E', σ', px, g1, g2, g3, g4⟩ := hq
      cases px with
      | normal =>
        cases g3
        obtain ⟨y, E2, σ2, hgh, hy, hlt, hless⟩ := g4
        obtain ⟨G1, p1, p2⟩ := hgh G' a₁ w₁ g2
        obtain ⟨G'', q1, q2⟩ := hless.sim p2
        obtain ⟨e₂, a₂, w₂, hq₂, harr₂⟩ := ih (μ y) (hm ▸ hlt) y G'' a₁ w₁ rfl hy (hG.trans (g1.trans (p1.trans q1))) q2
        exact ⟨e₂, a₂, w₂, hq₂, .of_steps (Steps.trans harr (.one step_inLoop)) harr₂⟩
      | exit id => exact ⟨e, a₁, w₁, cI.back hG ⟨G', E', σ', .exit id, g1, g2, g3, g4⟩, by cases g3; exact .pass (x := .inLoop c) rfl (fun _ _ => .inl (by simp)) harr⟩
      | ret => exact ⟨e, a₁, w₁, cI.back hG ⟨G', E', σ', .ret, g1, g2, g3, g4⟩, by cases g3; exact .pass (x := .inLoop c) rfl (fun _ _ => .inl (by simp)) harr⟩
      | panic p => exact ⟨e, a₁, w₁, cI.back hG ⟨G', E', σ', .panic p, g1, g2, g3, g4⟩, by obtain ⟨v, rfl, hv⟩ := g3; exact .pass (x := .inLoop c) rfl (fun _ _ => .inl (by simp)) harr⟩
  obtain ⟨e, a', w', hq, harr⟩ := key _ x0 G0 a w rfl h0 (Gle.refl _) hs0
  exact ⟨e, a', w', hq, .of_steps (.one step_loop) harr⟩
def jX {S V O : Type} (E0 : Env) (ms : List Nat) (slots : S → V → List (Nat × PV)) (heap : S → V → List OB) (r : S ⊕ O) (K : Kt) : Kt
  | .normal, E, σ => ∃ s v E' σ', dS E σ E' σ' ∧ r = .inl s ∧ gN E' σ' (E0.over ms (slots s v)) (heap s v)
  | e, E, σ => K e E σ
theorem cJ {S V O : Type} {c : Code} (ms : List Nat) (slots : S → V → List (Nat × PV)) (heap : S → V → List OB) (body : S → Option (S ⊕ O)) (s0 : S) (v0 : V) {o : O} (ho : bz body s0 = some o)
    (hl : gN E σ (E.over ms (slots s0 v0)) (heap s0 v0))
    (round : ∀ s v r, body s = some r → (∀ o', r = .inr o' → o' = o) → W P c (jX E ms slots heap r K) (E.over ms (slots s v)) (heap s v)) : W P (.loop c) K E σ := by
  obtain ⟨n, hn⟩ := gb ho
  refine oT (α := S × V × Nat) ms (fun x => slots x.1 x.2.1) (fun x => heap x.1 x.2.1) (fun x => ie body x.2.2 x.1 = some o) (fun x => x.2.2) (s0, v0, n) hn hl ?_
  rintro ⟨s, v, n⟩ hs
  cases n with
  | zero => cases hs
  | succ n =>
    simp only [ie] at hs
    cases hb : body s with
    | none => rw [hb] at hs; cases hs
    | some r =>
      rw [hb] at hs
      refine W.mono (fun x E' σ' h => ?_) (round s v r hb ?_)
      · cases x with
        | normal => obtain ⟨s', v', E2, σ2, hgh, e, hl'⟩ := h; subst e; exact ⟨(s', v', n), E2, σ2, hgh, hs, Nat.lt_succ_self _, hl'⟩
        | exit i => exact h
        | ret => exact h
        | panic p => exact h
      · rintro o' rfl; simpa using hs
def la {S V : Type} (E0 : Env) (ms : List Nat) (slots : S → V → List (Nat × PV)) (heap : S → V → List OB) (J : S → Prop) (K : Kt) : Kt
  | .normal, E, σ => ∃ s v E' σ', dS E σ E' σ' ∧ J s ∧ gN E' σ' (E0.over ms (slots s v)) (heap s v)
  | e, E, σ => K e E σ
theorem cz {S V : Type} {c d : Code} (ms : List Nat) (slots : S → V → List (Nat × PV)) (heap : S → V → List OB) (J : S → Prop)
    (first : W P c (la E ms slots heap J K) E σ) (rest : ∀ s v, J s → W P d K (E.over ms (slots s v)) (heap s v)) : W P (.seq c d) K E σ :=
  jR (W.mono (fun x E' σ' h => by
    cases x with
    | normal => obtain ⟨s, v, E2, σ2, hg, h1, h2⟩ := h; exact fd hg (oQ h2 (rest s v h1))
    | exit id => exact h
    | ret => exact h
    | panic p => exact h) first)
section
variable {S V O : Type} {ms : List Nat} {slots : S → V → List (Nat × PV)} {heap : S → V → List OB} {r : S ⊕ O} {J : S → Prop}
theorem bD (s : S) (v : V) (hr : some (Sum.inl s) = some r) (hl : gN E σ (E0.over ms (slots s v)) (heap s v)) : jX E0 ms slots heap r K .normal E σ := ⟨s, v, E, σ, dS.refl E σ, (sI hr).symm, hl⟩
theorem bP {i : Nat} (h : K (.exit i) E σ) : jX E0 ms slots heap r K (.exit i) E σ := h
theorem dD (h : K .ret E σ) : jX E0 ms slots heap r K .ret E σ := h
theorem dE {p : PV} (h : K (.panic p) E σ) : jX E0 ms slots heap r K (.panic p) E σ := h
theorem aX (s : S) (v : V) (hj : J s) (hl : gN E σ (E0.over ms (slots s v)) (heap s v)) : la E0 ms slots heap J K .normal E σ := ⟨s, v, E, σ, dS.refl E σ, hj, hl⟩
theorem dG (h : K .ret E σ) : la E0 ms slots heap J K .ret E σ := h
theorem ct {p : PV} (h : K (.panic p) E σ) : la E0 ms slots heap J K (.panic p) E σ := h
theorem aW {o o' : O} (h : some (Sum.inr o') = some r) (hr : ∀ o', r = .inr o' → o' = o) : o' = o := hr _ (sI h).symm
end
theorem Inv.nil {G : Gh} {σ : List OB} {w : World} (hi : Inv G σ w) (s : Nat) (T : TypeId) (hs : 0 < s) :
    Inv { G with own := G.own ++ [some ⟨0, s, 0, 0, false⟩] } (σ ++ [.arr s 0 T []]) w := by
  refine hi.push (.arr s 0 T []) ⟨0, s, 0, 0, false⟩ (Nat.le_refl _) (fun _ _ => rfl) (fun h => by cases h) rfl rfl rfl ?_
  have hlast : (G.own ++ [some (⟨0, s, 0, 0, false⟩ : OG)])[σ.length]? = some (some ⟨0, s, 0, 0, false⟩) := by rw [← hi.len]; simp
  exact ⟨_, hlast, rfl, rfl, hs, Nat.le_refl _, Nat.zero_le _, (fun e he => nomatch he), fun _ => rfl, fun h => absurd h (by simp)⟩
theorem mM {G : Gh} {σ : List OB} {w : World} (hi : Inv G σ w) (s : Nat) {v : Value} (hv : az G.H .nils v) :
    bK { G with own := G.own ++ [some ⟨0, s, 0, 0, false⟩] } (.osl σ.length 0 0 0) v := by
  have hlast : (G.own ++ [some (⟨0, s, 0, 0, false⟩ : OG)])[σ.length]? = some (some ⟨0, s, 0, 0, false⟩) := by rw [← hi.len]; simp
  cases hv
  exact ⟨rfl, _, hlast, fun o e => by
    simp only [sJ] at e; subst e
    exact ⟨Nat.le_refl _, fun _ => ⟨Nat.le_refl _, none, rfl, fun h => by cases h⟩⟩⟩
theorem nZ {H : Nat → Option Obj} (s : Nat) {v : Value} (h : az H .nils v) : az H (.tree s []) v := by
  cases h
  exact .tree0 s none 0 (fun _ => rfl)
theorem nk (i s : Nat) (T : TypeId) (hs : 0 < s) (hE : E.get i = ⟨true, .c .nils⟩) (hin : i < E.n) : dS E σ (E.put i ⟨true, .c (.osl σ.length 0 0 0)⟩) (σ ++ [.arr s 0 T []]) := by
  intro G a w hs'
  refine ⟨{ G with own := G.own ++ [some ⟨0, s, 0, 0, false⟩] }, .mk' ⟨fun _ _ h => h, rfl, rfl, rfl⟩ (aE.append _ _), hs'.inv.nil s T hs, hs'.defers, hs'.size, hs'.na, fun j hc => ?_⟩
  have hg := Env.get_put E i j _ hc
  rw [hg] at hc ⊢
  by_cases hj : j = i
  · subst hj
    rw [iP rfl]
    have := hs'.slot j (by rw [hE])
    rw [hE] at this
    exact mM hs'.inv s this
  · rw [iN hj] at hc ⊢
    exact ai.mono (G := G) (G' := { G with own := G.own ++ [some ⟨0, s, 0, 0, false⟩] }) (fun _ _ h => h) (aE.append _ _) (hs'.slot j hc)
end
theorem qC : ((true == true) = true ∧ (true == false) = false ∧ (false == true) = false ∧ (false == false) = true) ∧ ((!true) = false ∧ (!false) = true) := by decide
theorem lb :
    ((∀ {α β : Type} (f : α → β) (l : List α) (n : Nat), (l.map f).take n = (l.take n).map f) ∧ (∀ {α β : Type} (f : α → β) (l : List α) (n : Nat), (l.map f).drop n = (l.drop n).map f) ∧
     (∀ {α β : Type} (f : α → β) (l l' : List α), l.map f ++ l'.map f = (l ++ l').map f) ∧ (∀ {α : Type} (l : List α), l.take l.length = l)) := by
  refine ⟨?_, ?_, ?_, ?_⟩ <;> intros <;> simp
theorem pq : (∀ {α : Type} (l : List α) (n : Nat), l.length ≤ n → l.take n = l) ∧ (∀ {α : Type} (l l' : List α), (l ++ l').length = l.length + l'.length) ∧
    (∀ {α : Type} (l : List α) (i : Nat) (x : α), (l.set i x).length = l.length) ∧ (∀ {α : Type} (n : Nat) (x : α), (List.replicate n x).length = n) := by
  refine ⟨fun l n h => List.take_of_length_le h, ?_, ?_, ?_⟩ <;> intros <;> simp
def lit {α : Type} (l : List α) : List α := l
theorem iY {α : Type} (l : List α) : (lit l).length = l.length := rfl
def NT : CV → CV → Prop
  | .nils, .tree _ [] => True
  | .emp, .tree _ [] => True
  | .emn, .tree _ [] => True
  | c, c' => c = c'
def NTs : List CV → List CV → Prop
  | [], [] => True
  | a :: az, b :: bs => NT a b ∧ NTs az bs
  | _, _ => False
theorem NT.rep {G : Gh} {c c' : CV} {v : Value} (h : NT c c') (hr : Rep G c v) : Rep G c' v := by
  unfold NT at h
  split at h
  · exact nZ _ (show az G.H .nils v from hr)
  · have h' : az G.H .emp v := hr
    show az G.H (.tree _ []) v
    cases h'
    exact .tree0 _ _ 0 (fun _ => rfl)
  · have h' : az G.H .emn v := hr
    show az G.H (.tree _ []) v
    cases h'
    exact .tree0 _ _ _ (fun h => by cases h)
  · subst h; exact hr
theorem NTs.rep {G : Gh} : ∀ {cs cs' : List CV} {vs : List Value}, NTs cs cs' → ap (Rep G) cs vs → ap (Rep G) cs' vs
  | [], [], _, _, h => h
  | _ :: _, _ :: _, _ :: _, ⟨h1, h2⟩, ⟨k1, k2⟩ => ⟨NT.rep h1 k1, NTs.rep h2 k2⟩
def NTp : PV → PV → Prop
  | .c y, .c y' => NT y y'
  | .a ys, .a ys' => NTs ys ys'
  | _, _ => False
theorem kG {E : Env} {σ : List OB} (i : Nat) {p : PV} (p' : PV) (hE : E.get i = ⟨true, p⟩) (h : NTp p p') : dS E σ (E.put i ⟨true, p'⟩) σ := by
  intro G a w hs'
  refine ⟨G, Gle.refl G, hs'.inv, hs'.defers, hs'.size, hs'.na, fun j hc => ?_⟩
  have hg := Env.get_put E i j _ hc
  rw [hg] at hc ⊢
  by_cases hj : j = i
  · subst hj
    rw [iP rfl]
    have := hs'.slot j (by rw [hE])
    rw [hE] at this
    cases p <;> cases p' <;> try exact h.elim
    · exact NT.rep (G := G) h this
    · obtain ⟨vs, e, h2⟩ := this; exact ⟨vs, e, NTs.rep h h2⟩
  · rw [iN hj] at hc ⊢
    exact hs'.slot j hc
theorem fl {E : Env} {σ : List OB} (b : Nat) {cs : List CV} (cs' : List CV) (hσ : σ[b]? = some (.box cs)) (h : NTs cs cs') : dS E σ E (σ.set b (.box cs')) := by
  intro G a w hs'
  refine ⟨G, Gle.refl G, ?_, hs'.defers, hs'.size, hs'.na, hs'.slot⟩
  have hi := hs'.inv
  have hlt : b < σ.length := (List.getElem?_eq_some_iff.1 hσ).1
  refine ⟨hi.hH, hi.hF, hi.HF, by simpa using hi.len, fun k ob hk => ?_, hi.inj, hi.sep, hi.os, hi.tape, hi.output, hi.grow⟩
  by_cases hkb : k = b
  · subst hkb
    rw [List.getElem?_set_self hlt] at hk
    simp only [sJ] at hk; subst hk
    obtain ⟨o, c, T, h1, h2, h3, h4, h5⟩ := hi.own k _ hσ
    exact ⟨o, c, T, h1, h2, h3, h4, NTs.rep h h5⟩
  · rw [List.getElem?_set_ne (Ne.symm hkb)] at hk
    exact hi.own k ob hk
def okI (k : IntKind) (n : Int) : Prop := k.min ≤ n ∧ n ≤ k.max
def okL {α : Type} (p : α → Prop) (l : List α) : Prop := ∀ y ∈ l, p y
def szI {α : Type} (_ : α) : Nat := 1
def szL {α : Type} (f : α → Nat) (l : List α) : Nat := (l.map f).sum + 1
def dA (P : Program) (ops : Array Oper) (l : List Oper) (E : Env) (σ : List OB) (k : Env → List OB → Prop) (kp : PV → Env → List OB → Prop) : Prop := WL P ops l E σ (KR k kp)
section
variable {P : Program} {ops : Array Oper} {E E' : Env} {σ σ' : List OB} {k : Env → List OB → Prop} {kp : PV → Env → List OB → Prop} {l : List Oper}
theorem aa (h : eA P ops l E σ k kp) : dA P ops l E σ k kp := d8 l E σ k kp h
theorem iG {Q Q1 : Exit → Act → World → Prop} {l2 : List Oper} (h1 : ∀ a w, Q1 .normal a w → wpList P ops Q l2 a w) (h2 : ∀ e a w, e ≠ .normal → Q1 e a w → Q e a w) :
    ∀ (l : List Oper) (a : Act) (w : World), wpList P ops Q1 l a w → wpList P ops Q (l ++ l2) a w
  | [], a, w, h => h1 a w h
  | o :: r, a, w, h => by
    rw [List.cons_append]
    unfold wpList at h ⊢
    have hl : LetsOut Q1 → LetsOut Q := fun ⟨a, w, h⟩ => ⟨a, w, h2 _ _ _ (by simp) h⟩
    split at h
    · rename_i hw
      rw [iP hw]
      rcases h with h | ⟨h3, h4⟩
      · left
        unfold Oper.wp at h ⊢
        generalize (execOp a.eval o).run P w = res at h
        have ih := fun a w h => iG h1 h2 r a w h
        cases res with
        | ok nx w' =>
          cases nx <;> first
            | exact h.elim
            | exact ih _ _ h
            | (refine Calls.mono h fun e w'' hh => ?_
               cases e with
               | returned v => exact ih _ _ hh
               | panicked ch => exact h2 _ _ _ (by simp) hh
               | outgrown => exact hl hh)
            | exact Rows.mono h fun v w'' hh => ih _ _ hh
        | halt hh w' => cases hh <;> first | exact h.elim | exact h2 _ _ _ (by simp) h
      · exact .inr ⟨h3, hl h4⟩
    · rename_i hw
      rw [iN hw]
      exact iG h1 h2 r _ _ h
theorem an (n : Nat) (h : eA P ops (l.take n) E σ (fun E' σ' => dA P ops (l.drop n) E' σ' k kp) kp) : dA P ops l E σ k kp := fun G a w hs => by
  have h1 := d8 _ _ _ _ _ h G a w hs
  have h2 := iG (Q := cI G (KR k kp)) (l2 := l.drop n) (fun a w hq => ?_) (fun e a w he hq => ?_) _ _ _ h1
  · rwa [List.take_append_drop] at h2
  · obtain ⟨G', E1, σ1, x, q1, q2, q3, q4⟩ := hq
    cases x <;> simp only [pW] at q3
    · exact cg (fun _ _ _ hq => cI.back q1 hq) _ _ _ (q4 G' a w q2)
    · cases q3
    · cases q3
    · obtain ⟨v, hv, _⟩ := q3; cases hv
  · obtain ⟨G', E1, σ1, x, q1, q2, q3, q4⟩ := hq
    cases x
    · exact (he q3).elim
    · exact q4.elim
    · exact q4.elim
    · exact ⟨G', E1, σ1, _, q1, q2, q3, q4⟩
theorem dW {K : Kt} {id : Nat} {y : Code} (ms : List Nat)
    (h : ∀ (k : Env → List OB → Prop) (kp : PV → Env → List OB → Prop), (∀ E σ, W P y K E σ → k E σ) → (∀ p E σ, K (.panic p) E σ → kp p E σ) → dA P l.toArray l E σ (fun E σ => k (E.forget ms) σ) kp) :
    W P (.seq (.region id l.toArray false) y) K E σ := jR fun G a w hs =>
  wp_region_lit (cg (fun _ _ _ hp => cI.mono (fun x E σ hk => by
      cases x with
      | normal => exact hK ms hk
      | exit id => exact hk.elim
      | ret => exact hk.elim
      | panic p => exact hk) hp)
    l a w (h (W P y K) (fun p => K (.panic p)) (fun _ _ h => h) (fun _ _ _ h => h) G a w hs))
theorem fm {K : Kt} {id : Nat} (h : ∀ (k : Env → List OB → Prop) (kp : PV → Env → List OB → Prop), (∀ E σ, K .normal E σ → k E σ) → (∀ p E σ, K (.panic p) E σ → kp p E σ) → dA P l.toArray l E σ k kp) :
    W P (.region id l.toArray false) K E σ := fun G a w hs =>
  wp_region_lit (cg (fun _ _ _ hp => cI.mono (fun x E σ hk => by cases x <;> first | exact hk | exact hk.elim) hp)
    l a w (h (K .normal) (fun p => K (.panic p)) (fun _ _ h => h) (fun _ _ _ h => h) G a w hs))
end
end Pam
namespace Pam
open Go
def im (P : Program) (E : Env) (σ : List OB) (o : Oper) (v : PV) (σ' : List OB) : Prop := ∀ G a w, Sim G E σ a w → kW P G (execOp a.eval o) w v σ'
section
variable {P : Program} {ops : Array Oper} {E E' : Env} {σ σ' : List OB} {k : Env → List OB → Prop} {kp : PV → Env → List OB → Prop} {l : List Oper}
theorem lc {o : Oper} {r : List Oper} {v : PV} (hx : im P E σ o v σ') (hg : cn ops E o.guard = some true) (hd : cZ E o.dst)
    (h : dA P ops r (E.putD o.dst ⟨true, v⟩) σ' k kp) : dA P ops (o :: r) E σ k kp := fun G a w hs => by
  have hw := fv (P := P) hs hg
  unfold wpList
  rw [iP hw]
  obtain ⟨nx, val, w', G', e1, e2, e3, e4, e5, e6⟩ := hx G a w hs
  left
  unfold Oper.wp
  have hs' : Sim G' (E.putD o.dst ⟨true, v⟩) σ' (a.put o.dst val) w' := (hs.ghost e5 e3.H e3.w0 e3.na e4).putD o.dst hd _ val fun _ => e6
  have := cg (fun e a w h => cI.back (Gle.mk' e3 e4) h) r _ _ (h G' _ w' hs')
  rw [e1]
  rcases e2 with rfl | ⟨rfl, rfl⟩
  · exact this
  · exact this
theorem aP {C : Prop} {f : FuncId} {args : List PV} {o : Oper} {r : List Oper}
    {args' : List PV} {σc : List OB} {post pp : PV → List OB → Prop} (hs : fw P f args' σc post pp) (ρ : List Nat) (hd : cZ E o.dst) (hC : C) (hnd : ρ.Nodup) (hlt : ∀ b ∈ ρ, b < σ.length)
    (hargs : args = args'.map (PV.ren (cm σ.length ρ))) (hσ : ρ.map (fun b => σ[b]?) = σc.map fun ob => some (ob.ren (cm σ.length ρ))) (hu : aB ρ.length args') (hub : aj ρ.length σc)
    (next : ∀ p σ', post p σ' → ρ.length ≤ σ'.length → dA P ops r (E.putD o.dst ⟨true, p.ren (cm σ.length ρ)⟩) (bn σ ρ (σ'.map (OB.ren (cm σ.length ρ)))) k kp)
    (npanic : ∀ p σ', pp p σ' → ρ.length ≤ σ'.length → kp (p.ren (cm σ.length ρ)) E (bn σ ρ (σ'.map (OB.ren (cm σ.length ρ))))) :
    fL P ops true C f args o r E σ k kp := jn hs ρ hd hC hnd hlt hargs hσ hu hub next npanic
theorem kq {γ : Bool} {C : Prop} {f : FuncId} {args : List PV} {o : Oper} {r : List Oper} {res : PV} (hs : γ = true → ee P f args res) (hd : cZ E o.dst) (hC : γ = true → C) (hargs : args.all PV.noOwn = true) (hres : res.ren (cm σ.length []) = res)
    (next : dA P ops r (E.putD o.dst ⟨γ, res⟩) σ k kp) : fL P ops γ C f args o r E σ k kp := km hs hd hC hargs hres next
theorem im.quiet {o : Oper} {v : PV} (h : ∀ G a w, Sim G E σ a w → ∃ val, (execOp a.eval o).run P w = .ok (.value val) w ∧ ai G v val) : im P E σ o v σ := fun G a w hs => by
  obtain ⟨val, h1, h2⟩ := h G a w hs
  exact ⟨_, val, w, G, h1, .inl rfl, fU.refl G, aE.refl _, hs.inv, h2⟩
theorem jY {G : Gh} {a : Act} {w : World} (hs : Sim G E σ a w) {x : Operand} {p : PV} (h : ev E x = ⟨true, p⟩) : ai G p (a.eval x) := by
  have := bp hs x
  rw [h] at this
  exact this rfl
theorem n0 {b ver lo len s : Nat} {T0 : TypeId} {es : List (List CV)} (hσ : σ[b]? = some (.arr s ver T0 es)) : cd σ (.osl b ver lo len) := by simp [cd, hσ]
end
def CV.mvO (b k vk w : Nat) : CV → CV
  | .osl b' v lo len => if b' = k then (if v = vk then .osl b w lo len else .junk) else .osl b' v lo len
  | .oel b' v i j => if b' = k then (if v = vk then .oel b w i j else .junk) else .oel b' v i j
  | .optr b' off => if b' = k then .junk else .optr b' off
  | .fn f caps => .fn f caps
  | .junk => .junk
  | .bool x => .bool x
  | .int k n => .int k n
  | .str x => .str x
  | .nilp => .nilp
  | .nils => .nils
  | .nilf => .nilf
  | .nili => .nili
  | .emp => .emp
  | .emn => .emn
  | .tree s' es' => .tree s' es'
  | .tptr s' es' i j => .tptr s' es' i j
  | .ifc T g cs => .ifc T g cs
def CV.mv (b k vk w : Nat) : CV → CV
  | .fn f caps => .fn f (caps.map (CV.mvO b k vk w))
  | c => c.mvO b k vk w
def PV.mv (b k vk w : Nat) : PV → PV
  | .x => .x
  | .c y => .c (y.mv b k vk w)
  | .a ys => .a (ys.map (CV.mv b k vk w))
  | .t _ => .x
def OB.mv (b k vk w : Nat) : OB → OB
  | .box cs => .box (cs.map (CV.mv b k vk w))
  | .arr s' v T e => .arr s' v T e
  | .dead => .dead
def Tr.mv (b k vk w : Nat) : Tr → Tr
  | .nil => .nil
  | .leaf e => .leaf ⟨e.cond && (match e.v with | .t _ => false | _ => true), e.v.mv b k vk w⟩
  | .node a0 a1 a2 a3 a4 a5 a6 a7 => .node (a0.mv b k vk w) (a1.mv b k vk w) (a2.mv b k vk w) (a3.mv b k vk w) (a4.mv b k vk w) (a5.mv b k vk w) (a6.mv b k vk w) (a7.mv b k vk w)
def Env.mv (b k vk w : Nat) (E : Env) : Env := ⟨E.n, E.na, E.t.mv b k vk w⟩
section
variable {G : Gh} {σ : List OB} {w : World} {b k sb vb sk vk : Nat} {Tb Tk : TypeId} {eb ek : List (List CV)} {ob ok : OG}
end
theorem qV :
    ((∀ b k v w n na t, Env.mv b k v w ⟨n, na, t⟩ = ⟨n, na, t.mv b k v w⟩) ∧ (∀ b k v w, Tr.mv b k v w .nil = .nil) ∧ (∀ b k v w c y, Tr.mv b k v w (.leaf ⟨c, .c y⟩) = .leaf ⟨c, .c (y.mv b k v w)⟩) ∧ (∀ b k v w c ys, Tr.mv b k v w (.leaf ⟨c, .a ys⟩) = .leaf ⟨c, .a (ys.map (CV.mv b k v w))⟩) ∧
     (∀ b k v w c ps, Tr.mv b k v w (.leaf ⟨c, .t ps⟩) = .leaf ⟨false, .x⟩) ∧ (∀ b k v w c, Tr.mv b k v w (.leaf ⟨c, .x⟩) = .leaf ⟨c, .x⟩) ∧
     (∀ b k v w a0 a1 a2 a3 a4 a5 a6 a7, Tr.mv b k v w (.node a0 a1 a2 a3 a4 a5 a6 a7) = .node (a0.mv b k v w) (a1.mv b k v w) (a2.mv b k v w) (a3.mv b k v w) (a4.mv b k v w) (a5.mv b k v w) (a6.mv b k v w) (a7.mv b k v w))) ∧
    ((∀ b k v w, OB.mv b k v w .dead = .dead) ∧ (∀ b k v w cs, OB.mv b k v w (.box cs) = .box (cs.map (CV.mv b k v w))) ∧ (∀ b k v w s' v' T e, OB.mv b k v w (.arr s' v' T e) = .arr s' v' T e)) ∧
    ((∀ b k v w x, CV.mv b k v w (.bool x) = .bool x) ∧ (∀ b k v w q n, CV.mv b k v w (.int q n) = .int q n) ∧ (∀ b k v w x, CV.mv b k v w (.str x) = .str x) ∧ (∀ b k v w, CV.mv b k v w .nilp = .nilp) ∧ (∀ b k v w, CV.mv b k v w .nils = .nils) ∧
     (∀ b k v w, CV.mv b k v w .nilf = .nilf) ∧ (∀ b k v w, CV.mv b k v w .nili = .nili) ∧ (∀ b k v w, CV.mv b k v w .emp = .emp) ∧ (∀ b k v w, CV.mv b k v w .emn = .emn) ∧ (∀ b k v w, CV.mv b k v w .junk = .junk) ∧ (∀ b k v w s' e', CV.mv b k v w (.tree s' e') = .tree s' e') ∧
     (∀ b k v w s' e' i j, CV.mv b k v w (.tptr s' e' i j) = .tptr s' e' i j) ∧ (∀ b k v w T g cs, CV.mv b k v w (.ifc T g cs) = .ifc T g cs)) ∧
    ((∀ b k v w b' v' lo len, CV.mv b k v w (.osl b' v' lo len) = if b' = k then (if v' = v then .osl b w lo len else .junk) else .osl b' v' lo len) ∧
     (∀ b k v w b' v' i j, CV.mv b k v w (.oel b' v' i j) = if b' = k then (if v' = v then .oel b w i j else .junk) else .oel b' v' i j) ∧ (∀ b k v w b' off, CV.mv b k v w (.optr b' off) = if b' = k then .junk else .optr b' off) ∧
     (∀ b k v w f caps, CV.mv b k v w (.fn f caps) = .fn f (caps.map (CV.mvO b k v w)))) := by
  refine ⟨⟨?_, ?_, ?_, ?_, ?_, ?_, ?_⟩, ⟨?_, ?_, ?_⟩, ⟨?_, ?_, ?_, ?_, ?_, ?_, ?_, ?_, ?_, ?_, ?_, ?_, ?_⟩, ?_, ?_, ?_, ?_⟩
  all_goals intros
  all_goals first | rfl | (simp [Tr.mv, PV.mv]; done)
theorem mi {E : Env} {σ : List OB} (b j s : Nat) (T : TypeId) {cs : List CV} (hs : 0 < s) (hσ : σ[b]? = some (.box cs)) (hj : cs[j]? = some .nils) :
    dS E σ E (σ.set b (.box (cs.set j (.osl σ.length 0 0 0))) ++ [.arr s 0 T []]) := by
  intro G a w hs'
  have hi := hs'.inv
  have hi2 := hi.nil s T hs
  have hle : aE G.own (G.own ++ [some ⟨0, s, 0, 0, false⟩]) := aE.append _ _
  have hlt : b < σ.length := (List.getElem?_eq_some_iff.1 hσ).1
  refine ⟨{ G with own := G.own ++ [some ⟨0, s, 0, 0, false⟩] }, .mk' ⟨fun _ _ h => h, rfl, rfl, rfl⟩ hle, ?_, hs'.defers, hs'.size, hs'.na, fun i hc => ai.mono (G := G) (G' := { G with own := G.own ++ [some ⟨0, s, 0, 0, false⟩] }) (fun _ _ h => h) hle (hs'.slot i hc)⟩
  have hset : σ.set b (.box (cs.set j (.osl σ.length 0 0 0))) ++ [.arr s 0 T []] = (σ ++ [OB.arr s 0 T []]).set b (.box (cs.set j (.osl σ.length 0 0 0))) := by
    rw [List.set_append_left _ _ hlt]
  rw [hset]
  refine ⟨hi2.hH, hi2.hF, hi2.HF, by simpa using hi2.len, fun x ob hx => ?_, hi2.inj, hi2.sep, hi2.os, hi2.tape, hi2.output, hi2.grow⟩
  by_cases hxb : x = b
  · subst hxb
    rw [List.getElem?_set_self (by simp; omega)] at hx
    simp only [sJ] at hx; subst hx
    obtain ⟨o, c, T', h1, h2, h3, h4, h5⟩ := hi2.own x (.box cs) (by rw [List.getElem?_append_left hlt]; exact hσ)
    refine ⟨o, c, T', h1, h2, h3, h4, ?_⟩
    have hlen := h5.length
    refine ap.of_get (by simpa using hlen) fun i y v hy hv => ?_
    by_cases e : i = j
    · subst e
      have hl : i < cs.length := (List.getElem?_eq_some_iff.1 hj).1
      rw [List.getElem?_set_self hl] at hy
      simp only [sJ] at hy; subst hy
      obtain ⟨v', hv', hr⟩ := h5.get i _ hj
      rw [hv] at hv'
      simp only [sJ] at hv'; subst hv'
      exact mM hi s (v := v) hr
    · rw [List.getElem?_set_ne (Ne.symm e)] at hy
      obtain ⟨v', hv', hr⟩ := h5.get i _ hy
      rw [hv] at hv'
      simp only [sJ] at hv'; subst hv'
      exact hr
  · rw [List.getElem?_set_ne (Ne.symm hxb)] at hx
    exact hi2.own x ob hx
def CV.dnO (b k : Nat) : CV → CV
  | .osl b' v lo len => if b' = k then .osl b v lo len else if b' = b then .junk else .osl b' v lo len
  | .oel b' v i j => if b' = k then .oel b v i j else if b' = b then .junk else .oel b' v i j
  | .optr b' off => if b' = k then .optr b off else if b' = b then .junk else .optr b' off
  | .fn f caps => .fn f caps
  | .junk => .junk
  | .bool x => .bool x
  | .int k n => .int k n
  | .str x => .str x
  | .nilp => .nilp
  | .nils => .nils
  | .nilf => .nilf
  | .nili => .nili
  | .emp => .emp
  | .emn => .emn
  | .tree s' es' => .tree s' es'
  | .tptr s' es' i j => .tptr s' es' i j
  | .ifc T g cs => .ifc T g cs
def CV.dn (b k : Nat) : CV → CV
  | .fn f caps => .fn f (caps.map (CV.dnO b k))
  | c => c.dnO b k
def PV.dn (b k : Nat) : PV → PV
  | .x => .x
  | .c y => .c (y.dn b k)
  | .a ys => .a (ys.map (CV.dn b k))
  | .t _ => .x
def OB.dn (b k : Nat) : OB → OB
  | .box cs => .box (cs.map (CV.dn b k))
  | .arr s' v T e => .arr s' v T e
  | .dead => .dead
def Tr.dn (b k : Nat) : Tr → Tr
  | .nil => .nil
  | .leaf e => .leaf ⟨e.cond && (match e.v with | .t _ => false | _ => true), e.v.dn b k⟩
  | .node a0 a1 a2 a3 a4 a5 a6 a7 => .node (a0.dn b k) (a1.dn b k) (a2.dn b k) (a3.dn b k) (a4.dn b k) (a5.dn b k) (a6.dn b k) (a7.dn b k)
def Env.dn (b k : Nat) (E : Env) : Env := ⟨E.n, E.na, E.t.dn b k⟩
section
variable {G : Gh} {σ : List OB} {w : World} {b k : Nat} {oo : Option OG}
end
theorem qW :
    ((∀ b k n na t, Env.dn b k ⟨n, na, t⟩ = ⟨n, na, t.dn b k⟩) ∧ (∀ b k, Tr.dn b k .nil = .nil) ∧ (∀ b k c y, Tr.dn b k (.leaf ⟨c, .c y⟩) = .leaf ⟨c, .c (y.dn b k)⟩) ∧ (∀ b k c ys, Tr.dn b k (.leaf ⟨c, .a ys⟩) = .leaf ⟨c, .a (ys.map (CV.dn b k))⟩) ∧
     (∀ b k c ps, Tr.dn b k (.leaf ⟨c, .t ps⟩) = .leaf ⟨false, .x⟩) ∧ (∀ b k c, Tr.dn b k (.leaf ⟨c, .x⟩) = .leaf ⟨c, .x⟩) ∧
     (∀ b k a0 a1 a2 a3 a4 a5 a6 a7, Tr.dn b k (.node a0 a1 a2 a3 a4 a5 a6 a7) = .node (a0.dn b k) (a1.dn b k) (a2.dn b k) (a3.dn b k) (a4.dn b k) (a5.dn b k) (a6.dn b k) (a7.dn b k))) ∧
    ((∀ b k, OB.dn b k .dead = .dead) ∧ (∀ b k cs, OB.dn b k (.box cs) = .box (cs.map (CV.dn b k))) ∧ (∀ b k s' v' T e, OB.dn b k (.arr s' v' T e) = .arr s' v' T e)) ∧
    ((∀ b k x, CV.dn b k (.bool x) = .bool x) ∧ (∀ b k q n, CV.dn b k (.int q n) = .int q n) ∧ (∀ b k x, CV.dn b k (.str x) = .str x) ∧ (∀ b k, CV.dn b k .nilp = .nilp) ∧ (∀ b k, CV.dn b k .nils = .nils) ∧
     (∀ b k, CV.dn b k .nilf = .nilf) ∧ (∀ b k, CV.dn b k .nili = .nili) ∧ (∀ b k, CV.dn b k .emp = .emp) ∧ (∀ b k, CV.dn b k .emn = .emn) ∧ (∀ b k, CV.dn b k .junk = .junk) ∧ (∀ b k s' e', CV.dn b k (.tree s' e') = .tree s' e') ∧
     (∀ b k s' e' i j, CV.dn b k (.tptr s' e' i j) = .tptr s' e' i j) ∧ (∀ b k T g cs, CV.dn b k (.ifc T g cs) = .ifc T g cs)) ∧
    ((∀ b k b' v' lo len, CV.dn b k (.osl b' v' lo len) = if b' = k then .osl b v' lo len else if b' = b then .junk else .osl b' v' lo len) ∧
     (∀ b k b' v' i j, CV.dn b k (.oel b' v' i j) = if b' = k then .oel b v' i j else if b' = b then .junk else .oel b' v' i j) ∧ (∀ b k b' off, CV.dn b k (.optr b' off) = if b' = k then .optr b off else if b' = b then .junk else .optr b' off) ∧
     (∀ b k f caps, CV.dn b k (.fn f caps) = .fn f (caps.map (CV.dnO b k)))) := by
  refine ⟨⟨?_, ?_, ?_, ?_, ?_, ?_, ?_⟩, ⟨?_, ?_, ?_⟩, ⟨?_, ?_, ?_, ?_, ?_, ?_, ?_, ?_, ?_, ?_, ?_, ?_, ?_⟩, ?_, ?_, ?_, ?_⟩
  all_goals intros
  all_goals first | rfl | (simp [Tr.dn, PV.dn]; done)
theorem n3 {α : Type} (l : List α) (n : Nat) (h : l.length ≤ n) : (lit l).take n = lit l := List.take_of_length_le h
theorem lf {α β : Type} (f : α → β) (l : List α) (n : Nat) (h : l.length ≤ n) : ((lit l).map f).take n = (lit l).map f := List.take_of_length_le (by simpa [lit] using h)
end Pam
namespace Pam
open Go
theorem jz {α : Type} {f : α → List CV} {l : List α} {n : Nat} (h : ∀ x, (f x).length = n) : ∀ e ∈ l.map f, e.length = n := by
 intro e he
 obtain ⟨x, _, rfl⟩ := List.mem_map.1 he
 exact h x
theorem qD : (∀ y, PV.capOk (.c y) = (match y with | .fn _ _ => false | _ => true)) ∧ (∀ b o, CV.flat (.optr b o) = false) ∧ (∀ b, CV.flat (.bool b) = true) ∧ (∀ k n, CV.flat (.int k n) = true) ∧ (∀ s, CV.flat (.str s) = true) ∧ (∀ s e, CV.flat (.tree s e) = true) ∧ CV.flat .nils = true ∧ CV.flat .nilp = true ∧ CV.flat .nilf = true ∧ CV.flat .nili = true ∧ CV.flat .emp = true ∧ (∀ b v l n, CV.flat (.osl b v l n) = false) ∧ (∀ b v l n, CV.flat (.oel b v l n) = false) := by
 refine ⟨?_, ?_, ?_, ?_, ?_, ?_, ?_, ?_, ?_, ?_, ?_, ?_, ?_⟩ <;> intros <;> first | rfl | skip
 rename_i y; cases y <;> rfl
def bL := (And.intro (And.intro (And.intro (And.intro (And.intro @List.mem_cons.{0} (And.intro @List.not_mem_nil.{0} @forall_eq_or_imp.{1})) (And.intro (And.intro @List.getElem?_cons_zero.{0} @List.getElem?_cons_succ.{0}) (And.intro @List.getElem?_nil.{0} @List.length_cons.{0}))) (And.intro (And.intro (And.intro @List.length_nil.{0} @List.length_map.{0, 0}) (And.intro @List.set_cons_zero.{0} @List.set_cons_succ.{0})) (And.intro (And.intro @List.drop_zero.{0} @List.drop_succ_cons.{0}) (And.intro @List.take_succ_cons.{0} @List.take_zero.{0})))) (And.intro (And.intro (And.intro (And.intro @List.headD_cons.{0} @List.cons_append.{0}) (And.intro @List.nil_append.{0} @List.map_cons.{0, 0})) (And.intro (And.intro @List.map_nil.{0, 0} @List.tail_cons.{0}) (And.intro @List.getD_cons_zero.{0} @List.getD_cons_succ.{0}))) (And.intro (And.intro (And.intro @true_and @and_true) (And.intro @eq_self.{1} @forall_const.{1})) (And.intro (And.intro @if_true.{0} @forall_eq.{1}) (And.intro @imp_self @implies_true.{1}))))) (And.intro (And.intro (And.intro (And.intro (And.intro @true_or @or_true) (And.intro @false_or @or_false)) (And.intro (And.intro @Nat.zero_add @Nat.add_zero) (And.intro @tN @Option.map_some.{0, 0}))) (And.intro (And.intro (And.intro @Option.map_none.{0, 0} @beq_self_eq_true.{0}) (And.intro @Bool.true_eq_false @Bool.false_eq_true)) (And.intro (And.intro @false_implies @not_false_eq_true) (And.intro @Nat.le_refl @List.all_cons.{0})))) (And.intro (And.intro (And.intro (And.intro @List.all_nil.{0} @List.replicate_succ.{0}) (And.intro @List.replicate_zero.{0} @List.flatten_cons.{0})) (And.intro (And.intro @List.flatten_nil.{0} @List.append_nil.{0}) (And.intro @Bool.and_true @List.foldr_cons.{0, 0}))) (And.intro (And.intro (And.intro @List.foldr_nil.{0, 0} @Option.isSome_some.{0}) (And.intro @Option.isSome_none.{0} @eK.eq_1)) (And.intro (And.intro @eB.eq_1 @eS.eq_1) (And.intro @eL.eq_1 qD))))))
def bM := (And.intro (And.intro (And.intro (And.intro (And.intro oO (And.intro qz nS)) (And.intro nT (And.intro nU qS))) (And.intro (And.intro qv (And.intro pm qw)) (And.intro qx (And.intro qT @mH)))) (And.intro (And.intro (And.intro @kD (And.intro @iY pq)) (And.intro lb (And.intro qC qB))) (And.intro (And.intro @dN.eq_1 (And.intro @eR.eq_1 @jj.eq_1)) (And.intro (And.intro @jj.eq_2 @jj.eq_3) (And.intro @jj.eq_4 @jj.eq_5))))) (And.intro (And.intro (And.intro (And.intro @db.eq_1 (And.intro @eZ.eq_1 @eZ.eq_3)) (And.intro @ku.eq_1 (And.intro @bnd.eq_1 @bnd.eq_2))) (And.intro (And.intro @jE.eq_1 (And.intro @jE.eq_2 @jE.eq_3)) (And.intro (And.intro @jE.eq_4 @jE.eq_5) (And.intro @jE.eq_6 @jE.eq_7)))) (And.intro (And.intro (And.intro @kh.eq_1 (And.intro @kh.eq_2 @eqC.eq_1)) (And.intro @eqC.eq_2 (And.intro @eqC.eq_3 @cE.eq_1))) (And.intro (And.intro @gl.eq_1 (And.intro @cF.eq_1 @gL.eq_1)) (And.intro (And.intro @gL.eq_2 @jk.eq_1) (And.intro @cut.eq_1 @cut.eq_2))))))
def bR := And.intro (And.intro (And.intro @eA.eq_1 @eA.eq_2) bL) (And.intro bM (And.intro (And.intro @ky.eq_1 @ky.eq_2) (And.intro @ky.eq_3 @ky.eq_4)))
def bA := And.intro (And.intro (And.intro (And.intro @fC.eq_1 @fC.eq_2) (And.intro @jr.eq_1 (And.intro @jr.eq_2 @jr.eq_3))) bL) (And.intro bM (And.intro (And.intro @kC.eq_1 @kC.eq_2) (And.intro @kC.eq_3 @kC.eq_4)))
def bE := And.intro (And.intro nX qz) (And.intro nS (And.intro nT nU))
def bS := And.intro (And.intro bJ (And.intro pn @iY)) (And.intro bE (And.intro bL lb))
def bF := And.intro (And.intro qy oR) (And.intro (And.intro nX pn) (And.intro (And.intro pm nS) (And.intro (And.intro nT nU) (And.intro (And.intro @mH @kD) (And.intro bL lb)))))
def bZ := And.intro (And.intro (And.intro qU qV) (And.intro qW pq)) (And.intro lb (And.intro (And.intro @iY (And.intro @n3 @lf)) bE))
end Pam
namespace Pam
open Go
section
variable {P : Program} {ops : Array Oper} {E E' E1 E2 : Env} {σ σ' σ1 σ2 : List OB} {k : Env → List OB → Prop} {kp : PV → Env → List OB → Prop} {l : List Oper} {K : Kt} {c y : Code}
theorem em {α : Type} [Inhabited α] (f : α → List CV) (xs : List α) (i : Nat) (h : i < xs.length := by first | omega | (simp only [iY, List.length_cons, List.length_nil, List.length_append, List.length_set, List.length_replicate, List.length_map, List.length_take, List.length_drop]; omega)) : elt (xs.map f) i = f (xs.getD i default) := oP f xs i h
structure Bx (p : Prop) : Prop where
 h : p
theorem sd {p q : Prop} (hq : q) (hp : p := by first | omega | assumption | decide | exact jz fun _ => rfl | (intro _; omega) | rfl | exact fun e => absurd (List.map_eq_nil_iff.1 e) (by assumption) | (and_intros <;> first | omega | assumption | decide | exact jz fun _ => rfl)) : p ∧ q := ⟨hp, hq⟩
theorem a2 {p q : Prop} (h : p) (i : q) : p ∧ q := ⟨h, i⟩
theorem go {p q : Prop} (hq : q) (h : Bx q → p := by
  intro hq
  simp only [bR, bT, tab, bX, reduceIte, ↓reduceIte, reduceCtorEq, Int.reduceToNat, Nat.reduceDiv, Nat.reduceMod, Nat.reduceLT, Nat.reduceLeDiff, Nat.reduceAdd, Nat.reduceSub, Nat.reduceMul, Nat.reduceEqDiff, Nat.reduceBEq, Nat.reduceBNe, Nat.reduceGT]
  repeat refine sd ?_
  exact hq.1) : p := h ⟨hq⟩
theorem gox {p q F : Prop} (fx : F) (hq : q) (h : F → Bx q → p := by
  intro fx hq
  simp only [bR, bT, tab, bX, reduceIte, ↓reduceIte, reduceCtorEq, Int.reduceToNat, Nat.reduceDiv, Nat.reduceMod, Nat.reduceLT, Nat.reduceLeDiff, Nat.reduceAdd, Nat.reduceSub, Nat.reduceMul, Nat.reduceEqDiff, Nat.reduceBEq, Nat.reduceBNe, Nat.reduceGT, fx]
  repeat refine sd ?_
  exact hq.1) : p := h fx ⟨hq⟩
theorem ga {p q : Prop} (hq : q) (h : Bx q → p := by
  intro hq
  simp only [bA, bT, tab, bX, reduceIte, ↓reduceIte, reduceCtorEq, Int.reduceToNat, Nat.reduceDiv, Nat.reduceMod, Nat.reduceLT, Nat.reduceLeDiff, Nat.reduceAdd, Nat.reduceSub, Nat.reduceMul, Nat.reduceEqDiff, Nat.reduceBEq, Nat.reduceBNe, Nat.reduceGT]
  repeat refine sd ?_
  exact hq.1) : p := h ⟨hq⟩
theorem gax {p q F : Prop} (fx : F) (hq : q) (h : F → Bx q → p := by
  intro fx hq
  simp only [bA, bT, tab, bX, reduceIte, ↓reduceIte, reduceCtorEq, Int.reduceToNat, Nat.reduceDiv, Nat.reduceMod, Nat.reduceLT, Nat.reduceLeDiff, Nat.reduceAdd, Nat.reduceSub, Nat.reduceMul, Nat.reduceEqDiff, Nat.reduceBEq, Nat.reduceBNe, Nat.reduceGT, fx]
  repeat refine sd ?_
  exact hq.1) : p := h fx ⟨hq⟩
theorem gz {p q : Prop} (hq : q) (h : Bx q → p := by
  intro hq
  simp only [bZ, bL, reduceIte, ↓reduceIte, reduceCtorEq, Int.reduceToNat, Nat.reduceDiv, Nat.reduceMod, Nat.reduceLT, Nat.reduceLeDiff, Nat.reduceAdd, Nat.reduceSub, Nat.reduceMul, Nat.reduceEqDiff, Nat.reduceBEq, Nat.reduceBNe, Nat.reduceGT]
  exact hq.1) : p := h ⟨hq⟩
theorem en {p : Prop} (h : p := by simp only [bF, bT, tab, bX, Sum.elim_inl, Sum.elim_inr, reduceIte, ↓reduceIte, reduceCtorEq, Int.reduceToNat, Nat.reduceDiv, Nat.reduceMod, Nat.reduceLT, Nat.reduceLeDiff, Nat.reduceAdd, Nat.reduceSub, Nat.reduceMul, Nat.reduceEqDiff, Nat.reduceBEq, Nat.reduceBNe, Nat.reduceGT] <;> first | done | rfl | (and_intros <;> first | rfl | omega | (simp; done) | (simp [eK, eB, eS, eL]; done))) : p := h
theorem ls {p : Prop} (h : p := by simp only [bS, bX, reduceIte, ↓reduceIte, reduceCtorEq, Int.reduceToNat, Nat.reduceDiv, Nat.reduceMod, Nat.reduceLT, Nat.reduceLeDiff, Nat.reduceAdd, Nat.reduceSub, Nat.reduceMul, Nat.reduceEqDiff, Nat.reduceBEq, Nat.reduceBNe, Nat.reduceGT] <;> first | done | (and_intros <;> first | rfl | (simp; done) | omega | (simp [lit, bX, eK, eB, eS, eL]; done) | (simp only [iY, List.length_cons, List.length_nil, List.length_append, List.length_set, List.length_replicate, List.length_map, List.length_take, List.length_drop]; omega))) : p := h
theorem aq {id : Nat} (ms : List Nat) (next : W P y K E' σ') (h : ∀ (k : Env → List OB → Prop) (kp : PV → Env → List OB → Prop), k E' σ' → eA P l.toArray l E σ (fun E σ => k (E.forget ms) σ) kp := by
  intro k kp hk
  refine go ?_
  exact hk) : W P (.seq (.region id l.toArray false) y) K E σ := aV ms fun k kp hk _ => h k kp (hk _ _ next)
theorem ej {id : Nat} (next : K .normal E' σ') (h : ∀ (k : Env → List OB → Prop) (kp : PV → Env → List OB → Prop), k E' σ' → eA P l.toArray l E σ k kp := by
  intro k kp hk
  refine go ?_
  exact hk) : W P (.region id l.toArray false) K E σ := iR fun k kp hk _ => h k kp (hk _ _ next)
theorem qE {id : Nat} (ms : List Nat) (masks : List Nat) (bs : List Bool) (next : W P y K E' σ') (hm : P.follows .mixedOrders = true := by kernel_rfl) (hc : chk l.toArray l masks bs = true := by kernel_rfl)
  (h : ∀ (k : Env → List OB → Prop), k E' σ' → fC P l.toArray l bs E σ (fun E σ => k (E.forget ms) σ) := by
  intro k hk
  refine ga ?_
  exact hk) : W P (.seq (.region id l.toArray true) y) K E σ := nV ms hm masks bs hc fun k hk => h k (hk _ _ next)
theorem cU {F : Prop} (fx : F) {id : Nat} (ms : List Nat) (next : W P y K E' σ') (h : F → ∀ (k : Env → List OB → Prop) (kp : PV → Env → List OB → Prop), k E' σ' → eA P l.toArray l E σ (fun E σ => k (E.forget ms) σ) kp := by
  intro fx k kp hk
  refine gox fx ?_
  exact hk) : W P (.seq (.region id l.toArray false) y) K E σ := aV ms fun k kp hk _ => h fx k kp (hk _ _ next)
theorem pr {F : Prop} (fx : F) {id : Nat} (ms : List Nat) (masks : List Nat) (bs : List Bool) (next : W P y K E' σ') (hm : P.follows .mixedOrders = true := by kernel_rfl) (hc : chk l.toArray l masks bs = true := by kernel_rfl)
  (h : F → ∀ (k : Env → List OB → Prop), k E' σ' → fC P l.toArray l bs E σ (fun E σ => k (E.forget ms) σ) := by
  intro fx k hk
  refine gax fx ?_
  exact hk) : W P (.seq (.region id l.toArray true) y) K E σ := nV ms hm masks bs hc fun k hk => h fx k (hk _ _ next)
theorem oV (hg : dS E σ E1 σ1) (next : W P c K E2 σ2) (h : W P c K E2 σ2 → W P c K E1 σ1 := by
  intro hq
  simp only [bZ, bL, reduceIte, ↓reduceIte, reduceCtorEq, Int.reduceToNat, Nat.reduceDiv, Nat.reduceMod, Nat.reduceLT, Nat.reduceLeDiff, Nat.reduceAdd, Nat.reduceSub, Nat.reduceMul, Nat.reduceEqDiff, Nat.reduceBEq, Nat.reduceBNe, Nat.reduceGT]
  exact hq) : W P c K E σ := fd hg (h next)
theorem pt (next : W P c K E' σ) (h : E = E' := by simp only [bE, Nat.reduceDiv, Nat.reduceMod, Nat.reduceLT, Nat.reduceLeDiff, Nat.reduceAdd, Nat.reduceSub, Nat.reduceMul, Nat.reduceEqDiff, Nat.reduceBEq, Nat.reduceBNe, Nat.reduceGT, Int.reduceToNat]; rfl) : W P c K E σ := gO h rfl next
theorem ca (next : W P c K E' σ') (h : E = E' := by simp only [bE, Nat.reduceDiv, Nat.reduceMod, Nat.reduceLT, Nat.reduceLeDiff, Nat.reduceAdd, Nat.reduceSub, Nat.reduceMul, Nat.reduceEqDiff, Nat.reduceBEq, Nat.reduceBNe, Nat.reduceGT, Int.reduceToNat]; rfl) (h2 : σ = σ' := by first | (dsimp only; rfl) | rfl) : W P c K E σ := gO h h2 next
theorem dU (next : W P c K E' σ') (h : E = E' := by simp only [dY, Env.ofList, List.length_nil, List.length_cons, bE, Nat.reduceDiv, Nat.reduceMod, Nat.reduceLT, Nat.reduceLeDiff, Nat.reduceAdd, Nat.reduceSub, Nat.reduceMul, Nat.reduceEqDiff, Nat.reduceBEq, Nat.reduceBNe, Nat.reduceGT, Int.reduceToNat]; rfl) (h2 : σ = σ' := by rfl) : W P c K E σ := gO h h2 next
theorem qF (next : W P c K E' σ') (h : E = E' := by simp only [bE, Nat.reduceDiv, Nat.reduceMod, Nat.reduceLT, Nat.reduceLeDiff, Nat.reduceAdd, Nat.reduceSub, Nat.reduceMul, Nat.reduceEqDiff, Nat.reduceBEq, Nat.reduceBNe, Nat.reduceGT, Int.reduceToNat, List.length_cons, List.length_nil, List.length_append, List.cons_append, List.nil_append]; rfl) (h2 : σ = σ' := by simp only [List.length_cons, List.length_nil, List.length_append, List.cons_append, List.nil_append]; rfl) : W P c K E σ := gO h h2 next
theorem lF (σ' : List OB) (next : W P c K E σ') (h : σ = σ' := by first | rfl | (simp only [List.take_of_length_le, List.length_map, List.length_append, List.length_cons, List.length_nil, List.length_replicate, List.length_set, List.map_append, List.map_cons, List.map_nil, List.map_replicate, List.map_set, Nat.le_refl, Nat.zero_add, List.nil_append, List.set_cons_zero, List.set_cons_succ, bX, eK, eB, eS, eL]; done) | (simp only [List.take_of_length_le, List.length_map, List.length_append, List.length_cons, List.length_nil, List.length_replicate, List.length_set, List.map_append, List.map_cons, List.map_nil, List.map_replicate, List.map_set, Nat.le_refl, Nat.zero_add, List.nil_append, List.set_cons_zero, List.set_cons_succ, bX, eK, eB, eS, eL]; rfl) | (simp; done)) : W P c K E σ := gO rfl h next
theorem RP {γ : Bool} {C : Prop} {f : FuncId} {args : List PV} {o : Oper} {r : List Oper} {res : PV} (hs : γ = true → ee P f args res) (next : dA P ops r (E.putD o.dst ⟨γ, res⟩) σ k kp)
  (hd : cZ E o.dst := by first | trivial | exact cN rfl) (hC : γ = true → C := by first | trivial | (intro _; first | trivial | simp [ab]) | simp [ab]) (hargs : args.all PV.noOwn = true := by exact rfl) (hres : res.ren (cm σ.length []) = res := by exact rfl) : fL P ops γ C f args o r E σ k kp := kq hs hd hC hargs hres next
theorem RA {C : Prop} {f : FuncId} {args : List PV} {o : Oper} {r : List Oper} {args' : List PV} {σc : List OB} {post : PV → List OB → Prop} (hs : fw P f args' σc post (fun _ _ => False)) (ρ : List Nat)
  (next : ∀ p σ', post p σ' → ρ.length ≤ σ'.length → dA P ops r (E.putD o.dst ⟨true, p.ren (cm σ.length ρ)⟩) (bn σ ρ (σ'.map (OB.ren (cm σ.length ρ)))) k kp)
  (hd : cZ E o.dst := by first | trivial | exact cN rfl) (hC : C := by first | trivial | (intro _; first | trivial | simp [ab]) | simp [ab]) (hnd : ρ.Nodup := by simp) (hlt : ∀ b ∈ ρ, b < σ.length := by simp)
  (hargs : args = args'.map (PV.ren (cm σ.length ρ)) := by exact rfl) (hσ : ρ.map (fun b => σ[b]?) = σc.map (fun ob => some (ob.ren (cm σ.length ρ))) := by exact rfl) (hu : aB ρ.length args' := by first | trivial | (simp [bX, eK, eB, eS, eL, bJ, aB, PV.under, CV.under, aj, OB.under, ar]; done)) (hub : aj ρ.length σc := by first | trivial | (simp [bX, eK, eB, eS, eL, bJ, aB, PV.under, CV.under, aj, OB.under, ar]; done)) :
  fL P ops true C f args o r E σ k kp := aP hs ρ hd hC hnd hlt hargs hσ hu hub next (fun _ _ h _ => h.elim)
theorem RS {o : Oper} {r : List Oper} {v : PV} (hx : im P E σ o v σ') (next : dA P ops r (E.putD o.dst ⟨true, v⟩) σ' k kp) (hg : cn ops E o.guard = some true := by first | rfl | (simp only [bR, bT, tab, bX, reduceIte, ↓reduceIte, reduceCtorEq, Int.reduceToNat, Nat.reduceDiv, Nat.reduceMod, Nat.reduceLT, Nat.reduceLeDiff, Nat.reduceAdd, Nat.reduceSub, Nat.reduceMul, Nat.reduceEqDiff, Nat.reduceBEq, Nat.reduceBNe, Nat.reduceGT]; done)) (hd : cZ E o.dst := by first | trivial | exact cN rfl) :
  dA P ops (o :: r) E σ k kp := lc hx hg hd next
end
end Pam
namespace Pam
open Go
def n9 (ops : Array Oper) (l : List Oper) (masks : List Nat) (bar prv : List Bool) (rd : List (List Nat)) : Bool :=
  chk ops l masks bar &&
  (l.zipIdx.all fun (x, i) => di x || (x.looksAt ops).all (fun t => (rd.getD i []).contains t) || l.zipIdx.all fun (_, j) => !(prv.getD j false) || fc masks i j)
def od (P : Program) (ops : Array Oper) (pv : List Nat) (E : Env) (σ : List OB) (o : Oper) (bar prv : Bool) (rd : List Nat) (ts : TS) : Prop :=
  cn ops E o.guard = some ts.γ ∧ cZ E o.dst ∧
  ((∃ C v, aH P ts.γ E σ o.op = .ok C v ∧ C ∧ (rd.all fun t => mF pv (E.get t).v) = true ∧ ts.e = ⟨ts.γ, v⟩ ∧ ts.σ = σ) ∨
   (ts.γ = true ∧ ∃ C v, aH P ts.γ E σ o.op = .upd C v ts.σ ∧ C ∧ ts.e = ⟨true, v⟩ ∧ (bar = true ∨ Ext σ ts.σ ∨ (prv = true ∧ dZ pv σ ts.σ))) ∨
   (∃ C f args r, aH P ts.γ E σ o.op = .call C f args ∧ (ts.γ = true → C ∧ ee P f args r) ∧ args.all PV.noOwn = true ∧ (∀ n, r.ren (cm n []) = r) ∧ ts.e = ⟨ts.γ, r⟩ ∧ ts.σ = σ) ∨
   (ts.γ = false ∧ ts.e = ⟨true, .t []⟩ ∧ ts.σ = σ) ∨
   (ts.γ = true ∧ ∃ C f args p, aH P ts.γ E σ o.op = .call C f args ∧ C ∧ ja P σ f args p ts.σ ∧ ts.e = ⟨true, p⟩ ∧ (bar = true ∨ Ext σ ts.σ)) ∨
   (ts.γ = true ∧ di o = true ∧ ∃ v, (∀ E', (∀ x ∈ o.op.operands, ev E' x = ev E x) → ∀ G a w, Sim G E' σ a w → kW P G (execOp a.eval o) w v ts.σ) ∧ ts.e = ⟨true, v⟩ ∧ (bar = true ∨ Ext σ ts.σ ∨ (prv = true ∧ dZ pv σ ts.σ))))
def mn (P : Program) (ops : Array Oper) (pv : List Nat) : List Oper → List Bool → List Bool → List (List Nat) → Env → List OB → List TS → Prop
  | [], _, _, _, _, _, tr => tr = []
  | o :: l, bs, ps, rd, E, σ, tr => ∃ ts r, tr = ts :: r ∧ od P ops pv E σ o (bs.headD false) (ps.headD false) (rd.headD []) ts ∧ mn P ops pv l bs.tail ps.tail rd.tail (E.putD o.dst ts.e) ts.σ r
section
variable {P : Program} {ops : Array Oper} {pv : List Nat}
theorem cS.ofP : ∀ {l : List Oper} {bs ps : List Bool} {rd : List (List Nat)} {E : Env} {σ : List OB} {tr : List TS}, mn P ops pv l bs ps rd E σ tr → cS P ops pv l bs ps rd [] E σ tr
  | [], _, _, _, _, _, _, h => h
  | o :: l, _, _, _, _, _, _, ⟨ts, r, h1, ⟨h2, h3, h4⟩, h5⟩ => ⟨ts, r, h1, ⟨h2, h3, .inl ⟨rfl, h4⟩⟩, cS.ofP h5⟩
theorem oe {ops : Array Oper} {l : List Oper} {masks : List Nat} {bs ps : List Bool} {rd : List (List Nat)} (h : n9 ops l masks bs ps rd = true) : md ops l masks bs ps rd [] = true := by
  unfold n9 chk at h
  unfold md
  rw [show ld ([] : List Bool) = fun _ o => di o from by funext i o; exact jV i o]
  exact h
def TRP (P : Program) (ops : Array Oper) (pv : List Nat) (l : List Oper) (bs ps : List Bool) (rd : List (List Nat)) (E : Env) (σ : List OB) (k : Env → List OB → Prop) : Prop :=
  ∃ tr, mn P ops pv l bs ps rd E σ tr ∧ k (bC E l tr l.length) (av σ tr l.length)
def lG (pv : List Nat) : Nat → List OB → List OB → Prop
  | _, [], _ => True
  | i, a :: as_, b :: bs => (pv.contains i = true ∨ a = b) ∧ lG pv (i + 1) as_ bs
  | _, _ :: _, [] => False
theorem lH : ∀ {i : Nat} {σ σ' : List OB}, lG pv i σ σ' → σ.length ≤ σ'.length ∧ ∀ b, b + i ∉ pv → b < σ.length → σ'[b]? = σ[b]?
  | _, [], _, _ => ⟨by simp, fun b _ h => by simp at h⟩
  | i, a :: as_, b :: bs, ⟨h1, h2⟩ => by
    obtain ⟨k1, k2⟩ := lH h2
    refine ⟨by simpa using k1, fun c hc hl => ?_⟩
    cases c with
    | zero =>
      rcases h1 with h | h
      · simp at hc; simp at h; exact (hc h).elim
      · simp [h]
    | succ c => simpa using k2 c (by simpa [Nat.add_assoc, Nat.add_comm 1] using hc) (by simpa using hl)
def j8 (P : Program) (ops : Array Oper) (pv : List Nat) (γ : Bool) (C : Prop) (f : FuncId) (args : List PV) (o : Oper) (r : List Oper) (bs ps : List Bool) (rd : List (List Nat)) (E : Env) (σ : List OB) (k : Env → List OB → Prop) : Prop :=
  aH P γ E σ o.op = .call C f args → cn ops E o.guard = some γ → TRP P ops pv (o :: r) bs ps rd E σ k
def jc (P : Program) (ops : Array Oper) (pv : List Nat) (γ : Bool) (o : Oper) (r : List Oper) (bs ps : List Bool) (rd : List (List Nat)) (E : Env) (σ : List OB) (k : Env → List OB → Prop) (run : Env → List OB → Prop) : R → Prop
  | .ok C v => cZ E o.dst ∧ C ∧ ((rd.headD []).all fun t => mF pv (E.get t).v) = true ∧ run (E.putD o.dst ⟨γ, v⟩) σ
  | .upd C v σ' => cZ E o.dst ∧ γ = true ∧ C ∧ (bs.headD false = true ∨ jr σ σ' ∨ (ps.headD false = true ∧ lG pv 0 σ σ')) ∧ run (E.putD o.dst ⟨true, v⟩) σ'
  | .call C f args => j8 P ops pv γ C f args o r bs ps rd E σ k
  | .bad => False
def eE (P : Program) (ops : Array Oper) (pv : List Nat) : List Oper → List Bool → List Bool → List (List Nat) → Env → List OB → (Env → List OB → Prop) → Prop
  | [], _, _, _, E, σ, k => k E σ
  | o :: r, bs, ps, rd, E, σ, k =>
    match cn ops E o.guard with
    | none => False
    | some false => cZ E o.dst ∧ eE P ops pv r bs.tail ps.tail rd.tail (E.putD o.dst ⟨true, .t []⟩) σ k
    | some true => jc P ops pv true o r bs ps rd E σ k (fun E' σ' => eE P ops pv r bs.tail ps.tail rd.tail E' σ' k) (aH P true E σ o.op)
theorem TRP.cons {o : Oper} {r : List Oper} {bs ps : List Bool} {rd : List (List Nat)} {E : Env} {σ : List OB} {k : Env → List OB → Prop} {ts : TS} (h : od P ops pv E σ o (bs.headD false) (ps.headD false) (rd.headD []) ts) (ht : TRP P ops pv r bs.tail ps.tail rd.tail (E.putD o.dst ts.e) ts.σ k) : TRP P ops pv (o :: r) bs ps rd E σ k := by
  obtain ⟨tr, h1, h2⟩ := ht
  refine ⟨ts :: tr, ⟨ts, tr, rfl, h, h1⟩, ?_⟩
  simpa [bC, av] using h2
theorem eN : ∀ (l : List Oper) (bs ps : List Bool) (rd : List (List Nat)) (E : Env) (σ : List OB) (k : Env → List OB → Prop), eE P ops pv l bs ps rd E σ k → TRP P ops pv l bs ps rd E σ k
  | [], bs, ps, rd, E, σ, k, h => ⟨[], rfl, by unfold eE at h; simpa [bC, av] using h⟩
  | o :: r, bs, ps, rd, E, σ, k, h => by
    unfold eE at h
    split at h
    · exact h.elim
    · rename_i hγ
      exact TRP.cons (ts := ⟨false, ⟨true, .t []⟩, σ⟩) ⟨hγ, h.1, .inr (.inr (.inr (.inl ⟨rfl, rfl, rfl⟩)))⟩ (eN r _ _ _ _ _ _ h.2)
    · rename_i hγ
      unfold jc at h
      split at h
      · rename_i C v hrun
        obtain ⟨hd, hC, hrd, hr⟩ := h
        exact TRP.cons (ts := ⟨true, ⟨true, v⟩, σ⟩) ⟨hγ, hd, .inl ⟨C, v, hrun, hC, hrd, rfl, rfl⟩⟩ (eN r _ _ _ _ _ _ hr)
      · rename_i C v σ' hrun
        obtain ⟨hd, hg, hC, hb, hr⟩ := h
        refine TRP.cons (ts := ⟨true, ⟨true, v⟩, σ'⟩) ⟨hγ, hd, .inr (.inl ⟨rfl, C, v, hrun, hC, rfl, ?_⟩)⟩ (eN r _ _ _ _ _ _ hr)
        rcases hb with h | h | ⟨h, h'⟩
        · exact .inl h
        · exact .inr (.inl (jy h))
        · exact .inr (.inr ⟨h, by have := lH h'; exact ⟨this.1, fun b hb hl => this.2 b hb hl⟩⟩)
      · rename_i C f args hrun
        exact h hrun hγ
      · exact h.elim
theorem lI {C : Prop} {f : FuncId} {args : List PV} {o : Oper} {r : List Oper} {bs ps : List Bool} {rd : List (List Nat)} {E : Env} {σ σ2 : List OB} {k : Env → List OB → Prop} {res : PV}
    (hs : ja P σ f args res σ2) (hd : cZ E o.dst) (hC : C) (hb : bs.headD false = true ∨ jr σ σ2)
    (next : eE P ops pv r bs.tail ps.tail rd.tail (E.putD o.dst ⟨true, res⟩) σ2 k) : j8 P ops pv true C f args o r bs ps rd E σ k := fun hrun hγ =>
  TRP.cons (ts := ⟨true, ⟨true, res⟩, σ2⟩) ⟨hγ, hd, .inr (.inr (.inr (.inr (.inl ⟨rfl, C, f, args, res, hrun, hC, hs, rfl, hb.imp id jy⟩))))⟩ (eN r _ _ _ _ _ _ next)
theorem mP {id : Nat} {l : List Oper} {K : Kt} {E : Env} {σ : List OB} (hm : P.follows .mixedOrders = true) (pv masks : List Nat) (bs ps : List Bool) (rd : List (List Nat)) (hc : n9 l.toArray l masks bs ps rd = true)
    (h : TRP P l.toArray pv l bs ps rd E σ (K .normal)) : W P (.region id l.toArray true) K E σ := by
  obtain ⟨tr, ht, hk⟩ := h
  exact mG hm pv masks bs ps rd [] (oe hc) ⟨tr, cS.ofP ht, hk⟩
theorem pN {id : Nat} {l : List Oper} {K : Kt} {E : Env} {σ : List OB} (hm : P.follows .mixedOrders = true) (pv masks : List Nat) (bs ps : List Bool) (rd : List (List Nat)) (hc : n9 l.toArray l masks bs ps rd = true)
    (h : ∀ (k : Env → List OB → Prop), (∀ E σ, K .normal E σ → k E σ) → eE P l.toArray pv l bs ps rd E σ k) : W P (.region id l.toArray true) K E σ :=
  mP hm pv masks bs ps rd hc (eN l bs ps rd E σ _ (h (K .normal) fun _ _ h => h))
theorem oW {id : Nat} {l : List Oper} {y : Code} {K : Kt} {E : Env} {σ : List OB} (ms : List Nat) (hm : P.follows .mixedOrders = true) (pv masks : List Nat) (bs ps : List Bool) (rd : List (List Nat)) (hc : n9 l.toArray l masks bs ps rd = true)
    (h : ∀ (k : Env → List OB → Prop), (∀ E σ, W P y K E σ → k E σ) → eE P l.toArray pv l bs ps rd E σ (fun E σ => k (E.forget ms) σ)) : W P (.seq (.region id l.toArray true) y) K E σ :=
  jR (mP hm pv masks bs ps rd hc (by
    obtain ⟨tr, h1, h2⟩ := eN l bs ps rd E σ _ (h (W P y K) fun _ _ h => h)
    exact ⟨tr, h1, hK ms h2⟩))
end
def bAP := And.intro (And.intro (And.intro @eE.eq_1 @eE.eq_2) bL) (And.intro bM (And.intro (And.intro @jc.eq_1 @jc.eq_2) (And.intro @jc.eq_3 @jc.eq_4)))
end Pam
namespace Pam
open Go
section
variable {P : Program} {ops : Array Oper}
theorem n8 {l : List Oper} {bs : List Bool} {E : Env} {σ : List OB} {k : Env → List OB → Prop} (h : fC P ops l bs E σ k) : TR P ops l bs E σ k := f8 l bs E σ k h
theorem mO {id : Nat} {l : List Oper} {y : Code} {K : Kt} {E : Env} {σ : List OB} (ms : List Nat) (hm : P.follows .mixedOrders = true) (masks : List Nat) (bs : List Bool) (hc : chk l.toArray l masks bs = true)
  (h : ∀ (k : Env → List OB → Prop), (∀ E σ, W P y K E σ → k E σ) → TR P l.toArray l bs E σ (fun E σ => k (E.forget ms) σ)) : W P (.seq (.region id l.toArray true) y) K E σ :=
 jR (nR hm masks bs hc (by
  obtain ⟨tr, h1, h2⟩ := h (W P y K) fun _ _ h => h
  exact ⟨tr, h1, hK ms h2⟩))
end
end Pam
namespace Pam
open Go
section
variable {P : Program} {ops : Array Oper}
variable {pv : List Nat}
end
end Pam
namespace Pam
open Go
section
variable {P : Program} {ops : Array Oper} {pv : List Nat}
theorem TRQ.cons {o : Oper} {r : List Oper} {bs ps : List Bool} {rd : List (List Nat)} {lt : List Bool} {E : Env} {σ : List OB} {k : Env → List OB → Prop} {ts : TS} (h : me P ops pv E σ o (bs.headD false) (ps.headD false) (rd.headD []) (lt.headD false) ts) (ht : TRQ P ops pv r bs.tail ps.tail rd.tail lt.tail (E.putD o.dst ts.e) ts.σ k) : TRQ P ops pv (o :: r) bs ps rd lt E σ k := by
 obtain ⟨tr, h1, h2⟩ := ht
 refine ⟨ts :: tr, ⟨ts, tr, rfl, h, h1⟩, ?_⟩
 simpa [bC, av] using h2
theorem dZ.set {pv : List Nat} {σ : List OB} {b : Nat} {ob : OB} (h : pv.contains b = true) : dZ pv σ (σ.set b ob) :=
 ⟨by simp, fun c hc _ => by
  have : b ≠ c := fun e => by subst e; exact hc (by simpa using h)
  rw [List.getElem?_set_ne this]⟩
end
end Pam
namespace Pam
open Go
section
variable {P : Program} {ops : Array Oper}
end
end Pam
namespace Pam
open Go
section
variable {P : Program} {ops : Array Oper} {pv : List Nat} {E E' : Env} {σ σ' σ2 : List OB} {k : Env → List OB → Prop} {kp : PV → Env → List OB → Prop}
theorem kr {rs : List ResultVar} {n : Nat} {post pp : PV → List OB → Prop} (N : Nat)
  (h : match cy P E σ rs with | some (C, ps) => C ∧ ps.all PV.isV = true ∧ (f9 (σ.take N) σ ∧ n ≤ (σ.take N).length ∧ aj (σ.take N).length (σ.take N) ∧ (ci ps).underP (σ.take N).length ∧ post (ci ps) (σ.take N)) | none => False := by
   simp only [List.take_succ_cons, List.take_zero, List.take_nil, bF, bT, tab, bX, Sum.elim_inl, Sum.elim_inr, reduceIte, ↓reduceIte, reduceCtorEq, Int.reduceToNat, Nat.reduceDiv, Nat.reduceMod, Nat.reduceLT, Nat.reduceLeDiff, Nat.reduceAdd, Nat.reduceSub, Nat.reduceMul, Nat.reduceEqDiff, Nat.reduceBEq, Nat.reduceBNe, Nat.reduceGT] <;> first | done | rfl | (and_intros <;> first | rfl | omega | (simp; done) | (simp [eK, eB, eS, eL]; done) | (simp [lit, bX, eK, eB, eS, eL]; done) | (simp [CV.under, ar]; done))) : f7 P rs (ni n post) pp .ret E σ := nj (σ.take N) h
theorem kn {rs : List ResultVar} {n : Nat} {post pp : PV → List OB → Prop} (N : Nat)
  (h : match cy P E σ rs with | some (C, ps) => C ∧ ps.all PV.isV = true ∧ (f9 (σ.take N) σ ∧ n ≤ (σ.take N).length ∧ aj (σ.take N).length (σ.take N) ∧ (ci ps).underP (σ.take N).length ∧ post (ci ps) (σ.take N)) | none => False := by
   simp only [List.take_succ_cons, List.take_zero, List.take_nil, bF, bT, tab, bX, Sum.elim_inl, Sum.elim_inr, reduceIte, ↓reduceIte, reduceCtorEq, Int.reduceToNat, Nat.reduceDiv, Nat.reduceMod, Nat.reduceLT, Nat.reduceLeDiff, Nat.reduceAdd, Nat.reduceSub, Nat.reduceMul, Nat.reduceEqDiff, Nat.reduceBEq, Nat.reduceBNe, Nat.reduceGT] <;> first | done | rfl | (and_intros <;> first | rfl | omega | (simp; done) | (simp [eK, eB, eS, eL]; done) | (simp [lit, bX, eK, eB, eS, eL]; done) | (simp [CV.under, ar]; done))) : f7 P rs (ni n post) pp .normal E σ := kE (σ.take N) h
theorem sp {p q : Prop} (hq : q) (hp : p := by first | omega | assumption | decide | exact jz fun _ => rfl | (intro _; omega) | rfl | exact fun e => absurd (List.map_eq_nil_iff.1 e) (by assumption) | (and_intros <;> first | omega | assumption | decide | exact jz fun _ => rfl) | (refine .inl ?_; simp only [jr]; and_intros <;> first | rfl | trivial) | (refine .inr (.inl ?_); simp only [jr]; and_intros <;> first | rfl | trivial) | (refine .inr ?_; simp only [lG]; and_intros <;> first | exact .inl rfl | exact .inr rfl | trivial) | (refine .inr (.inr ⟨rfl, ?_⟩); simp only [lG]; and_intros <;> first | exact .inl rfl | exact .inr rfl | trivial) | exact .inl rfl) : p ∧ q := ⟨hp, hq⟩
theorem gp {p q : Prop} (hq : q) (h : Bx q → p := by
  intro hq
  simp only [bAP, bT, tab, bX, reduceIte, ↓reduceIte, reduceCtorEq, Int.reduceToNat, Nat.reduceDiv, Nat.reduceMod, Nat.reduceLT, Nat.reduceLeDiff, Nat.reduceAdd, Nat.reduceSub, Nat.reduceMul, Nat.reduceEqDiff, Nat.reduceBEq, Nat.reduceBNe, Nat.reduceGT, List.replicate, List.foldr]
  repeat refine sp ?_
  exact hq.1) : p := h ⟨hq⟩
theorem gt {p q : Prop} (hq : q) (h : Bx q → p := by
  intro hq
  simp only [bR, bT, tab, bX, reduceIte, ↓reduceIte, reduceCtorEq, Int.reduceToNat, Nat.reduceDiv, Nat.reduceMod, Nat.reduceLT, Nat.reduceLeDiff, Nat.reduceAdd, Nat.reduceSub, Nat.reduceMul, Nat.reduceEqDiff, Nat.reduceBEq, Nat.reduceBNe, Nat.reduceGT, bZ]
  repeat refine sd ?_
  exact hq.1) : p := h ⟨hq⟩
theorem gtx {p q F : Prop} (fx : F) (hq : q) (h : F → Bx q → p := by
  intro fx hq
  simp only [bR, bT, tab, bX, reduceIte, ↓reduceIte, reduceCtorEq, Int.reduceToNat, Nat.reduceDiv, Nat.reduceMod, Nat.reduceLT, Nat.reduceLeDiff, Nat.reduceAdd, Nat.reduceSub, Nat.reduceMul, Nat.reduceEqDiff, Nat.reduceBEq, Nat.reduceBNe, Nat.reduceGT, bZ, fx]
  repeat refine sd ?_
  exact hq.1) : p := h fx ⟨hq⟩
theorem cap {C : Prop} {f : FuncId} {args : List PV} {o : Oper} {r : List Oper} {bs ps : List Bool} {rd : List (List Nat)} {res : PV} {ops : Array Oper} (hs : ja P σ f args res σ2) (next : eE P ops pv r bs.tail ps.tail rd.tail (E.putD o.dst ⟨true, res⟩) σ2 k)
  (hd : cZ E o.dst := by first | trivial | exact cN rfl) (hC : C := by first | trivial | (intro _; first | trivial | simp [ab]) | simp [ab]) (hb : bs.headD false = true ∨ jr σ σ2 := by first | exact .inl rfl | exact .inr (by simp only [jr]; and_intros <;> first | rfl | trivial)) : j8 P ops pv true C f args o r bs ps rd E σ k := lI hs hd hC hb next
end
end Pam
namespace Pam
open Go
section
variable {P : Program} {E : Env} {σ : List OB}
def pw (P : Program) (T : TypeId) : Bool := match P.underlying T with | some (.interface _) => true | _ => false
theorem oZ {o : Oper} {op : BinOp} {T T' : TypeId} {x : Operand} (ho : o.op = .binOp op T x (.const .nilIface) T') (hop : op = .eql ∨ op = .neq)
  (hx : ev E x = ⟨true, .c .nili⟩) (hT : pw P T = true) : im P E σ o (.c (.bool (match op with | .eql => true | _ => false))) σ := .quiet fun G a w hs => by
 have hr : az G.H .nili (a.eval x) := jY hs hx
 have hu : ∃ ms, P.underlying T = some (.interface ms) := by
  unfold pw at hT
  cases hu : P.underlying T with
  | none => simp [hu] at hT
  | some d => cases d <;> simp [hu] at hT; simp
 obtain ⟨ms, hu⟩ := hu
 generalize hv : a.eval x = u at hr
 cases hr
 have hc : a.eval (.const .nilIface) = .nilIface := rfl
 have q0 : ∀ op, (eqGuard op T x (.const .nilIface) .nilIface .nilIface).run P w = .ok () w := fun op => by
  cases op <;> simp [eqGuard]
 have q1 : ∀ d : Nat, (Op.equalIn (d + 1) T .nilIface .nilIface).run P w = .ok true w := fun d => by
  simp [Op.equalIn, run_underlying hu]
 rcases hop with rfl | rfl
 ·refine ⟨.bool true, ?_, fb _⟩
  simp only [execOp, ho, hv, hc, Sem.run_bind, q0, Result.andThen_ok]
  simp [binOp, Op.equal, Op.maxDepth, q1 9999]
 ·refine ⟨.bool false, ?_, fb _⟩
  simp only [execOp, ho, hv, hc, Sem.run_bind, q0, Result.andThen_ok]
  simp [binOp, Op.equal, Op.maxDepth, q1 9999]
end
end Pam
namespace Pam
open Go
section
variable {P : Program} {E : Env} {σ : List OB}
def oX (P : Program) (T : TypeId) : Bool := match P.underlying T with | some (.int .u8) => true | _ => false
theorem lJ {T : TypeId} (h : oX P T = true) : P.underlying T = some (.int .u8) := by
 unfold oX at h
 split at h
 ·assumption
 ·cases h
def qG (P : Program) (E : Env) (σ : List OB) (k : IntKind) (y : Operand) (m : List Int) : Prop := ∀ G a w, Sim G E σ a w →
 ∃ base cap, a.eval y = .slice base m.length cap ∧ (m ≠ [] → ∃ ad, base = some ad ∧ ∀ (j : Nat) (v : Int), m[j]? = some v → w.cell? (ad.add j) = some (.int k v))
theorem nn (g o j : Nat) : (⟨g, o, none⟩ : Addr).add j = ⟨g, o + j, none⟩ := by unfold Addr.add; split <;> simp_all
theorem no {k : IntKind} {y : Operand} {m : List Int} (hy : ev E y = ⟨true, .c (.tree 1 (m.map (eK k)))⟩) : qG P E σ k y m := fun G a w hs => by
 have hr : az G.H (.tree 1 (m.map (eK k))) (a.eval y) := jY hs hy
 generalize hv : a.eval y = u at hr
 generalize hes : m.map (eK k) = es at hr
 cases hr with
 | tree0 _ ad cap _ =>
  have : m = [] := by simpa using hes
  subst this
  exact ⟨ad, cap, rfl, fun h => absurd rfl h⟩
 | tree _ _ blk off cap c T fz g hb hcap hlen hc hrep =>
  subst hes
  refine ⟨some ⟨blk, off, none⟩, cap, by simp, fun _ => ⟨_, rfl, fun j v hj => ?_⟩⟩
  have he : (m.map (eK k))[j]? = some [CV.int k v] := by simp [eK, hj]
  have h1 := hc j 0 _ (.int k v) he rfl
  have h2 := hrep j 0 _ (.int k v) he rfl
  generalize hgv : g j 0 = val at h1 h2
  cases h2
  rw [nn]
  have hh := hs.inv.hH _ _ hb
  simp only [World.cell?, hh]
  simpa using h1
def js (m : List Int) : List UInt8 := m.map fun n => UInt8.ofNat n.toNat
theorem oY {o : Oper} {T D : TypeId} {x : Operand} {m : List Int} (ho : o.op = .convert T D x) (hT : cO P T = true) (he : oX P (P.elem T) = true) (hD : e8 P D = true) (hx : qG P E σ .u8 x m) :
  im P E σ o (.c (.str (js m))) σ := .quiet fun G a w hs => by
 have hu := bN hT
 have hu8 := lJ he
 have hd : P.underlying D = some .string := by unfold e8 at hD; split at hD <;> simp_all
 obtain ⟨base, cap, hv, hc⟩ := hx G a w hs
 refine ⟨_, ?_, kT _⟩
 have hrun : (convert T D (.slice base m.length cap)).run P w = .ok (.string ⟨(js m).toArray⟩) w := by
  by_cases hm : m = []
  ·subst hm
   rw [run_convert_bytes_string w T D _ base _ cap hu hu8 hd]
   cases base with
   | none => simp [Conv.bytesToString, js]; rfl
   | some ad =>
    have := run_bytesToString (P := P) w ad 0 cap [] (by simpa using run_loadCells_list (P := P) w ad [] (fun j v h => by simp at h))
    exact this
  ·obtain ⟨ad, rfl, hcell⟩ := hc hm
   rw [run_convert_bytes_string w T D _ (some ad) _ cap hu hu8 hd]
   have hl : (loadCells ad m.length).run P w = .ok (m.map (Value.int .u8)).toArray w := by
    have := run_loadCells_list (P := P) w ad (m.map (Value.int .u8)) (fun j v hj => by
     rw [List.getElem?_map] at hj
     cases hjj : m[j]? with
     | none => rw [hjj] at hj; cases hj
     | some x =>
      rw [hjj] at hj
      simp only [Option.map_some, sJ] at hj
      subst hj
      exact hcell j x hjj)
    simpa using this
   rw [run_bytesToString w ad _ cap m hl, foldl_push_bytes]
   simp [js, ByteArray.empty, ByteArray.emptyWithCapacity]
   rfl
 simp only [execOp, ho, hv, Sem.run_bind]
 rw [hrun]
 rfl
theorem lK {o : Oper} {T : TypeId} {x : Operand} {b ver lo n s : Nat} {Ty : TypeId} {es : List (List CV)} (ho : o.op = .convert T T x) (hx : ev E x = ⟨true, .c (.osl b ver lo n)⟩) (hσ : σ[b]? = some (.arr s ver Ty es))
  (hT : cO P T = true) (he : oX P (P.elem T) = true) (hn : 0 < n) :
  im P E σ o (.c (.osl b ver lo n)) (σ.set b (.arr s ver Ty es)) := fun G a w hs => by
 have hi := hs.inv
 have hu := bN hT
 have hu8 := lJ he
 have hat := jY hs hx
 obtain ⟨og, s', T'', es', hb', hown, hov, hosz, ⟨hcap, ad, hval, hha⟩, hok⟩ := eM hs.inv (n0 hσ) hat
 rw [hσ] at hb'
 simp only [sJ, OB.arr.injEq] at hb'
 obtain ⟨rfl, _, rfl, rfl⟩ := hb'
 obtain ⟨o2, g1, g2, g3, g4, g5, g6, g7, g8, g9⟩ := hok
 rw [hown] at g1
 simp only [sJ] at g1
 subst g1
 have hh : og.has = true := by
  cases hh : og.has with
  | true => rfl
  | false => have := g8 hh; omega
 obtain ⟨a', rfl, ha'⟩ := hha hh
 obtain ⟨cur, fz, hblk, hfz, hcsz, hcells⟩ := g9 hh
 have hG : ({ G with own := G.own.set b (some og) } : Gh) = G := by
  have : G.own.set b (some og) = G.own := by
   apply List.ext_getElem?
   intro k
   by_cases e : b = k
   ·subst e; rw [hown]; simp [(List.getElem?_eq_some_iff.1 hown).1]
   ·rw [List.getElem?_set_ne e]
  cases G; simp_all
 have ea := ha' (by omega)
 have hrun : (convert T T (.slice (some a') n (og.cap - lo))).run P w = .ok (.slice (some a') n (og.cap - lo)) (w.freeze ⟨og.blk, cur.size, none⟩ 1) := by
  have hsh : w.shape? og.blk = some (Ty, cur.size) := by simp [World.shape?, hblk]
  subst ea
  simp [convert, run_underlying hu, run_underlying hu8, markStringish, hsh, Result.andThen]
 have hnew : (w.freeze ⟨og.blk, cur.size, none⟩ 1).heap[og.blk]? = some (.cells cur Ty (if fz.1 == fz.2 then (cur.size, cur.size + 1) else (min fz.1 cur.size, max fz.2 (cur.size + 1)))) := by
  obtain ⟨f1, f2⟩ := fz
  simp only [World.freeze, Nat.one_ne_zero, if_false]
  rw [Array.getElem?_modify, iP rfl, hblk]
  rfl
 have hold : ∀ k, k ≠ og.blk → (w.freeze ⟨og.blk, cur.size, none⟩ 1).heap[k]? = w.heap[k]? := fun k hk => by
  simp only [World.freeze, Nat.one_ne_zero, if_false]
  rw [Array.getElem?_modify, iN (Ne.symm hk)]
 have hhs : (w.freeze ⟨og.blk, cur.size, none⟩ 1).heap.size = w.heap.size := by simp [World.freeze]
 refine ⟨.value (a.eval x), a.eval x, w.freeze ⟨og.blk, cur.size, none⟩ 1, G, ?_, .inl rfl, fU.refl G, aE.refl _, ?_, hat⟩
 ·simp only [execOp, ho, hval, Sem.run_bind]
  rw [hrun]
  rfl
 ·have key := hi.change (w' := w.freeze ⟨og.blk, cur.size, none⟩ 1) b (.arr s ver Ty es) og og hown (.inl rfl) (by omega) (fun k _ hk => hold k (hk hh)) (fun hh' => .inl ⟨rfl, hh'⟩) rfl rfl rfl (by
   rw [hG]
   refine ⟨og, hown, g2, g3, g4, g5, g6, g7, g8, fun _ => ⟨cur, _, hnew, ?_, hcsz, hcells⟩⟩
   right
   rcases hfz with h | h
   ·subst h; simp
   ·split
    ·exact Nat.le_refl _
    ·simp only; omega)
  rw [hG] at key
  exact key
end
end Pam
namespace Pam
open Go
section
variable {P : Program} {E : Env} {σ : List OB} {ops : Array Oper} {k : Env → List OB → Prop} {kp : PV → Env → List OB → Prop}
def nsC (ns : List (IntKind × Int)) : List CV := ns.map fun p => .int p.1 p.2
def li (P : Program) (T : TypeId) : Bool := match P.underlying T with | some (.interface _) => false | some _ => true | none => false
def oh (P : Program) (T : TypeId) : Bool := match P.underlying T with | some (.interface _) => true | _ => false
theorem mQ {G : Gh} : ∀ {ns : List (IntKind × Int)} {vs : List Value}, ap (Rep G) (nsC ns) vs → vs = ns.map fun p => Value.int p.1 p.2
 | [], [], _ => rfl
 | p :: ns, v :: vs, h => by
  have h1 := cb (G := G) (k := p.1) (n := p.2) h.1
  rw [mQ (ns := ns) h.2, h1]
  rfl
theorem hU {o : Oper} {T : TypeId} {x : Operand} {ns : List (IntKind × Int)} (ho : o.op = .makeInterface T x) (hx : ev E x = ⟨true, .a (nsC ns)⟩) (hT : li P T = true) :
  im P E σ o (.c (.ifc T true (nsC ns))) σ := .quiet fun G a w hs => by
 obtain ⟨vs, hv, h2⟩ := jY hs hx
 have hvs := mQ h2
 have hu : ∃ d, P.underlying T = some d ∧ ∀ ms, d ≠ .interface ms := by
  unfold li at hT
  cases hd : P.underlying T with
  | none => simp [hd] at hT
  | some d => exact ⟨d, rfl, fun ms e => by subst e; simp [hd] at hT⟩
 obtain ⟨d, hd, hne⟩ := hu
 refine ⟨.iface T (a.eval x), ?_, ?_⟩
 ·simp only [execOp, ho, Instr.makeInterface, Sem.run_bind, run_underlying hd, Result.andThen_ok]
  cases d <;> first | (exact absurd rfl (hne _)) | rfl
 ·rw [hv, hvs]
  exact az.rep (.ifc T ns)
theorem lj {G : Gh} {T : TypeId} {ns : List (IntKind × Int)} {v : Value} (h : ai G (.c (.ifc T true (nsC ns))) v) : v = .iface T (.agg (ns.map fun p => Value.int p.1 p.2).toArray) := by
 have h' : az G.H (.ifc T true (nsC ns)) v := h
 generalize hc : nsC ns = cs at h'
 cases h' with
 | ifc _ ns' =>
  have : ns = ns' := by
   unfold nsC at hc
   clear h
   induction ns generalizing ns' with
   | nil => cases ns' <;> simp_all
   | cons p ns ih =>
    cases ns' with
    | nil => simp at hc
    | cons q ns' =>
     simp only [List.map_cons, List.cons.injEq, CV.int.injEq] at hc
     obtain ⟨⟨h1, h2⟩, h3⟩ := hc
     rw [ih _ h3]
     congr 1
     exact Prod.ext h1 h2
  rw [this]
theorem dw {o : Oper} {l : List Oper} {x : Operand} {T : TypeId} {ns : List (IntKind × Int)} (ho : o.op = .panic x) (hx : ev E x = ⟨true, .c (.ifc T true (nsC ns))⟩) (hg : cn ops E o.guard = some true)
  (h : kp (.c (.ifc T true (nsC ns))) E σ) : dA P ops (o :: l) E σ k kp := fun G a w hs => by
 have hw := fv (P := P) hs hg
 have hr := jY hs hx
 have hv := lj hr
 unfold wpList
 rw [iP hw]
 left
 unfold Oper.wp
 have e1 : (execOp a.eval o).run P w = .halt (.panic (.iface T (.agg (ns.map fun p => Value.int p.1 p.2).toArray))) w := by
  simp only [execOp, ho, hv, Instr.panic, goPanic]
  rfl
 rw [e1]
 exact ⟨G, E, σ, .panic (.c (.ifc T true (nsC ns))), Gle.refl G, hs, ⟨_, rfl, by rw [hv] at hr; exact hr⟩, h⟩
theorem mo {o : Oper} {x : Operand} {X T : TypeId} {ns : List (IntKind × Int)} (cs : List CV) (hcs : nsC ns = cs) (ho : o.op = .typeAssert x X T true) (hx : ev E x = ⟨true, .c (.ifc T true (nsC ns))⟩) (hT : li P T = true) :
  im P E σ o (.t [.a cs, .c (.bool true)]) σ := .quiet fun G a w hs => by
 subst hcs
 have hv := lj (jY hs hx)
 have hu : ∃ d, P.underlying T = some d ∧ ∀ ms, d ≠ .interface ms := by
  unfold li at hT
  cases hd : P.underlying T with
  | none => simp [hd] at hT
  | some d => exact ⟨d, rfl, fun ms e => by subst e; simp [hd] at hT⟩
 obtain ⟨d, hd, hne⟩ := hu
 refine ⟨.tuple #[.agg (ns.map fun p => Value.int p.1 p.2).toArray, .bool true], ?_, ?_⟩
 ·simp only [execOp, ho, hv, Instr.typeAssert, Sem.run_bind, run_underlying hd, Result.andThen_ok]
  cases d <;> first | (exact absurd rfl (hne _)) | (simp; done) | (simp; rfl)
 ·refine ⟨[_, _], rfl, ⟨_, rfl, ?_⟩, az.rep (.bool true), trivial⟩
  clear hx hv
  unfold nsC
  induction ns with
  | nil => trivial
  | cons p ns ih => exact ⟨az.rep (.int p.1 p.2), ih⟩
theorem np {o : Oper} {op : BinOp} {T T' S : TypeId} {x : Operand} {ns : List (IntKind × Int)} (ho : o.op = .binOp op T x (.const .nilIface) T') (hop : op = .eql ∨ op = .neq)
  (hx : ev E x = ⟨true, .c (.ifc S true (nsC ns))⟩) (hT : oh P T = true) : im P E σ o (.c (.bool (match op with | .eql => false | _ => true))) σ := .quiet fun G a w hs => by
 have hu : ∃ ms, P.underlying T = some (.interface ms) := by
  unfold oh at hT
  cases hu : P.underlying T with
  | none => simp [hu] at hT
  | some d => cases d <;> simp [hu] at hT; simp
 obtain ⟨ms, hu⟩ := hu
 have hv := lj (jY hs hx)
 have hc : a.eval (.const .nilIface) = .nilIface := rfl
 have q0 : ∀ op S v, (eqGuard op T x (.const .nilIface) (.iface S v) .nilIface).run P w = .ok () w := fun op S v => by
  cases op <;> simp [eqGuard]
 have q1 : ∀ (d : Nat) (t : TypeId) (v : Value), (Op.equalIn (d + 1) T (.iface t v) .nilIface).run P w = .ok false w := fun d t v => by
  simp [Op.equalIn, run_underlying hu]
 rcases hop with rfl | rfl
 ·refine ⟨.bool false, ?_, fb _⟩
  simp only [execOp, ho, hv, hc, Sem.run_bind, q0, Result.andThen_ok]
  simp [binOp, Op.equal, Op.maxDepth, q1 9999]
 ·refine ⟨.bool true, ?_, fb _⟩
  simp only [execOp, ho, hv, hc, Sem.run_bind, q0, Result.andThen_ok]
  simp [binOp, Op.equal, Op.maxDepth, q1 9999]
end
end Pam
namespace Pam
open Go
structure Clo (P : Program) (cf : FuncId) (z : Code) (nz r5 r2 : Nat) : Prop where
 hf : ∃ (fz : Func) (j0 : Nat) (rc sa : Oper) (cl : Call), P.funcs[cf]? = some fz ∧ fz.body = some (.seq (.region j0 [rc, sa].toArray false) z) ∧ fz.ntmps = nz ∧ fz.results.toList = [] ∧ (fz.name == "runtime.NumGoroutine") = false ∧
  rc.op = .call cl ∧ cl.callee = .builtin .recover ∧ cl.args = #[] ∧ rc.dst = some r5 ∧ rc.guard = none ∧ sa.op = .assign (.tmp r5) ∧ sa.dst = some r2 ∧ sa.guard = none
 n5 : r5 < nz
 n2 : r2 < nz
 g5 : 2 ≤ r5
 g2 : 2 ≤ r2
 ne : r5 ≠ r2
theorem fM {o : Oper} (h : o.guard = none) (ops : Array Oper) (t : Array Value) : Region.wanted o (yielded ops t) = true := by
 unfold Region.wanted; rw [h]
def KG (K : Kt) : Kt := fun x E σ => ∃ E1 σ1, dS E σ E1 σ1 ∧ K x E1 σ1
theorem kI {P : Program} {cf : FuncId} {z : Code} {nz r5 r2 : Nat} (c : Clo P cf z nz r5 r2) {G : Gh} {σ : List OB} {w : World} {pa pb rp : PV} {va vb rv : Value} {u u2 : FrameMode} {KZ : Kt}
  (hrec : ∀ (c₀ : Frame) (cs : List Frame), c₀.mode = u → recoverD (c₀ :: cs) = some (rv, { c₀ with mode := u2 } :: cs) ∨ (recoverD (c₀ :: cs) = none ∧ rv = .nilIface ∧ u2 = u))
  (hi : Inv G σ w) (ha : ai G pa va) (hb : ai G pb vb) (hr : ai G rp rv)
  (hKe : ∀ i E σ, ¬ KZ (.exit i) E σ) (hKp : ∀ p E σ, ¬ KZ (.panic p) E σ)
  (hz : W P z (KG KZ) (Env.ofList nz σ.length [(r2, rp), (r5, rp), (0, pa), (1, pb)]) σ) :
  CallsD P cf #[va, vb] u w fun e u' w' => ∃ r G' E' σ', e = .returned r ∧ u' = u2 ∧ Gle G G' ∧ aE G.own G'.own ∧ Inv G' σ' w' ∧ (KZ .normal E' σ' ∨ KZ .ret E' σ') := by
 obtain ⟨fz, j0, rc, sa, cl, hf, hbd, hnt, hrs, hname, q1, q2, q3, q4, q5, q6, q7, q8⟩ := c.hf
 have c5 := c.n5
 have c2 := c.n2
 have d5 := c.g5
 have d2 := c.g2
 have dn := c.ne
 refine callsD_of_wpS hf hbd fun c₀ cs hm => ?_
 refine wpS_seq ?_
 refine wpS_region ?_
 have tm0 : ∀ (k : Nat) (v : Value), (#[va, vb] : Array Value)[k]? = some v → ((#[va, vb] ++ Array.replicate (fz.ntmps - 2) undef : Array Value)).getD k undef = v := fun k v h => by
  rw [Array.getD_eq_getD_getElem?, Array.getElem?_append_left (Array.getElem?_eq_some_iff.1 h).1, h]; rfl
 have hsz : ((#[va, vb] ++ Array.replicate (fz.ntmps - 2) undef : Array Value)).size = nz := by simp; omega
 generalize hT0 : (#[va, vb] ++ Array.replicate (fz.ntmps - 2) undef : Array Value) = T0 at tm0 hsz
 have hiz : Inv ({ G with w0 := { G.w0 with ds := [] }, na := σ.length } : Gh) σ w := ⟨hi.hH, hi.hF, hi.HF, hi.len, fun b ob h => by
   have := hi.own b ob h
   cases ob with
   | dead => exact this
   | box cs =>
    obtain ⟨o, c, T, h1, h2, h3, h4, h5⟩ := this
    exact ⟨o, c, T, h1, h2, h3, h4, h5.mono fun _ _ h => Rep.mono (G := G) (fun _ _ h => h) (aE.refl _) h⟩
   | arr => exact this, hi.inj, hi.sep, hi.os, hi.tape, hi.output, hi.grow⟩
 have hRz : ∀ p v, ai G p v → ai ({ G with w0 := { G.w0 with ds := [] }, na := σ.length } : Gh) p v := fun p v h => ai.mono (G := G) (fun _ _ h => h) (aE.refl _) h
 have hsim : Sim ({ G with w0 := { G.w0 with ds := [] }, na := σ.length } : Gh) (Env.ofList nz σ.length [(r2, rp), (r5, rp), (0, pa), (1, pb)]) σ { tmps := (T0.setIfInBounds r5 rv).setIfInBounds r2 rv, defers := [] } w := by
  refine ⟨hiz, rfl, by rw [(eC _ _ _).1]; simpa using hsz, by rw [(eC _ _ _).2], fun i hc => ?_⟩
  obtain ⟨p, h1, h2⟩ := gM.sim _ i hc
  rw [h2]
  have g : ∀ k, ((T0.setIfInBounds r5 rv).setIfInBounds r2 rv).getD k undef = if k = r2 ∨ k = r5 then rv else T0.getD k undef := fun k => by
   simp only [Array.getD_eq_getD_getElem?, Array.getElem?_setIfInBounds, Array.size_setIfInBounds, hsz]
   by_cases e2 : r2 = k
   ·subst e2; simp [c2]
   ·by_cases e5 : r5 = k
    ·subst e5; simp [e2, c5]
    ·simp [e2, e5, Ne.symm e2, Ne.symm e5]
  show ai _ p (((T0.setIfInBounds r5 rv).setIfInBounds r2 rv).getD i undef)
  rw [g]
  simp only [List.mem_cons, Prod.mk.injEq, List.not_mem_nil, or_false] at h1
  rcases h1 with ⟨rfl, rfl⟩ | ⟨rfl, rfl⟩ | ⟨rfl, rfl⟩ | ⟨rfl, rfl⟩
  ·rw [iP (.inl rfl)]; exact hRz _ _ hr
  ·rw [iP (.inr rfl)]; exact hRz _ _ hr
  ·rw [iN (by omega), tm0 0 va rfl]; exact hRz _ _ ha
  ·rw [iN (by omega), tm0 1 vb rfl]; exact hRz _ _ hb
 have hwp := hz _ _ w hsim
 have rest : z.wpS P (bodyPostS P fz c₀ cs fun e u' w' => ∃ r G' E' σ', e = .returned r ∧ u' = u2 ∧ Gle G G' ∧ aE G.own G'.own ∧ Inv G' σ' w' ∧ (KZ .normal E' σ' ∨ KZ .ret E' σ')) { tmps := (T0.setIfInBounds r5 rv).setIfInBounds r2 rv, defers := [] } ({ c₀ with mode := u2 } :: cs) w := by
  refine wpS_of_wp (Code.wp_mono (fun e a w' hp => ?_) hwp)
  obtain ⟨G0, E0, σ0, x, h1, h2, h3, E1, σ1, hgh, h4⟩ := hp
  obtain ⟨G1, hg1, h2⟩ := hgh _ _ _ h2
  have h1 := h1.trans hg1
  have fin : (KZ .normal E1 σ1 ∨ KZ .ret E1 σ1) → a.defers = [] ∧ ∃ u', ({ c₀ with mode := u2 } :: cs : List Frame) = { c₀ with mode := u' } :: cs ∧ ∃ v, (results fz a.tmps).run P w' = .ok v w' ∧
    ∃ r G' E' σ', (Ending.returned v) = .returned r ∧ u' = u2 ∧ Gle G G' ∧ aE G.own G'.own ∧ Inv G' σ' w' ∧ (KZ .normal E' σ' ∨ KZ .ret E' σ') := fun hk => by
   obtain ⟨v, k1, _⟩ := ix h2 hrs (C := True) (ps := []) rfl trivial rfl
   have hlen : ∀ b oo, G.own[b]? = some oo → b < σ.length := fun b oo h => by rw [← hi.len]; exact (List.getElem?_eq_some_iff.1 h).1
   have hol : aE G.own G1.own := fun b oo h => h1.own b oo (hlen b oo h) h
   refine ⟨h2.defers.trans (by rw [h1.le.w0]), u2, rfl, v, k1, v, { G1 with w0 := G.w0, na := G.na }, E1, σ1, rfl, rfl, ⟨⟨h1.le.H, h1.le.F, rfl, rfl⟩, .of_le hol⟩, hol, ?_, hk⟩
   have hw : G1.w0.toWorld = G.w0.toWorld := by rw [h1.le.w0]
   have h5 := h2.inv
   refine ⟨h5.hH, h5.hF, h5.HF, h5.len, fun b ob h => ?_, h5.inj, h5.sep, by show w'.os = G.w0.toWorld.os; rw [← hw]; exact h5.os, by show w'.tape = G.w0.toWorld.tape; rw [← hw]; exact h5.tape, by show w'.output = G.w0.toWorld.output; rw [← hw]; exact h5.output, by show G.w0.toWorld.heap.size ≤ _; rw [← hw]; exact h5.grow⟩
   have := h5.own b ob h
   cases ob with
   | dead => exact this
   | box cs =>
    obtain ⟨o, c, T, j1, j2, j3, j4, j5⟩ := this
    exact ⟨o, c, T, j1, j2, j3, j4, j5.mono fun _ _ h => Rep.mono (G := G1) (fun _ _ h => h) (aE.refl _) h⟩
   | arr => exact this
  cases x with
  | normal => cases h3; exact fin (.inl h4)
  | ret => cases h3; exact fin (.inr h4)
  | exit i => exact (hKe _ _ _ h4).elim
  | panic p => exact (hKp _ _ _ h4).elim
 have hT5 : (T0.setIfInBounds r5 rv).getD r5 undef = rv := by
  simp [Array.getD_eq_getD_getElem?, hsz, c5]
 have e0 : ∀ a : Act, (execOp a.eval rc).run P w = .ok .recover w := fun a => by
  simp [execOp, q1, resolve, q2, q3, invoke, builtin]
 have e1 : ∀ a : Act, (execOp a.eval sa).run P w = .ok (.value (a.tmps.getD r5 undef)) w := fun a => by
  simp only [execOp, q6]; rfl
 show wpOpsS P [rc, sa].toArray _ [0, 1] _ _ _
 simp only [wpOpsS, List.getElem?_toArray, List.getElem?_cons_zero, List.getElem?_cons_succ, fM q5, fM q8, if_true, e0, e1, q4, q7]
 rcases hrec c₀ cs hm with h | ⟨h, rfl, rfl⟩
 ·rw [h]
  simp only [Oper.upon, q7, Act.put, hT5]
  exact rest
 ·rw [h]
  simp only [Oper.upon, q7, Act.put, hT5]
  have hcc : ({ c₀ with mode := u2 } : Frame) = c₀ := by rw [← hm]
  rw [hcc] at rest
  exact rest
def KS (σ0 : List OB) : Kt
 | .normal, _, σ' => σ' = σ0
 | .ret, _, σ' => σ' = σ0
 | .exit _, _, _ => False
 | .panic _, _, _ => False
def KN (D : Env → List OB → Prop) : Kt
 | .normal, E, σ => D E σ
 | .ret, _, _ => False
 | .exit _, _, _ => False
 | .panic _, _, _ => False
def KZ (P : Program) (rs : List ResultVar) (post : PV → List OB → Prop) (E0 : Env) : Kt
 | .normal, _, σ' => (match cy P E0 σ' rs with | some (C, ps) => C ∧ ps.all PV.isV = true ∧ post (ci ps) σ' | none => False)
 | .ret, _, σ' => (match cy P E0 σ' rs with | some (C, ps) => C ∧ ps.all PV.isV = true ∧ post (ci ps) σ' | none => False)
 | .exit _, _, _ => False
 | .panic _, _, _ => False
def KD (P : Program) (z : Code) (nz r5 r2 : Nat) (rs : List ResultVar) (post : PV → List OB → Prop) (ba bb : Nat) : Kt
 | .normal, E, σ => (match cy P E σ rs with | some (C, ps) => C ∧ ps.all PV.isV = true ∧ post (ci ps) σ | none => False)
 | .ret, E, σ => (match cy P E σ rs with | some (C, ps) => C ∧ ps.all PV.isV = true ∧ post (ci ps) σ | none => False)
 | .exit _, _, _ => False
 | .panic p, E, σ => ∃ (l : List (Nat × PV)) (τ : List OB) (T : TypeId) (ns : List (IntKind × Int)), p = .c (.ifc T true (nsC ns)) ∧ pC E σ l τ ∧
   W P z (KG (KZ P rs post (Env.ofList E.n E.na l))) (Env.ofList nz τ.length [(r2, p), (r5, p), (0, .c (.optr ba 0)), (1, .c (.optr bb 0))]) τ
theorem lM {G G' : Gh} {n b off : Nat} {v : Value} (h : ai G (.c (.optr b off)) v) (ho : ft n G.own G'.own) (hb : b < n) : ai G' (.c (.optr b off)) v := by
 obtain ⟨h1, oo, h2, h3⟩ : bK G (.optr b off) v := h
 obtain ⟨oo', q1, q2⟩ := ho b oo hb h2
 refine (show bK G' (.optr b off) v from ⟨h1, oo', q1, fun o' e hv => ?_⟩)
 obtain ⟨o, e2, e3⟩ := q2 o' e
 rcases e3 with rfl | e3
 ·exact h3 _ e2 hv
 ·omega
theorem Clo.invoke {P : Program} {cf : FuncId} {z : Code} {nz r5 r2 : Nat} (c : Clo P cf z nz r5 r2) (cap : Array Value) (w : World) : (Go.invoke (.fn (.func cf) cap) #[]).run P w = .ok (.enter cf cap) w := by
 obtain ⟨fz, j0, rc, sa, cl, hf, hbd, hnt, hrs, hname, _⟩ := c.hf
 have k2' : ¬ fz.body = none := by rw [hbd]; simp
 have k3' : ¬ fz.name = "runtime.NumGoroutine" := by simpa using hname
 simp [Go.invoke, callFunc, hf, k2', k3']
theorem mq {P : Program} {f : FuncId} {fn : Func} {i0 i1 : Nat} {l0 : List Oper} {mf df : Oper} {y z : Code} {cf : FuncId} {nz r5 r2 : Nat} {args : List PV} {σ : List OB} {post : PV → List OB → Prop} (n : Nat) (rs : List ResultVar) (ta tb t : Nat) (dc : Call)
  (hf : P.funcs[f]? = some fn) (hb : fn.body = some (.seq (.region i0 l0.toArray false) (.seq (.region i1 [mf, df].toArray false) y))) (hn : fn.ntmps = n) (hr : fn.results.toList = rs)
  (hname : (fn.name == "runtime.NumGoroutine") = false) (hlen : args.length ≤ n)
  (m1 : mf.op = .makeFunc (.func cf) #[] #[.tmp ta, .tmp tb]) (m2 : mf.dst = some t) (m3 : mf.guard = none)
  (d1 : df.op = .defer dc) (d2 : dc.callee = .value (.tmp t)) (d3 : dc.args = #[]) (d4 : df.dst = none) (d5 : df.guard = none)
  (c : Clo P cf z nz r5 r2) (hret : ∀ σ', W P z (KG (KS σ')) (Env.ofList nz σ'.length [(r2, .c .nili), (r5, .c .nili), (0, .x), (1, .x)]) σ')
  (h0 : W P (.region i0 l0.toArray false) (KN fun E σ1 => ∃ ba bb, E.get ta = ⟨true, .c (.optr ba 0)⟩ ∧ E.get tb = ⟨true, .c (.optr bb 0)⟩ ∧ ba < σ1.length ∧ bb < σ1.length ∧ t < E.n ∧
   W P y (KD P z nz r5 r2 rs post ba bb) { E.put t ⟨true, .x⟩ with na := σ1.length } σ1) (Env.ofList n σ.length (dY 0 args)) σ) :
  fw P f args σ post (fun _ _ => False) := by
 refine ⟨⟨fn, hf, by rw [hb]; rfl, hname⟩, fun G w vs hna hds hi hargs => ?_⟩
 have hl := hargs.length
 refine calls_of_wp_defers hf hb ?_
 have hs : Sim G (Env.ofList n σ.length (dY 0 args)) σ { tmps := vs.toArray ++ Array.replicate (fn.ntmps - vs.toArray.size) undef, defers := [] } w := by
  refine ⟨hi, hds.symm, by rw [(eC _ _ _).1, hn]; simp; omega, by rw [(eC _ _ _).2]; exact hna, fun i hc => ?_⟩
  obtain ⟨p, h1, h2⟩ := gM.sim _ i hc
  rw [h2]
  obtain ⟨_, h3⟩ := gw args 0 i p h1
  simp only [Nat.sub_zero] at h3
  obtain ⟨v, hv, hrep⟩ := hargs.get i p h3
  have hlt : i < vs.length := (List.getElem?_eq_some_iff.1 hv).1
  have : (vs.toArray ++ Array.replicate (fn.ntmps - vs.toArray.size) undef).getD i undef = v := by
   rw [Array.getD_eq_getD_getElem?, Array.getElem?_append_left (by simpa using hlt)]
   simp [hv]
  simp only [this]
  exact hrep
 refine wp_seq (Code.wp_mono (fun e a1 w1 hp => ?_) (h0 G _ w hs))
 obtain ⟨G1, E1, σ1, x, p1, p2, p3, p4⟩ := hp
 cases x with
 | ret => exact p4.elim
 | exit i => exact p4.elim
 | panic p => exact p4.elim
 | normal =>
 cases p3
 obtain ⟨ba, bb, ea, eb, hba, hbb, ht, hy⟩ := p4
 show (Code.seq (.region i1 [mf, df].toArray false) y).wp P _ a1 w1
 refine wp_seq (wp_region ?_)
 have hads : a1.defers = [] := p2.defers.trans (by rw [p1.le.w0]; exact hds)
 obtain ⟨va, hva⟩ : ∃ va, va = a1.tmps.getD ta undef := ⟨_, rfl⟩
 obtain ⟨vb, hvb⟩ : ∃ vb, vb = a1.tmps.getD tb undef := ⟨_, rfl⟩
 have ra : ai G1 (.c (.optr ba 0)) va := by have := p2.slot ta (by rw [ea]); rw [ea] at this; rw [hva]; exact this
 have rb : ai G1 (.c (.optr bb 0)) vb := by have := p2.slot tb (by rw [eb]); rw [eb] at this; rw [hvb]; exact this
 have e0 : (execOp a1.eval mf).run P w1 = .ok (.value (.func (.func cf) #[] #[va, vb])) w1 := by
  simp [execOp, m1, Instr.makeFunc, hva, hvb, Act.eval]
 have hts : t < a1.tmps.size := by rw [p2.size]; exact ht
 have e1 : (execOp ({ a1 with tmps := a1.tmps.setIfInBounds t (.func (.func cf) #[] #[va, vb]) } : Act).eval df).run P w1 = .ok (.defer { target := .fn (.func cf) #[va, vb], args := #[] }) w1 := by
  have : ({ a1 with tmps := a1.tmps.setIfInBounds t (.func (.func cf) #[] #[va, vb]) } : Act).eval (.tmp t) = .func (.func cf) #[] #[va, vb] := by
   simp [Act.eval, Array.getD_eq_getD_getElem?, hts]
  simp [execOp, d1, resolve, d2, d3, this, Deferred.ofValue]
 show wpOps P [mf, df].toArray _ [0, 1] a1 w1
 simp only [wpOps, List.getElem?_toArray, List.getElem?_cons_zero, List.getElem?_cons_succ, fM m3, fM d5, if_true, Oper.wp, e0, Oper.upon, m2, Act.put, e1, d4]
 left
 left
 have hlen1 : G1.own.length = σ1.length := p2.inv.len
 have h2 : Sim ({ G1 with w0 := { G1.w0 with ds := [{ target := .fn (.func cf) #[va, vb], args := #[] }] }, na := σ1.length } : Gh) { E1.put t ⟨true, .x⟩ with na := σ1.length } σ1
   { tmps := a1.tmps.setIfInBounds t (.func (.func cf) #[] #[va, vb]), defers := { target := .fn (.func cf) #[va, vb], args := #[] } :: a1.defers } w1 := by
  have q := p2.put t ht ⟨true, .x⟩ (.func (.func cf) #[] #[va, vb]) fun _ => trivial
  have qi := p2.inv
  refine ⟨⟨qi.hH, qi.hF, qi.HF, qi.len, fun b ob h => ?_, qi.inj, qi.sep, qi.os, qi.tape, qi.output, qi.grow⟩, by rw [hads], by have := q.size; simpa [Act.put] using this, rfl, fun i hc => ?_⟩
  ·have := qi.own b ob h
   cases ob with
   | dead => exact this
   | box cs =>
    obtain ⟨o, c, T, j1, j2, j3, j4, j5⟩ := this
    exact ⟨o, c, T, j1, j2, j3, j4, j5.mono fun _ _ h => Rep.mono (G := G1) (fun _ _ h => h) (aE.refl _) h⟩
   | arr => exact this
  ·exact ai.mono (G := G1) (fun _ _ h => h) (aE.refl _) (q.slot i hc)
 refine Code.wp_mono (fun e a w' hp => ?_) (hy _ _ w1 h2)
 obtain ⟨G3, E3, σ3, x, r1, r2', r3, r4⟩ := hp
 have hd3 : a.defers = [{ target := .fn (.func cf) #[va, vb], args := #[] }] := r2'.defers.trans (by rw [r1.le.w0])
 have fin : ∀ (G3 : Gh) (E3 : Env) (σ3 : List OB), Gle ({ G1 with w0 := { G1.w0 with ds := [{ target := .fn (.func cf) #[va, vb], args := #[] }] }, na := σ1.length } : Gh) G3 → Sim G3 E3 σ3 a w' → ∀ (G4 : Gh) (σ4 : List OB) (w4 : World) (C : Prop) (ps : List PV), Gle G3 G4 → aE G3.own G4.own → Inv G4 σ4 w4 → cy P E3 σ4 rs = some (C, ps) → C → ps.all PV.isV = true → post (ci ps) σ4 →
   Leaves P fn a.tmps (fun e w' => ∃ G' σ' p v, Gle G G' ∧ Inv G' σ' w' ∧ ai G' p v ∧ ((e = .returned v ∧ post p σ') ∨ (e = .panicked [{ v := v, recovered := false }] ∧ False))) [] .returning w4 := by
  intro G3 E3 σ3 r1 r2' G4 σ4 w4 C ps t1 t2 t3 t4 t5 t6 t7
  have hs4 : Sim G4 E3 σ4 a w4 := r2'.ghost t3 t1.le.H t1.le.w0 t1.le.na t2
  obtain ⟨v, k1, k2⟩ := ix hs4 hr t4 t5 t6
  refine ⟨v, k1, { G4 with w0 := G.w0, na := G.na }, σ4, ci ps, v, ⟨⟨fun b o h => t1.le.H _ _ (r1.le.H _ _ (p1.le.H _ _ h)), ?_, rfl, rfl⟩, ?_⟩, ?_, ai.mono (G := G4) (fun _ _ h => h) (aE.refl _) k2, .inl ⟨rfl, t7⟩⟩
  ·exact t1.le.F.trans (r1.le.F.trans p1.le.F)
  ·intro b oo hbn hbo
   obtain ⟨o1, u1, u2⟩ := p1.own b oo hbn hbo
   have hb1 : b < σ1.length := by rw [← hlen1]; exact (List.getElem?_eq_some_iff.1 u1).1
   obtain ⟨o3, u3, u4⟩ := r1.own b o1 hb1 u1
   obtain ⟨o4, u5, u6⟩ := t2 b o3 u3
   refine ⟨o4, u5, fun o' eo => ?_⟩
   obtain ⟨oa, w1', w2'⟩ := u6 o' eo
   obtain ⟨ob, w3', w4'⟩ := u4 oa w1'
   obtain ⟨oc, w5', w6'⟩ := u2 ob w3'
   refine ⟨oc, w5', ?_⟩
   rcases w2' with rfl | w2' <;> rcases w4' with rfl | w4' <;> rcases w6' with rfl | w6'
   ·exact .inl rfl
   all_goals first | exact .inr (by omega) | exact .inr w6' | exact .inr w4' | exact .inr w2'
  ·have hw : G4.w0.toWorld = G.w0.toWorld := by
    rw [t1.le.w0, r1.le.w0]
    show G1.w0.toWorld = G.w0.toWorld
    rw [p1.le.w0]
   have h5 := t3
   refine ⟨h5.hH, h5.hF, h5.HF, h5.len, fun b ob h => ?_, h5.inj, h5.sep, by show w4.os = G.w0.toWorld.os; rw [← hw]; exact h5.os, by show w4.tape = G.w0.toWorld.tape; rw [← hw]; exact h5.tape, by show w4.output = G.w0.toWorld.output; rw [← hw]; exact h5.output, by show G.w0.toWorld.heap.size ≤ _; rw [← hw]; exact h5.grow⟩
   have := h5.own b ob h
   cases ob with
   | dead => exact this
   | box cs =>
    obtain ⟨o, c, T, j1, j2, j3, j4, j5⟩ := this
    exact ⟨o, c, T, j1, j2, j3, j4, j5.mono fun _ _ h => Rep.mono (G := G4) (fun _ _ h => h) (aE.refl _) h⟩
   | arr => exact this
 have normal : (match cy P E3 σ3 rs with | some (C, ps) => C ∧ ps.all PV.isV = true ∧ post (ci ps) σ3 | none => False) →
   Leaves P fn a.tmps (fun e w' => ∃ G' σ' p v, Gle G G' ∧ Inv G' σ' w' ∧ ai G' p v ∧ ((e = .returned v ∧ post p σ') ∨ (e = .panicked [{ v := v, recovered := false }] ∧ False))) a.defers .returning w' := by
  intro hk
  split at hk
  ·rename_i C ps hres
   obtain ⟨hC, hv, hpost⟩ := hk
   rw [hd3]
   refine leaves_cons (by intro h; cases h) (c.invoke _ _) (CallsD.mono (kI c (u := .returning) (u2 := .returning) (rv := .nilIface) (rp := .c .nili) (pa := .x) (pb := .x) (KZ := KS σ3)
    (fun c₀ cs h => .inr ⟨by simp [recoverD, h], rfl, rfl⟩) r2'.inv trivial trivial (az.rep .nili) (fun _ _ _ h => h) (fun _ _ _ h => h) (hret σ3)) fun e u' w4 hq => ?_)
   obtain ⟨r, G4, E4, σ4, rfl, rfl, t1, t2, t3, t4⟩ := hq
   have : σ4 = σ3 := by rcases t4 with h | h <;> exact h
   subst this
   exact fin G3 E3 _ r1 r2' G4 _ w4 C ps t1 t2 t3 hres hC hv hpost
  ·exact hk.elim
 cases x with
 | normal => cases r3; exact normal r4
 | ret => cases r3; exact normal r4
 | exit i => exact r4.elim
 | panic p =>
  obtain ⟨v, rfl, hv⟩ := r3
  obtain ⟨l, τ, T, ns, rfl, hless, hz⟩ := r4
  have hv' := lj hv
  obtain ⟨G3', q1, q2⟩ := hless.sim r2'
  have hle3 := r1.trans q1
  have ra3 : ai G3' (.c (.optr ba 0)) va := lM (G := { G1 with w0 := { G1.w0 with ds := [{ target := .fn (.func cf) #[va, vb], args := #[] }] }, na := σ1.length }) (ai.mono (G := G1) (fun _ _ h => h) (aE.refl _) ra) hle3.own hba
  have rb3 : ai G3' (.c (.optr bb 0)) vb := lM (G := { G1 with w0 := { G1.w0 with ds := [{ target := .fn (.func cf) #[va, vb], args := #[] }] }, na := σ1.length }) (ai.mono (G := G1) (fun _ _ h => h) (aE.refl _) rb) hle3.own hbb
  have hv3 : ai G3' (.c (.ifc T true (nsC ns))) v := by rw [hv']; exact az.rep (.ifc T ns)
  show Leaves P fn a.tmps _ a.defers (.panicking [{ v := v, recovered := false }]) w'
  rw [hd3]
  refine leaves_cons (by intro h; cases h) (c.invoke _ _) (CallsD.mono (kI c (u := .panicking [{ v := v, recovered := false }]) (u2 := .panicking [{ v := v, recovered := true }]) (rv := v) (rp := .c (.ifc T true (nsC ns))) (KZ := KZ P rs post (Env.ofList E3.n E3.na l))
   (fun c₀ cs h => .inl (by simp [recoverD, h])) q2.inv ra3 rb3 hv3 (fun _ _ _ h => h) (fun _ _ _ h => h) hz) fun e u' w4 hq => ?_)
  obtain ⟨r, G4, E4, σ4, rfl, rfl, t1, t2, t3, t4⟩ := hq
  have t5 : (match cy P (Env.ofList E3.n E3.na l) σ4 rs with | some (C, ps) => C ∧ ps.all PV.isV = true ∧ post (ci ps) σ4 | none => False) := by rcases t4 with h | h <;> exact h
  split at t5
  ·rename_i C ps hres
   exact fin G3' _ τ hle3 q2 G4 _ w4 C ps t1 t2 t3 hres t5.1 t5.2.1 t5.2.2
  ·exact t5.elim
theorem qY {K : Kt} {x : PX} {E E1 : Env} {σ σ1 : List OB} (hg : dS E σ E1 σ1) (h : KG K x E1 σ1) : KG K x E σ := by
 obtain ⟨E2, σ2, g, k⟩ := h
 exact ⟨E2, σ2, hg.trans g, k⟩
theorem pu {K : Kt} {x : PX} {E : Env} {σ : List OB} (h : K x E σ) : KG K x E σ := ⟨E, σ, dS.refl E σ, h⟩
theorem pO {P : Program} {rs : List ResultVar} {post : PV → List OB → Prop} {E0 E : Env} {σ : List OB} (h : f7 P rs post (fun _ _ => False) .normal E0 σ) : KZ P rs post E0 .normal E σ := h
theorem jd {P : Program} {z : Code} {nz r5 r2 : Nat} {rs : List ResultVar} {post : PV → List OB → Prop} {ba bb : Nat} {E : Env} {σ : List OB} (h : f7 P rs post (fun _ _ => False) .ret E σ) : KD P z nz r5 r2 rs post ba bb .ret E σ := h
end Pam
