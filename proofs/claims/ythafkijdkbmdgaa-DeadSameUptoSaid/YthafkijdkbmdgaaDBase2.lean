/- Regions whose order Go leaves open: evaluated in the order of the text, where the edges allow it. -/
import Derived.Test.YthafkijdkbmdgaaDBase1
set_option linter.all false
namespace Pam
open Go
theorem Env.get_put' (E : Env) (i j : Nat) (e : Ent) (h : i < 512) : (E.put i e).get j = if j = i then e else E.get j := by
  unfold Env.get Env.put
  simp only
  have hb : i / 64 < 8 := by omega
  rw [Tr.get_put _ _ _ _ hb]
  by_cases e1 : j / 64 = i / 64
  · rw [iP e1, Tr.get_put _ _ _ _ (Nat.mod_lt _ (by decide))]
    by_cases e2 : j / 8 % 8 = i / 8 % 8
    · rw [iP e2, Tr.get_put _ _ _ _ (Nat.mod_lt _ (by decide))]
      by_cases e3 : j % 8 = i % 8
      · have : j = i := by omega
        subst this
        simp [Tr.ent]
      · have : j ≠ i := by omega
        rw [iN e3, iN this, e1, e2]
    · have : j ≠ i := by omega
      rw [iN e2, iN this, e1]
  · have : j ≠ i := by omega
    rw [iN e1, iN this]
theorem Env.get_big (E : Env) (i : Nat) (h : 512 ≤ i) : (E.get i).cond = false := by
  unfold Env.get
  rw [Tr.get_big E.t (i / 64) (by omega)]
  simp [Tr.get, Tr.ent]
def gG (o : Oper) : Bool :=
  match o.op with
  | .move _ | .assign _ | .pick .. | .load .. | .nilCheck _ | .binOp .. | .unOp .. | .convert .. | .fieldAddr .. | .field .. | .indexAddr .. | .index .. | .extract .. | .slice .. | .build .. | .makeFunc .. => false
  | .call c => (match c.callee with | .builtin .len | .builtin .min | .builtin .max => false | _ => true)
  | _ => true
def eO (o : Oper) : List Nat := (o.after.toList.filter (Region.binds .any)).map (·.on)
def orM (masks : List Nat) : List Nat → Nat
  | [] => 0
  | j :: r => (2 ^ j ||| masks.getD j 0) ||| orM masks r
theorem pT (masks : List Nat) (k : Nat) : ∀ l, (orM masks l).testBit k = true → ∃ j ∈ l, j = k ∨ (masks.getD j 0).testBit k = true
  | [], h => by simp [orM] at h
  | j :: r, h => by
    simp only [orM, Nat.testBit_or, Bool.or_eq_true, Nat.testBit_two_pow] at h
    rcases h with (h | h) | h
    · exact ⟨j, by simp, .inl (by simpa using h)⟩
    · exact ⟨j, by simp, .inr h⟩
    · obtain ⟨j', h1, h2⟩ := pT masks k r h
      exact ⟨j', by simp [h1], h2⟩
def yd (ops : Array Oper) (x y : Oper) : Bool :=
  match x.dst with
  | none => false
  | some d => (y.looksAt ops).contains d || y.dst == some d
def kV (masks : List Nat) (i j : Nat) : Bool := i == j || (masks.getD i 0).testBit j || (masks.getD j 0).testBit i
def chk (ops : Array Oper) (l : List Oper) (masks : List Nat) (bar : List Bool) : Bool :=
  (l.zipIdx.all fun (o, i) => masks.getD i 0 == orM masks (eO o) && (eO o).all (· < i) &&
    (match o.dst with | some d => decide (d < 512) | none => true) && (o.looksAt ops).all (· < 512)) &&
  (l.zipIdx.all fun (x, i) => l.zipIdx.all fun (y, j) => (!(gG x && gG y) || kV masks i j) && (!(yd ops x y) || kV masks i j) && (!(bar.getD i false) || kV masks i j))
structure TS where
  γ : Bool
  e : Ent
  σ : List OB
def Ext (σ σ' : List OB) : Prop := ∃ ρ, σ' = σ ++ ρ
def kO (P : Program) (σ : List OB) (f : FuncId) (args : List PV) (p : PV) (σ2 : List OB) : Prop :=
  ∃ (args' : List PV) (σc : List OB) (post pp : PV → List OB → Prop) (ρ : List Nat), eD P f args' σc post pp ∧ ρ.Nodup ∧ (∀ b ∈ ρ, b < σ.length) ∧ args = args'.map (PV.ren (df σ.length ρ)) ∧
    ρ.map (fun b => σ[b]?) = σc.map (fun ob => some (ob.ren (df σ.length ρ))) ∧ fC ρ.length args' ∧ ck ρ.length σc ∧
    (∀ q τ, post q τ → ρ.length ≤ τ.length → q.ren (df σ.length ρ) = p ∧ cV σ ρ (τ.map (OB.ren (df σ.length ρ))) = σ2) ∧ (∀ q τ, pp q τ → False)
def zc (P : Program) (ops : Array Oper) (E : Env) (σ : List OB) (o : Oper) (bar : Bool) (ts : TS) : Prop :=
  dZ ops E o.guard = some ts.γ ∧ dk E o.dst ∧
  ((∃ C v, bI P ts.γ E σ o.op = .ok C v ∧ C ∧ ts.e = ⟨ts.γ, v⟩ ∧ ts.σ = σ) ∨
   (ts.γ = true ∧ ∃ C v, bI P ts.γ E σ o.op = .upd C v ts.σ ∧ C ∧ ts.e = ⟨true, v⟩ ∧ (bar = true ∨ Ext σ ts.σ)) ∨
   (∃ C f args r, bI P ts.γ E σ o.op = .call C f args ∧ (ts.γ = true → C ∧ cd P f args r) ∧ args.all PV.noOwn = true ∧ (∀ n, r.ren (df n []) = r) ∧ ts.e = ⟨ts.γ, r⟩ ∧ ts.σ = σ) ∨
   (ts.γ = false ∧ ts.e = ⟨true, .t []⟩ ∧ ts.σ = σ) ∨
   (ts.γ = true ∧ ∃ C f args p, bI P ts.γ E σ o.op = .call C f args ∧ C ∧ kO P σ f args p ts.σ ∧ ts.e = ⟨true, p⟩ ∧ (bar = true ∨ Ext σ ts.σ)) ∨
   (ts.γ = true ∧ gG o = true ∧ ∃ v, (∀ E', (∀ x ∈ o.op.operands, ev E' x = ev E x) → ∀ G a w, Sim G E' σ a w → ur P G (execOp a.eval o) w v ts.σ) ∧ ts.e = ⟨true, v⟩ ∧ (bar = true ∨ Ext σ ts.σ)))
def nZ (P : Program) (ops : Array Oper) : List Oper → List Bool → Env → List OB → List TS → Prop
  | [], _, _, _, tr => tr = []
  | o :: l, bs, E, σ, tr => ∃ ts r, tr = ts :: r ∧ zc P ops E σ o (bs.headD false) ts ∧ nZ P ops l bs.tail (E.putD o.dst ts.e) ts.σ r
def cW (E : Env) : List Oper → List TS → Nat → Env
  | o :: l, ts :: tr, k + 1 => cW (E.putD o.dst ts.e) l tr k
  | _, _, _ => E
def aY (σ : List OB) : List TS → Nat → List OB
  | ts :: tr, k + 1 => aY ts.σ tr k
  | _, _ => σ
def f8 (t : Tmp) : List Oper → List TS → (Nat → Bool) → Ent → Ent
  | o :: l, ts :: tr, d, e => f8 t l tr (fun j => d (j + 1)) (if d 0 = true ∧ o.dst = some t then ts.e else e)
  | _, _, _, e => e
section
variable {P : Program} {ops : Array Oper}
theorem nZ.at : ∀ {l : List Oper} {bs : List Bool} {E : Env} {σ : List OB} {tr : List TS}, nZ P ops l bs E σ tr → tr.length = l.length ∧
    ∀ (i : Nat) (o : Oper), l[i]? = some o → ∃ ts, tr[i]? = some ts ∧ zc P ops (cW E l tr i) (aY σ tr i) o (bs.getD i false) ts ∧ aY σ tr (i + 1) = ts.σ
  | [], bs, E, σ, tr, h => by simp only [nZ] at h; subst h; exact ⟨rfl, fun i o h => by simp at h⟩
  | o :: l, bs, E, σ, tr, h => by
    obtain ⟨ts, r, rfl, h1, h2⟩ := h
    obtain ⟨h3, h4⟩ := nZ.at h2
    refine ⟨by simp [h3], fun i o' ho => ?_⟩
    cases i with
    | zero =>
      simp only [List.getElem?_cons_zero, sJ] at ho
      subst ho
      refine ⟨ts, rfl, ?_, ?_⟩
      · cases bs <;> exact h1
      · cases r <;> rfl
    | succ i =>
      obtain ⟨ts', k1, k2, k3⟩ := h4 i o' (by simpa using ho)
      refine ⟨ts', by simpa using k1, ?_, ?_⟩
      · cases bs <;> simpa [cW, aY] using k2
      · simpa [aY] using k3
theorem ip (t : Tmp) : ∀ (l : List Oper) (tr : List TS) (d d' : Nat → Bool) (e : Ent), (∀ j o, l[j]? = some o → o.dst = some t → d j = d' j) → f8 t l tr d e = f8 t l tr d' e
  | [], tr, d, d', e, _ => by simp [f8]
  | o :: l, [], d, d', e, _ => by simp [f8]
  | o :: l, ts :: tr, d, d', e, h => by
    simp only [f8]
    have : (if d 0 = true ∧ o.dst = some t then ts.e else e) = (if d' 0 = true ∧ o.dst = some t then ts.e else e) := by
      by_cases ho : o.dst = some t
      · rw [h 0 o (by simp) ho]
      · simp [ho]
    rw [this]
    exact ip t l tr _ _ _ fun j o' hj hd => h (j + 1) o' (by simpa using hj) hd
theorem lB (t : Tmp) (l : List Oper) (tr : List TS) (d : Nat → Bool) (e : Ent) (h : ∀ j o, l[j]? = some o → o.dst = some t → d j = false) : f8 t l tr d e = e := by
  rw [ip t l tr d (fun _ => false) e h]
  clear h
  induction l generalizing tr e with
  | nil => simp [f8]
  | cons o l ih =>
    cases tr with
    | nil => simp [f8]
    | cons ts tr => simp only [f8]; rw [ih]; simp
theorem tG (t : Tmp) : ∀ (l : List Oper) (tr : List TS) (d : Nat → Bool) (e : Ent) (i : Nat) (o : Oper) (ts : TS), l[i]? = some o → tr[i]? = some ts → o.dst = some t →
    (∀ j o', l[j]? = some o' → o'.dst = some t → i < j → d j = false) → f8 t l tr (fun j => if j = i then true else d j) e = ts.e
  | [], tr, d, e, i, o, ts, h, _, _, _ => by simp at h
  | x :: l, [], d, e, i, o, ts, _, h, _, _ => by simp at h
  | x :: l, y :: tr, d, e, i, o, ts, h1, h2, h3, h4 => by
    simp only [f8]
    cases i with
    | zero =>
      simp only [List.getElem?_cons_zero, sJ] at h1 h2
      subst h1; subst h2
      rw [lB]
      · simp [h3]
      · intro j o' hj hd
        simp only [Nat.add_eq_zero_iff, Nat.one_ne_zero, and_false, if_false]
        exact h4 (j + 1) o' (by simpa using hj) hd (by omega)
    | succ i =>
      have := tG t l tr (fun j => d (j + 1)) (if (if 0 = i + 1 then true else d 0) = true ∧ x.dst = some t then y.e else e) i o ts (by simpa using h1) (by simpa using h2) h3
        (fun j o' hj hd hij => h4 (j + 1) o' (by simpa using hj) hd (by omega))
      rw [← this]
      apply ip
      intro j o' _ _
      simp
theorem qZ (t : Tmp) (l : List Oper) (tr : List TS) (d : Nat → Bool) (e : Ent) (i : Nat) (o : Oper) (h : l[i]? = some o) (hd : o.dst ≠ some t) : f8 t l tr (fun j => if j = i then true else d j) e = f8 t l tr d e := by
  apply ip
  intro j o' hj hdj
  by_cases e : j = i
  · subst e; rw [h] at hj; simp only [sJ] at hj; subst hj; exact (hd hdj).elim
  · simp [e]
theorem zd (E : Env) (d : Option Tmp) (e : Ent) (t : Tmp) (h : ∀ x, d = some x → x < 512) : (E.putD d e).get t = if d = some t then e else E.get t := by
  cases d with
  | none => simp [Env.putD]
  | some x =>
    simp only [Env.putD]
    rw [Env.get_put' E x t e (h x rfl)]
    by_cases he : t = x
    · subst he; simp
    · have : x ≠ t := fun h => he h.symm
      simp [he, this]
theorem qt (t : Tmp) : ∀ (l : List Oper) (tr : List TS) (E : Env) (k : Nat), (∀ (j : Nat) (o : Oper) (x : Nat), l[j]? = some o → o.dst = some x → x < 512) → tr.length = l.length → (cW E l tr k).get t = f8 t l tr (fun j => decide (j < k)) (E.get t)
  | [], tr, E, k, _, _ => by cases k <;> simp [cW, f8]
  | o :: l, [], E, k, _, h => by simp at h
  | o :: l, ts :: tr, E, 0, _, _ => by
    simp only [cW]
    rw [lB]
    intro j o' _ _; simp
  | o :: l, ts :: tr, E, k + 1, hx, h => by
    simp only [cW, f8]
    rw [qt t l tr _ k (fun j o' x hj hd => hx (j + 1) o' x (by simpa using hj) hd) (by simpa using h)]
    rw [zd _ _ _ _ (fun x hd => hx 0 o x (by simp) hd)]
    have e1 : (fun j => decide (j + 1 < k + 1)) = (fun j => decide (j < k)) := by funext j; simp
    simp [e1]
theorem pr {γ : Bool} {E : Env} {σ : List OB} {o : Oper} (h : gG o = false) : (∀ C v σ', bI P γ E σ o.op ≠ .upd C v σ') ∧ ∀ C f args, bI P γ E σ o.op ≠ .call C f args := by
  unfold gG at h
  constructor
  · intro C v σ' hr
    cases hop : o.op
    all_goals (rw [hop] at h hr; simp only [bI] at hr; try (simp at h; done))
    case move => cases hr
    case assign => cases hr
    case pick => unfold oW at hr; split at hr <;> cases hr
    case build => unfold mW at hr; split at hr <;> first | cases hr | (split at hr <;> cases hr)
    case load => unfold lv at hr; split at hr <;> first | cases hr | (split at hr <;> cases hr)
    case nilCheck => unfold gf at hr; split at hr <;> cases hr
    case binOp => unfold jC at hr; split at hr <;> first | cases hr | (split at hr <;> first | cases hr | (split at hr <;> first | cases hr | (split at hr <;> cases hr)))
    case unOp => unfold unR at hr; split at hr <;> cases hr
    case convert => unfold oX at hr; split at hr <;> cases hr
    case fieldAddr => unfold dP at hr; split at hr <;> cases hr
    case field => unfold mV at hr; split at hr <;> cases hr
    case indexAddr => unfold dl at hr; split at hr <;> first | cases hr | (split at hr <;> cases hr)
    case index => unfold kL at hr; split at hr <;> cases hr
    case extract => unfold jF at hr; split at hr <;> cases hr
    case slice =>
      unfold kM at hr
      split at hr
      · split at hr
        · split at hr
          · split at hr <;> cases hr
          · cases hr
        · cases hr
      · split at hr <;> first | cases hr | (split at hr <;> first | cases hr | (split at hr <;> cases hr))
    case makeFunc => unfold iM at hr; split at hr <;> cases hr
    case call c =>
      split at hr
      · simp_all
      · rename_i b hb
        simp only [hb] at h
        unfold fA at hr
        split at hr
        · unfold oO at hr; split at hr <;> cases hr
        · simp at h
        · unfold fw at hr; split at hr <;> cases hr
        · unfold fw at hr; split at hr <;> cases hr
        · cases hr
      · cases hr
  · intro C f args hr
    cases hop : o.op
    all_goals (rw [hop] at h hr; simp only [bI] at hr; try (simp at h; done))
    case move => cases hr
    case assign => cases hr
    case pick => unfold oW at hr; split at hr <;> cases hr
    case build => unfold mW at hr; split at hr <;> first | cases hr | (split at hr <;> cases hr)
    case load => unfold lv at hr; split at hr <;> first | cases hr | (split at hr <;> cases hr)
    case nilCheck => unfold gf at hr; split at hr <;> cases hr
    case binOp => unfold jC at hr; split at hr <;> first | cases hr | (split at hr <;> first | cases hr | (split at hr <;> first | cases hr | (split at hr <;> cases hr)))
    case unOp => unfold unR at hr; split at hr <;> cases hr
    case convert => unfold oX at hr; split at hr <;> cases hr
    case fieldAddr => unfold dP at hr; split at hr <;> cases hr
    case field => unfold mV at hr; split at hr <;> cases hr
    case indexAddr => unfold dl at hr; split at hr <;> first | cases hr | (split at hr <;> cases hr)
    case index => unfold kL at hr; split at hr <;> cases hr
    case extract => unfold jF at hr; split at hr <;> cases hr
    case slice =>
      unfold kM at hr
      split at hr
      · split at hr
        · split at hr
          · split at hr <;> cases hr
          · cases hr
        · cases hr
      · split at hr <;> first | cases hr | (split at hr <;> first | cases hr | (split at hr <;> cases hr))
    case makeFunc => unfold iM at hr; split at hr <;> cases hr
    case call c =>
      split at hr
      · simp_all
      · rename_i b hb
        unfold fA at hr
        split at hr
        · unfold oO at hr; split at hr <;> cases hr
        · split at hr
          · unfold kh at hr
            split at hr
            · cases hr
            · split at hr <;> first | cases hr | (split at hr <;> cases hr)
          · cases hr
        · unfold fw at hr; split at hr <;> cases hr
        · unfold fw at hr; split at hr <;> cases hr
        · cases hr
      · cases hr
end
end Pam
namespace Pam
open Go
section
variable {P:Program} {ops:Array Oper}
theorem ze {E E':Env} {ts:List Tmp} (h:∀ t∈ts,E.get t = E'.get t) (x:Operand) (hx:∀ t,x = .tmp t→t∈ts):ev E x = ev E' x:=by
 cases x with
 | tmp t=>exact h t (hx t rfl)
 | _=>rfl
theorem pU {E E':Env} (l:List Operand) (h:∀ x∈l,ev E x = ev E' x):l.map (ev E) = l.map (ev E'):=List.map_congr_left h
theorem m6 {γ:Bool} {E E':Env} {σ:List OB} (op:Op) (h:∀ x∈op.operands,ev E x = ev E' x):bI P γ E σ op = bI P γ E' σ op:=by
 cases op
 case move x=>simp only [bI];rw [h x (by simp [Op.operands])]
 case assign x=>simp only [bI];rw [h x (by simp [Op.operands])]
 case pick c a b=>simp only [bI];rw [h c (by simp [Op.operands]),h a (by simp [Op.operands]),h b (by simp [Op.operands])]
 case box T x=>simp only [bI];rw [h x (by simp [Op.operands])]
 case build T parts =>
  simp only [bI,qU]
  rw [List.map_congr_left]
  intro p hp
  rw [h p.2 (by simp only [Op.operands,List.mem_toArray,List.mem_map];exact ⟨p,hp,rfl⟩)]
 case buildSlice T len parts =>
  simp only [bI,qU]
  rw [List.map_congr_left]
  intro p hp
  rw [h p.2 (by simp only [Op.operands,List.mem_toArray,List.mem_map];exact ⟨p,hp,rfl⟩)]
 case load T x=>simp only [bI];rw [h x (by simp [Op.operands])]
 case store T x y=>simp only [bI];rw [h x (by simp [Op.operands]),h y (by simp [Op.operands])]
 case nilCheck x=>simp only [bI];rw [h x (by simp [Op.operands])]
 case binOp op T x y T'=>simp only [bI];rw [h x (by simp [Op.operands]),h y (by simp [Op.operands])]
 case unOp op T x=>simp only [bI];rw [h x (by simp [Op.operands])]
 case convert s d x=>simp only [bI];rw [h x (by simp [Op.operands])]
 case fieldAddr T x i=>simp only [bI];rw [h x (by simp [Op.operands])]
 case field T x i=>simp only [bI];rw [h x (by simp [Op.operands])]
 case indexAddr T x i=>simp only [bI];rw [h x (by simp [Op.operands]),h i (by simp [Op.operands])]
 case index T x i=>simp only [bI];rw [h x (by simp [Op.operands]),h i (by simp [Op.operands])]
 case extract x i=>simp only [bI];rw [h x (by simp [Op.operands])]
 case slice T x lo hi mx =>
  simp only [bI]
  rw [h x (by simp [Op.operands])]
  have hl:∀ o:Option Operand,(∀ y,o = some y→ev E y = ev E' y)→o.map (ev E) = o.map (ev E'):=by
   intro o ho;cases o with
   | none=>rfl
   | some y=>simp [ho y rfl]
  rw [hl lo fun y hy=>h y (by simp [Op.operands,hy]),hl hi fun y hy=>h y (by simp [Op.operands,hy]),hl mx fun y hy=>h y (by simp [Op.operands,hy])]
 case makeSlice T x y=>simp only [bI];rw [h x (by simp [Op.operands]),h y (by simp [Op.operands])]
 case makeFunc fn first caps =>
  simp only [bI]
  rw [pU]
  intro x hx
  exact h x (by simp only [Op.operands,Array.mem_append];right;simpa using hx)
 case call c =>
  simp only [bI]
  have hargs:c.args.toList.map (ev E) = c.args.toList.map (ev E'):=pU _ fun x hx=>h x (by simp only [Op.operands,Call.operands,Array.mem_append];right;simpa using hx)
  rw [hargs]
  split
  ·rename_i f hf
   rw [h f (by simp only [Op.operands,Call.operands,Array.mem_append];left;simp [hf])]
  ·rfl
  ·rfl
 all_goals rfl
theorem th {E E':Env} (o:Oper) (h:∀ t∈o.looksAt ops,E.get t = E'.get t):dZ ops E o.guard = dZ ops E' o.guard:=by
 unfold dZ
 cases hg:o.guard with
 | none=>rfl
 | some jw =>
  obtain ⟨j,want⟩:=jw
  simp only
  cases ho:ops[j]? with
  | none=>rfl
  | some o' =>
   simp only
   cases hd:o'.dst with
   | none=>rfl
   | some d =>
    simp only
    rw [h d (by simp [Oper.looksAt,hg,ho,hd])]
def m7:PV→Option Nat
 | .c (.optr b _)=>some b
 | .c (.osl b _ _ _)=>some b
 | .c (.oel b _ _ _)=>some b
 | _=>none
theorem wu {σ σ':List OB} {c:CV} (h:∀ b ob,m7 (.c c) = some b→σ[b]? = some ob→σ'[b]? = some ob) (ha:d8 σ c):d8 σ' c:=by
 cases c <;> simp only [d8] at ha ⊢
 all_goals
  split at ha
  ·rename_i hb;rw [h _ _ rfl hb];exact ha
  ·exact ha.elim
theorem ye {E:Env} {σ σ':List OB} {op:Op} {C:Prop} {v:PV} (h:bI P true E σ op = .ok C v) (hC:C)
  (hh:∀ x,(ev E x).cond = true→∀ b ob,m7 (ev E x).v = some b→σ[b]? = some ob→σ'[b]? = some ob):∃ C',bI P true E σ' op = .ok C' v∧C':=by
 have al:∀ x c,(ev E x).v = .c c→aN true (ev E x)→d8 σ c→d8 σ' c:=fun x c hv hn ha=>wu (fun b ob ht hb=>hh x (hn rfl) b ob (by rw [hv];exact ht) hb) ha
 have wd:∀ x b ver lo len s,(ev E x).v = .c (.osl b ver lo len)→aN true (ev E x)→tz σ b s→tz σ' b s:=by
  intro x b ver lo len s hv hn ha
  unfold tz at ha ⊢
  cases hb:σ[b]? with
  | none=>rw [hb] at ha;exact ha.elim
  | some ob=>rw [hh x (hn rfl) b ob (by rw [hv];rfl) hb];rw [hb] at ha;exact ha
 cases op
 case load T x =>
  simp only [bI,lv] at h ⊢
  split at h
  ·rename_i b off hv
   split at h
   ·rename_i cs hb
    simp only [R.ok.injEq] at h;obtain ⟨rfl,rfl⟩:=h
    have:=hh x (hC.1 rfl) b _ (by rw [hv];rfl) hb
    exact ⟨_,by first | rfl | (simp only [hv,this];done) | (simp only [hv,this];rfl) | (simp only [this];done) | (simp only [this];rfl),hC⟩
   ·cases h
  ·rename_i s es i j hv
   exact ⟨C,by first | exact h | (simp only [hv];exact h),hC⟩
  ·rename_i b ver i j hv
   split at h
   ·rename_i s ver' T' es hb
    simp only [R.ok.injEq] at h;obtain ⟨rfl,rfl⟩:=h
    have:=hh x (hC.1 rfl) b _ (by rw [hv];rfl) hb
    exact ⟨_,by first | rfl | (simp only [hv,this];done) | (simp only [hv,this];rfl) | (simp only [this];done) | (simp only [this];rfl),hC⟩
   ·cases h
  ·cases h
 case nilCheck x =>
  simp only [bI,gf] at h ⊢
  split at h
  ·rename_i b off hv
   simp only [R.ok.injEq] at h;obtain ⟨rfl,rfl⟩:=h
   refine ⟨_,by first | rfl | (simp only [hv];done) | (simp only [hv];rfl),?_⟩
   exact ⟨hC.1,al x _ hv hC.1 hC.2⟩
  ·rename_i hv;exact ⟨C,by first | exact h | (simp only [hv];exact h),hC⟩
  ·rename_i b ver i j hv
   simp only [R.ok.injEq] at h;obtain ⟨rfl,rfl⟩:=h
   refine ⟨_,by first | rfl | (simp only [hv];done) | (simp only [hv];rfl),?_⟩
   exact ⟨hC.1,al x _ hv hC.1 hC.2⟩
  ·cases h
 case fieldAddr T x i =>
  simp only [bI,dP] at h ⊢
  split at h
  ·rename_i b off hv
   simp only [R.ok.injEq] at h;obtain ⟨rfl,rfl⟩:=h
   refine ⟨_,by first | rfl | (simp only [hv];done) | (simp only [hv];rfl),?_⟩
   exact ⟨hC.1,al x _ hv hC.1 hC.2.1,hC.2.2⟩
  ·rename_i hv;exact ⟨C,by first | exact h | (simp only [hv];exact h),hC⟩
  ·rename_i b ver k j hv
   simp only [R.ok.injEq] at h;obtain ⟨rfl,rfl⟩:=h
   refine ⟨_,by first | rfl | (simp only [hv];done) | (simp only [hv];rfl),?_⟩
   exact ⟨hC.1,al x _ hv hC.1 hC.2.1,hC.2.2⟩
  ·cases h
 case indexAddr T x i =>
  simp only [bI,dl] at h ⊢
  split at h
  ·rename_i hv hv2;exact ⟨C,by first | exact h | (simp only [hv,hv2];exact h),hC⟩
  ·rename_i b ver lo len k n hv hv2
   split at h
   ·rename_i s ver' T' es hb
    simp only [R.ok.injEq] at h;obtain ⟨rfl,rfl⟩:=h
    have:=hh x (hC.1 rfl) b _ (by rw [hv];rfl) hb
    exact ⟨_,by first | rfl | (simp only [hv,hv2,this];done) | (simp only [hv,hv2,this];rfl) | (simp only [this];done) | (simp only [this];rfl),hC⟩
   ·cases h
  ·rename_i b off k n hv hv2
   simp only [R.ok.injEq] at h;obtain ⟨rfl,rfl⟩:=h
   refine ⟨_,by first | rfl | (simp only [hv,hv2];done) | (simp only [hv,hv2];rfl),?_⟩
   exact ⟨hC.1,hC.2.1,al x _ hv hC.1 hC.2.2.1,hC.2.2.2⟩
  ·rename_i b ver k j k0 n hv hv2
   split at h
   ·rename_i s ver' T' es hb
    simp only [R.ok.injEq] at h;obtain ⟨rfl,rfl⟩:=h
    have:=hh x (hC.1 rfl) b _ (by rw [hv];rfl) hb
    exact ⟨_,by first | rfl | (simp only [hv,hv2,this];done) | (simp only [hv,hv2,this];rfl) | (simp only [this];done) | (simp only [this];rfl),hC⟩
   ·cases h
  ·rename_i hv hv2;exact ⟨C,by first | exact h | (simp only [hv,hv2];exact h),hC⟩
  ·cases h
 case slice T x lo hi mx =>
  simp only [bI,kM] at h ⊢
  split at h
  ·rename_i m hm
   exact ⟨C,by first | exact h | (simp only [hm];exact h),hC⟩
  ·rename_i hm
   split at h
   ·rename_i s es hv
    split at h
    ·rename_i e1 e2;exact ⟨C,by first | exact h | (simp only [hm,hv,e1,e2];exact h),hC⟩
    ·cases h
   ·rename_i b ver lo0 len hv
    split at h
    ·rename_i hlo
     split at h
     ·rename_i _ _ e2
      simp only [R.ok.injEq] at h;obtain ⟨rfl,rfl⟩:=h
      refine ⟨_,by first | rfl | (simp only [hm,hv,hlo,e2];done) | (simp only [hm,hv,hlo,e2];rfl),?_⟩
      exact ⟨hC.1,hC.2.1,al x _ hv hC.1 hC.2.2.1,hC.2.2.2⟩
     ·cases h
    ·rename_i q hlo
     split at h
     ·rename_i _ _ _ _ e1 e2
      simp only [R.ok.injEq] at h;obtain ⟨rfl,rfl⟩:=h
      refine ⟨_,by first | rfl | (simp only [hm,hv,hlo,e1,e2];done) | (simp only [hm,hv,hlo,e1,e2];rfl),?_⟩
      exact ⟨hC.1,hC.2.1,hC.2.2.1,al x _ hv hC.1 hC.2.2.2.1,hC.2.2.2.2.1,hC.2.2.2.2.2.1,wd x _ _ _ _ _ hv hC.1 hC.2.2.2.2.2.2.1,hC.2.2.2.2.2.2.2⟩
     ·cases h
   ·rename_i s hv
    split at h
    ·rename_i e1 e2;exact ⟨C,by first | exact h | (simp only [hm,hv,e1,e2];exact h),hC⟩
    ·cases h
   ·rename_i hv
    exact ⟨C,by first | exact h | (simp only [hm,hv];exact h),hC⟩
   ·cases h
 case call c =>
  simp only [bI] at h ⊢
  split at h
  ·unfold rO at h;split at h <;> cases h
  ·rename_i b hcal
   try simp only [hcal]
   unfold fA at h ⊢
   split at h
   ·rename_i T x hts hxs
    try simp only [hts,hxs]
    have hx:∃ X,x = ev E X:=by
     have:x∈c.args.toList.map (ev E):=by rw [hxs];simp
     obtain ⟨X,_,hX⟩:=List.mem_map.1 this
     exact ⟨X,hX.symm⟩
    obtain ⟨X,rfl⟩:=hx
    unfold oO at h ⊢
    split at h
    ·rename_i hv;exact ⟨C,by first | exact h | (simp only [hv];exact h),hC⟩
    ·rename_i b ver lo len hv
     simp only [R.ok.injEq] at h;obtain ⟨rfl,rfl⟩:=h
     refine ⟨_,by first | rfl | (simp only [hv];done) | (simp only [hv];rfl),?_⟩
     exact ⟨hC.1,al X _ hv hC.1 hC.2.1,hC.2.2⟩
    ·rename_i hv;exact ⟨C,by first | exact h | (simp only [hv];exact h),hC⟩
    ·rename_i hv;exact ⟨C,by first | exact h | (simp only [hv];exact h),hC⟩
    ·rename_i hv;exact ⟨C,by first | exact h | (simp only [hv];exact h),hC⟩
    ·rename_i hv;exact ⟨C,by first | exact h | (simp only [hv];exact h),hC⟩
    ·cases h
   ·split at h
    ·unfold kh at h
     split at h
     ·cases h
     ·split at h <;> first | cases h | (split at h <;> cases h)
    ·cases h
   ·rename_i hxs;exact ⟨C,by first | exact h | (simp only [hxs];exact h),hC⟩
   ·rename_i hxs;exact ⟨C,by first | exact h | (simp only [hxs];exact h),hC⟩
   ·cases h
  ·cases h
 all_goals first
  | exact ⟨C,h,hC⟩
  | (simp only [bI] at h;unfold lw at h;split at h <;> cases h)
  | (simp only [bI] at h;unfold uo at h;cases h)
  | (simp only [bI] at h;unfold fv at h;split at h <;> first | cases h | (split at h <;> cases h))
  | (simp only [bI] at h;unfold mh at h;split at h <;> first | cases h | (split at h <;> cases h))
  | (simp only [bI] at h;unfold gJ at h;split at h <;> cases h)
  | cases h
theorem sa {E:Env} {σ σ':List OB} {γ:Bool} {op:Op} {C:Prop} {f:FuncId} {args:List PV} (h:bI P γ E σ op = .call C f args):bI P γ E σ' op = .call C f args:=by
 cases op
 case call c =>
  simp only [bI] at h ⊢
  split at h
  ·exact h
  ·unfold fA at h
   split at h
   ·unfold oO at h;split at h <;> cases h
   ·split at h
    ·unfold kh at h
     split at h
     ·cases h
     ·split at h <;> first | cases h | (split at h <;> cases h)
    ·cases h
   ·unfold fw at h;split at h <;> cases h
   ·unfold fw at h;split at h <;> cases h
   ·cases h
  ·cases h
 case load=>simp only [bI] at h;unfold lv at h;split at h <;> first | cases h | (split at h <;> cases h)
 case nilCheck=>simp only [bI] at h;unfold gf at h;split at h <;> cases h
 case fieldAddr=>simp only [bI] at h;unfold dP at h;split at h <;> cases h
 case indexAddr=>simp only [bI] at h;unfold dl at h;split at h <;> first | cases h | (split at h <;> cases h)
 case slice =>
  simp only [bI] at h
  unfold kM at h
  split at h
  ·split at h
   ·split at h
    ·split at h <;> cases h
    ·cases h
   ·cases h
  ·split at h <;> first | cases h | (split at h <;> first | cases h | (split at h <;> cases h))
 case alloc=>simp only [bI] at h;unfold lw at h;split at h <;> cases h
 case box=>simp only [bI] at h;unfold uo at h;cases h
 case buildSlice=>simp only [bI] at h;unfold fv at h;split at h <;> first | cases h | (split at h <;> cases h)
 case store=>simp only [bI] at h;unfold mh at h;split at h <;> first | cases h | (split at h <;> cases h)
 case makeSlice=>simp only [bI] at h;unfold gJ at h;split at h <;> cases h
 all_goals exact h
end
end Pam
namespace Pam
open Go
section
variable {P:Program}
theorem yf {G:Gh} {E:Env} {σ:List OB} {a:Act} {w:World} {C:Prop} {f:FuncId} {args:List PV} {res:PV} {K:Act→World→Prop} {Q:Exit→Act→World→Prop} (hsim:Sim G E σ a w) (o:Oper)
  (hrun:bI P true E σ o.op = .call C f args) (hC:C) (hs:cd P f args res) (hargs:args.all PV.noOwn = true) (hres:∀ n,res.ren (df n []) = res)
  (next:∀ G' w' v,Gle G G'→bD G.own G'.own→Inv G' σ w'→aX G' res v→K (a.put o.dst v) w'):o.wp P a w K Q:=by
 have ha:args.map (PV.ren (df σ.length [])) = args∧fC 0 args:=by
  clear hs hrun
  induction args with
  | nil=>exact ⟨rfl,trivial⟩
  | cons p l ih =>
   simp only [List.all_cons,Bool.and_eq_true] at hargs
   obtain ⟨h1,h2⟩:=PV.noOwn_ren hargs.1 (df σ.length [])
   obtain ⟨h3,h4⟩:=ih hargs.2
   exact ⟨by simp [h1,h3],h2 0,h4⟩
 obtain ⟨hf,hcall⟩:=hs
 obtain ⟨vs,e1,e2⟩:=qs hsim rfl o hrun hC hf
 have hi:=hsim.inv
 have hnd:([]:List Nat).Nodup:=List.nodup_nil
 have hlt:∀ b∈([]:List Nat),b < σ.length:=by simp
 have hci:Inv (cF G w []) [] w:=pq (σc:=[]) hi hnd hlt rfl (fun k ob h=>by simp at h) trivial
 have hown:=lA (w:=w) hi hlt
 rw [← ha.1] at e2
 have hcv:=hcall (cF G w []) w vs (by simp [cF]) rfl hci (aR.unmapP (G:=G) (G':=cF G w []) rfl _ hown ha.2 e2)
 unfold Oper.wp
 rw [e1]
 refine hcv.mono fun e w' hr=>?_
 obtain ⟨G',σ',p,v,h1,h2,h3,h4⟩:=hr
 rcases h4 with ⟨rfl,rfl,rfl⟩ | ⟨_,h4⟩
 ·obtain ⟨G'',g1,g2,g3,g4⟩:=nY hi hnd hlt h1 h2 (by simp)
  have g5:=g4 _ v h3
  rw [hres] at g5
  exact next G'' w' v g1 g2 (by simpa [cV] using g3) g5
 ·exact h4.elim
theorem wv {G:Gh} {E:Env} {σ σ2:List OB} {a:Act} {w:World} {C:Prop} {f:FuncId} {args:List PV} {res:PV} {K:Act→World→Prop} {Q:Exit→Act→World→Prop} (hsim:Sim G E σ a w) (o:Oper)
  (hrun:bI P true E σ o.op = .call C f args) (hC:C) (hs:kO P σ f args res σ2)
  (next:∀ G' w' v,Gle G G'→(∀ b o,G.H b = some o→G'.H b = some o)→bD G.own G'.own→Inv G' σ2 w'→aX G' res v→K (a.put o.dst v) w'):o.wp P a w K Q:=by
 obtain ⟨args',σc,post,pp,ρ,⟨hf,hcall⟩,hnd,hlt,hargs,hσ,hu,hub,hpost,hpp⟩:=hs
 obtain ⟨vs,e1,e2⟩:=qs hsim rfl o hrun hC hf
 have hi:=hsim.inv
 have hlen:σc.length = ρ.length:=by have:=congrArg List.length hσ;simpa using this.symm
 have hσ':∀ (k:Nat) (ob:OB),σc[k]? = some ob→∃ b,ρ[k]? = some b∧σ[b]? = some (ob.ren (df σ.length ρ)):=by
  intro k ob h
  have hk:k < ρ.length:=by rw [← hlen];exact (List.getElem?_eq_some_iff.1 h).1
  have:=congrArg (fun l=>l[k]?) hσ
  simp only [List.getElem?_map,h,Option.map_some,List.getElem?_eq_getElem hk,sJ] at this
  exact ⟨ρ[k],List.getElem?_eq_getElem hk,this⟩
 have hci:=pq hi hnd hlt hlen hσ' hub
 have hown:=lA (w:=w) hi hlt
 rw [hargs] at e2
 have hcv:=hcall (cF G w ρ) w vs (by simp [cF,hlen]) rfl hci (aR.unmapP (G:=G) (G':=cF G w ρ) rfl _ hown hu e2)
 unfold Oper.wp
 rw [e1]
 refine hcv.mono fun e w' hres=>?_
 obtain ⟨G',σ',p,v,h1,h2,h3,h4⟩:=hres
 have hl:ρ.length ≤ σ'.length:=by
  rw [← h2.len]
  rcases Nat.eq_zero_or_pos ρ.length with e0 | e0
  ·omega
  ·have hlast:(cF G w ρ).own[ρ.length - 1]? = some ((cF G w ρ).own[ρ.length - 1]'(by simp [cF];omega)):=List.getElem?_eq_getElem _
   obtain ⟨oo',q1,_⟩:=h1.own _ _ (by simp [cF];omega) hlast
   have:=(List.getElem?_eq_some_iff.1 q1).1
   omega
 obtain ⟨G'',g1,g2,g3,g4⟩:=nY hi hnd hlt h1 h2 hl
 rcases h4 with ⟨rfl,h4⟩ | ⟨rfl,h4⟩
 ·obtain ⟨k1,k2⟩:=hpost p σ' h4 hl
  rw [k2] at g3
  have g5:=g4 p v h3
  rw [k1] at g5
  exact next G'' w' v g1 g1.le.H g2 g3 g5
 ·exact (hpp _ _ h4).elim
theorem yg {G:Gh} {σ:List OB} {w:World} {p:PV} {v:Value} (hi:Inv G σ w) (h:aX G p v) {b:Nat} (hb:m7 p = some b):b < σ.length:=by
 have:∀ oo:Option OG,G.own[b]? = some oo→b < σ.length:=fun oo h=>by rw [← hi.len];exact (List.getElem?_eq_some_iff.1 h).1
 unfold m7 at hb
 split at hb <;> simp only [sJ,reduceCtorEq] at hb
 ·subst hb;have h':dc G (.optr _ _) v:=h;obtain ⟨_,oo,h1,_⟩:=h';exact this oo h1
 ·subst hb;have h':dc G (.osl _ _ _ _) v:=h;obtain ⟨_,oo,h1,_⟩:=h';exact this oo h1
 ·subst hb;have h':dc G (.oel _ _ _ _) v:=h;obtain ⟨_,oo,h1,_⟩:=h';exact this oo h1
def gj (E:Env):List Tmp→Env
 | []=>⟨E.n,E.na,.nil⟩
 | t :: r=>(gj E r).put t (E.get t)
theorem pt (E:Env):∀ l,(gj E l).n = E.n∧(gj E l).na = E.na
 | []=>⟨rfl,rfl⟩
 | _ :: r=>pt E r
theorem pV (E:Env):∀ (l:List Tmp) (t:Tmp),(∀ x∈l,x < 512)→(t∈l→(gj E l).get t = E.get t)∧(t ∉ l→((gj E l).get t).cond = false)
 | [],t,_=>⟨fun h=>by simp at h,fun _=>by simp [gj,Env.get,Tr.get,Tr.ent]⟩
 | x :: l,t,h=>by
  obtain ⟨h1,h2⟩:=pV E l t fun y hy=>h y (by simp [hy])
  simp only [gj]
  rw [Env.get_put' _ x t _ (h x (by simp))]
  constructor
  ·intro ht
   by_cases e:t = x
   ·subst e;simp
   ·rw [iN e];exact h1 (by simpa [e] using ht)
  ·intro ht
   simp only [List.mem_cons,not_or] at ht
   rw [iN ht.1];exact h2 ht.2
theorem rG:∀ (l:List Oper) (tr:List TS) (E:Env) (k:Nat),(cW E l tr k).n = E.n∧(cW E l tr k).na = E.na
 | [],tr,E,k=>by cases k <;> simp [cW]
 | o :: l,[],E,k=>by cases k <;> simp [cW]
 | o :: l,ts :: tr,E,0=>by simp [cW]
 | o :: l,ts :: tr,E,k + 1=>by
  simp only [cW]
  obtain ⟨h1,h2⟩:=rG l tr (E.putD o.dst ts.e) k
  rw [h1,h2]
  cases o.dst <;> exact ⟨rfl,rfl⟩
structure Chk (ops:Array Oper) (l:List Oper) (masks:List Nat) (bar:List Bool):Prop where
 mask:∀ (i:Nat) (o:Oper),l[i]? = some o→masks.getD i 0 = orM masks (eO o)
 lt:∀ (i:Nat) (o:Oper),l[i]? = some o→∀ j∈eO o,j < i
 dst:∀ (i:Nat) (o:Oper),l[i]? = some o→∀ d,o.dst = some d→d < 512
 look:∀ (i:Nat) (o:Oper),l[i]? = some o→∀ t∈o.looksAt ops,t < 512
 loud:∀ (i j:Nat) (x y:Oper),l[i]? = some x→l[j]? = some y→gG x = true→gG y = true→kV masks i j = true
 hit:∀ (i j:Nat) (x y:Oper),l[i]? = some x→l[j]? = some y→yd ops x y = true→kV masks i j = true
 bar:∀ (i j:Nat) (x y:Oper),l[i]? = some x→l[j]? = some y→bar.getD i false = true→kV masks i j = true
theorem BO {ops:Array Oper} {l:List Oper} {masks:List Nat} {bar:List Bool} (h:chk ops l masks bar = true):Chk ops l masks bar:=by
 unfold chk at h
 simp only [Bool.and_eq_true,List.all_eq_true] at h
 obtain ⟨h1,h2⟩:=h
 have m:∀ (i:Nat) (o:Oper),l[i]? = some o→(o,i)∈l.zipIdx:=fun i o ho=>by
  rw [List.mem_zipIdx_iff_getElem?];simpa using ho
 constructor
 ·intro i o ho;have:=h1 _ (m i o ho);simp only [Bool.and_eq_true,beq_iff_eq] at this;exact this.1.1.1
 ·intro i o ho j hj
  have:=h1 _ (m i o ho)
  simp only [Bool.and_eq_true,List.all_eq_true,decide_eq_true_eq] at this
  exact this.1.1.2 j hj
 ·intro i o ho d hd
  have:=h1 _ (m i o ho)
  simp only [Bool.and_eq_true,hd,decide_eq_true_eq] at this
  exact this.1.2
 ·intro i o ho t ht
  have:=h1 _ (m i o ho)
  simp only [Bool.and_eq_true,List.all_eq_true,decide_eq_true_eq] at this
  exact this.2 t ht
 ·intro i j x y hx hy lx ly
  have:=h2 _ (m i x hx) _ (m j y hy)
  simp only [Bool.and_eq_true,Bool.or_eq_true,Bool.not_eq_true',lx,ly] at this
  simpa using this.1.1
 ·intro i j x y hx hy hh
  have:=h2 _ (m i x hx) _ (m j y hy)
  simp only [Bool.and_eq_true,Bool.or_eq_true,Bool.not_eq_true',hh] at this
  simpa using this.1.2
 ·intro i j x y hx hy hh
  have:=h2 _ (m i x hx) _ (m j y hy)
  simp only [Bool.and_eq_true,Bool.or_eq_true,Bool.not_eq_true',hh] at this
  simpa using this.2
def pu (l:List Oper) (d:Nat→Bool):Prop:=∀ (i:Nat) (o:Oper),l[i]? = some o→d i = true→∀ j∈eO o,d j = true
theorem Chk.bit {ops:Array Oper} {l:List Oper} {masks:List Nat} {bar:List Bool} (c:Chk ops l masks bar) {d:Nat→Bool} (hd:pu l d):∀ (i:Nat) (o:Oper),l[i]? = some o→∀ j,(masks.getD i 0).testBit j = true→j < i∧(d i = true→d j = true):=by
 intro i
 induction i using Nat.strongRecOn with
 | _ i ih =>
  intro o ho j hj
  rw [c.mask i o ho] at hj
  obtain ⟨k,hk,h⟩:=pT masks j _ hj
  have hlt:=c.lt i o ho k hk
  have hkl:k < l.length:=by have:=(List.getElem?_eq_some_iff.1 ho).1;omega
  rcases h with rfl | h
  ·exact ⟨hlt,fun hi=>hd i o ho hi k hk⟩
  ·obtain ⟨h1,h2⟩:=ih k hlt l[k] (List.getElem?_eq_getElem hkl) j h
   exact ⟨by omega,fun hi=>h2 (hd i o ho hi k hk)⟩
theorem Chk.done {ops:Array Oper} {l:List Oper} {masks:List Nat} {bar:List Bool} (c:Chk ops l masks bar) {d:Nat→Bool} (hd:pu l d) {i:Nat} {o:Oper} (ho:l[i]? = some o) (hi:d i = false)
  (hr:∀ j∈eO o,d j = true) {j:Nat} {y:Oper} (hy:l[j]? = some y) (hord:kV masks i j = true∨kV masks j i = true):d j = decide (j < i):=by
 by_cases e:j = i
 ·subst e;simp [hi]
 ·have hord':(masks.getD i 0).testBit j = true∨(masks.getD j 0).testBit i = true:=by
   rcases hord with h | h <;> simp only [kV,Bool.or_eq_true,beq_iff_eq] at h
   ·rcases h with (h | h) | h
    ·exact (e h.symm).elim
    ·exact .inl h
    ·exact .inr h
   ·rcases h with (h | h) | h
    ·exact (e h).elim
    ·exact .inr h
    ·exact .inl h
  rcases hord' with h | h
  ·have hlt:=(c.bit hd i o ho j h).1
   rw [c.mask i o ho] at h
   obtain ⟨k,hk,h⟩:=pT masks j _ h
   have hkl:k < l.length:=by have:=(List.getElem?_eq_some_iff.1 ho).1;have:=c.lt i o ho k hk;omega
   have hdj:d j = true:=by
    rcases h with rfl | h
    ·exact hr k hk
    ·exact (c.bit hd k l[k] (List.getElem?_eq_getElem hkl) j h).2 (hr k hk)
   rw [hdj];simp [hlt]
  ·obtain ⟨h1,h2⟩:=c.bit hd j y hy i h
   have hdj:d j = false:=by
    cases hh:d j with
    | false=>rfl
    | true=>rw [h2 hh] at hi;cases hi
   rw [hdj];simp;omega
def StJ (l:List Oper) (tr:List TS) (E:Env) (σ:List OB) (G0:Gh) (listed:Array Bool) (a:Act) (w:World):Prop :=
 listed.size = l.length∧pu l (fun i=>listed.getD i false) ∧
 ∃ G p,Gle G0 G∧p ≤ l.length∧(∀ (j:Nat) (o:Oper),l[j]? = some o→gG o = true→listed.getD j false = decide (j < p)) ∧
  Inv G (aY σ tr p) w∧a.defers = G.w0.ds∧a.tmps.size = E.n∧G.na = E.na ∧
  ∀ t,t < 512→(f8 t l tr (fun i=>listed.getD i false) (E.get t)).cond = true→aX G (f8 t l tr (fun i=>listed.getD i false) (E.get t)).v (a.tmps.getD t undef)
theorem yh (listed:Array Bool) (i j:Nat) (hi:i < listed.size):(listed.setIfInBounds i true).getD j false = if j = i then true else listed.getD j false:=by
 simp only [Array.getD_eq_getD_getElem?,Array.getElem?_setIfInBounds]
 by_cases e:i = j
 ·subst e;simp [hi]
 ·simp [e,Ne.symm e]
end
end Pam
namespace Pam
open Go
def xo (pv : List Nat) (p : PV) : Bool := match m7 p with | some b => !pv.contains b | none => true
def i2 (pv : List Nat) (σ σ' : List OB) : Prop := σ.length ≤ σ'.length ∧ ∀ b, b ∉ pv → b < σ.length → σ'[b]? = σ[b]?
theorem i2.refl (pv : List Nat) (σ : List OB) : i2 pv σ σ := ⟨Nat.le_refl _, fun _ _ _ => rfl⟩
theorem i2.trans {pv : List Nat} {σ σ' σ'' : List OB} (h : i2 pv σ σ') (h' : i2 pv σ' σ'') : i2 pv σ σ'' :=
  ⟨Nat.le_trans h.1 h'.1, fun b hb hl => (h'.2 b hb (Nat.lt_of_lt_of_le hl h.1)).trans (h.2 b hb hl)⟩
theorem i2.of_ext {pv : List Nat} {σ σ' : List OB} (h : Ext σ σ') : i2 pv σ σ' := by
  obtain ⟨ρ, rfl⟩ := h
  exact ⟨by simp, fun b _ hb => List.getElem?_append_left hb⟩
def ld (lt : List Bool) (i : Nat) (o : Oper) : Bool := gG o && !(lt.getD i false)
def ww (ops : Array Oper) (l : List Oper) (masks : List Nat) (bar prv : List Bool) (rd : List (List Nat)) (lt : List Bool) : Bool :=
  (l.zipIdx.all fun (o, i) => masks.getD i 0 == orM masks (eO o) && (eO o).all (· < i) &&
    (match o.dst with | some d => decide (d < 512) | none => true) && (o.looksAt ops).all (· < 512)) &&
  (l.zipIdx.all fun (x, i) => l.zipIdx.all fun (y, j) => (!(ld lt i x && ld lt j y) || kV masks i j) && (!(yd ops x y) || kV masks i j) && (!(bar.getD i false) || kV masks i j)) &&
  (l.zipIdx.all fun (x, i) => gG x || (x.looksAt ops).all (fun t => (rd.getD i []).contains t) || l.zipIdx.all fun (_, j) => !(prv.getD j false) || kV masks i j)
structure uu (ops : Array Oper) (l : List Oper) (masks : List Nat) (bar prv : List Bool) (rd : List (List Nat)) (lt : List Bool) : Prop where
  mask : ∀ (i : Nat) (o : Oper), l[i]? = some o → masks.getD i 0 = orM masks (eO o)
  lts : ∀ (i : Nat) (o : Oper), l[i]? = some o → ∀ j ∈ eO o, j < i
  dst : ∀ (i : Nat) (o : Oper), l[i]? = some o → ∀ d, o.dst = some d → d < 512
  look : ∀ (i : Nat) (o : Oper), l[i]? = some o → ∀ t ∈ o.looksAt ops, t < 512
  loud : ∀ (i j : Nat) (x y : Oper), l[i]? = some x → l[j]? = some y → ld lt i x = true → ld lt j y = true → kV masks i j = true
  hit : ∀ (i j : Nat) (x y : Oper), l[i]? = some x → l[j]? = some y → yd ops x y = true → kV masks i j = true
  bar : ∀ (i j : Nat) (x y : Oper), l[i]? = some x → l[j]? = some y → bar.getD i false = true → kV masks i j = true
  see : ∀ (i : Nat) (o : Oper), l[i]? = some o → gG o = false → (∀ t ∈ o.looksAt ops, t ∈ rd.getD i []) ∨ ∀ j y, l[j]? = some y → prv.getD j false = true → kV masks i j = true
theorem AA {ops : Array Oper} {l : List Oper} {masks : List Nat} {bar prv : List Bool} {rd : List (List Nat)} {lt : List Bool} (h : ww ops l masks bar prv rd lt = true) : uu ops l masks bar prv rd lt := by
  unfold ww at h
  simp only [Bool.and_eq_true, List.all_eq_true] at h
  obtain ⟨⟨h1, h2⟩, h3⟩ := h
  have m : ∀ (i : Nat) (o : Oper), l[i]? = some o → (o, i) ∈ l.zipIdx := fun i o ho => by
    rw [List.mem_zipIdx_iff_getElem?]; simpa using ho
  constructor
  · intro i o ho; have := h1 _ (m i o ho); simp only [Bool.and_eq_true, beq_iff_eq] at this; exact this.1.1.1
  · intro i o ho j hj
    have := h1 _ (m i o ho)
    simp only [Bool.and_eq_true, List.all_eq_true, decide_eq_true_eq] at this
    exact this.1.1.2 j hj
  · intro i o ho d hd
    have := h1 _ (m i o ho)
    simp only [Bool.and_eq_true, hd, decide_eq_true_eq] at this
    exact this.1.2
  · intro i o ho t ht
    have := h1 _ (m i o ho)
    simp only [Bool.and_eq_true, List.all_eq_true, decide_eq_true_eq] at this
    exact this.2 t ht
  · intro i j x y hx hy lx ly
    have := h2 _ (m i x hx) _ (m j y hy)
    simp only [Bool.and_eq_true, Bool.or_eq_true, Bool.not_eq_true', lx, ly] at this
    simpa using this.1.1
  · intro i j x y hx hy hh
    have := h2 _ (m i x hx) _ (m j y hy)
    simp only [Bool.and_eq_true, Bool.or_eq_true, Bool.not_eq_true', hh] at this
    simpa using this.1.2
  · intro i j x y hx hy hh
    have := h2 _ (m i x hx) _ (m j y hy)
    simp only [Bool.and_eq_true, Bool.or_eq_true, Bool.not_eq_true', hh] at this
    simpa using this.2
  · intro i o ho hq
    have := h3 _ (m i o ho)
    simp only [Bool.or_eq_true, hq, Bool.false_eq_true, false_or, List.all_eq_true] at this
    rcases this with h | h
    · exact .inl fun t ht => by simpa using h t ht
    · right
      intro j y hy hp
      have := h _ (m j y hy)
      simpa only [hp, Bool.not_true, Bool.false_or, Bool.false_eq_true, false_or] using this
theorem uu.bit {ops : Array Oper} {l : List Oper} {masks : List Nat} {bar prv lt : List Bool} {rd : List (List Nat)} (c : uu ops l masks bar prv rd lt) {d : Nat → Bool} (hd : pu l d) : ∀ (i : Nat) (o : Oper), l[i]? = some o → ∀ j, (masks.getD i 0).testBit j = true → j < i ∧ (d i = true → d j = true) := by
  intro i
  induction i using Nat.strongRecOn with
  | _ i ih =>
    intro o ho j hj
    rw [c.mask i o ho] at hj
    obtain ⟨k, hk, h⟩ := pT masks j _ hj
    have hlt := c.lts i o ho k hk
    have hkl : k < l.length := by have := (List.getElem?_eq_some_iff.1 ho).1; omega
    rcases h with rfl | h
    · exact ⟨hlt, fun hi => hd i o ho hi k hk⟩
    · obtain ⟨h1, h2⟩ := ih k hlt l[k] (List.getElem?_eq_getElem hkl) j h
      exact ⟨by omega, fun hi => h2 (hd i o ho hi k hk)⟩
theorem uu.done {ops : Array Oper} {l : List Oper} {masks : List Nat} {bar prv lt : List Bool} {rd : List (List Nat)} (c : uu ops l masks bar prv rd lt) {d : Nat → Bool} (hd : pu l d) {i : Nat} {o : Oper} (ho : l[i]? = some o) (hi : d i = false)
    (hr : ∀ j ∈ eO o, d j = true) {j : Nat} {y : Oper} (hy : l[j]? = some y) (hord : kV masks i j = true ∨ kV masks j i = true) : d j = decide (j < i) := by
  by_cases e : j = i
  · subst e; simp [hi]
  · have hord' : (masks.getD i 0).testBit j = true ∨ (masks.getD j 0).testBit i = true := by
      rcases hord with h | h <;> simp only [kV, Bool.or_eq_true, beq_iff_eq] at h
      · rcases h with (h | h) | h
        · exact (e h.symm).elim
        · exact .inl h
        · exact .inr h
      · rcases h with (h | h) | h
        · exact (e h).elim
        · exact .inr h
        · exact .inl h
    rcases hord' with h | h
    · have hlt := (c.bit hd i o ho j h).1
      rw [c.mask i o ho] at h
      obtain ⟨k, hk, h⟩ := pT masks j _ h
      have hkl : k < l.length := by have := (List.getElem?_eq_some_iff.1 ho).1; have := c.lts i o ho k hk; omega
      have hdj : d j = true := by
        rcases h with rfl | h
        · exact hr k hk
        · exact (c.bit hd k l[k] (List.getElem?_eq_getElem hkl) j h).2 (hr k hk)
      rw [hdj]; simp [hlt]
    · obtain ⟨h1, h2⟩ := c.bit hd j y hy i h
      have hdj : d j = false := by
        cases hh : d j with
        | false => rfl
        | true => rw [h2 hh] at hi; cases hi
      rw [hdj]; simp; omega
def wx (P : Program) (ops : Array Oper) (pv : List Nat) (E : Env) (σ : List OB) (o : Oper) (bar prv : Bool) (rd : List Nat) (lt : Bool) (ts : TS) : Prop :=
  dZ ops E o.guard = some ts.γ ∧ dk E o.dst ∧
  ((lt = false ∧ ((∃ C v, bI P ts.γ E σ o.op = .ok C v ∧ C ∧ (rd.all fun t => xo pv (E.get t).v) = true ∧ ts.e = ⟨ts.γ, v⟩ ∧ ts.σ = σ) ∨
   (ts.γ = true ∧ ∃ C v, bI P ts.γ E σ o.op = .upd C v ts.σ ∧ C ∧ ts.e = ⟨true, v⟩ ∧ (bar = true ∨ Ext σ ts.σ ∨ (prv = true ∧ i2 pv σ ts.σ))) ∨
   (∃ C f args r, bI P ts.γ E σ o.op = .call C f args ∧ (ts.γ = true → C ∧ cd P f args r) ∧ args.all PV.noOwn = true ∧ (∀ n, r.ren (df n []) = r) ∧ ts.e = ⟨ts.γ, r⟩ ∧ ts.σ = σ) ∨
   (ts.γ = false ∧ ts.e = ⟨true, .t []⟩ ∧ ts.σ = σ) ∨
   (ts.γ = true ∧ ∃ C f args p, bI P ts.γ E σ o.op = .call C f args ∧ C ∧ kO P σ f args p ts.σ ∧ ts.e = ⟨true, p⟩ ∧ (bar = true ∨ Ext σ ts.σ ∨ (prv = true ∧ i2 pv σ ts.σ))) ∨
   (ts.γ = true ∧ gG o = true ∧ ∃ v, (∀ E', (∀ x ∈ o.op.operands, ev E' x = ev E x) → ∀ G a w, Sim G E' σ a w → ur P G (execOp a.eval o) w v ts.σ) ∧ ts.e = ⟨true, v⟩ ∧ (bar = true ∨ Ext σ ts.σ ∨ (prv = true ∧ i2 pv σ ts.σ))))) ∨
   (ts.γ = true ∧ (∃ v, (∀ E', (∀ x ∈ o.op.operands, ev E' x = ev E x) → ∀ σ' G a w, Sim G E' σ' a w → ur P G (execOp a.eval o) w v σ') ∧ ts.e = ⟨true, v⟩) ∧ ts.σ = σ) ∨
   (ts.γ = false ∧ ts.e = ⟨true, .t []⟩ ∧ ts.σ = σ))
def fU (P : Program) (ops : Array Oper) (pv : List Nat) : List Oper → List Bool → List Bool → List (List Nat) → List Bool → Env → List OB → List TS → Prop
  | [], _, _, _, _, _, _, tr => tr = []
  | o :: l, bs, ps, rd, lt, E, σ, tr => ∃ ts r, tr = ts :: r ∧ wx P ops pv E σ o (bs.headD false) (ps.headD false) (rd.headD []) (lt.headD false) ts ∧ fU P ops pv l bs.tail ps.tail rd.tail lt.tail (E.putD o.dst ts.e) ts.σ r
section
variable {P : Program} {ops : Array Oper} {pv : List Nat}
theorem qu : ∀ (l : List Bool) (i : Nat), l[i]? = some false → (l.set i true).count false + 1 = l.count false
  | [], i, h => by simp at h
  | b :: l, 0, h => by
    simp only [List.getElem?_cons_zero, sJ] at h
    subst h
    simp
  | b :: l, i + 1, h => by
    have := qu l i (by simpa using h)
    simp only [List.set_cons_succ, List.count_cons]
    omega
theorem Inv.drawn {G : Gh} {σ : List OB} {w : World} (h : Inv G σ w) : Inv G σ { w with drawn := w.drawn + 1 } :=
  ⟨h.hH, h.hF, h.HF, h.len, fun b ob hb => (h.own b ob hb).keep (fun _ _ h => h) (bD.refl _) rfl (fun _ _ _ => rfl), h.inj, h.sep, h.os, h.tape, h.output, h.grow⟩
theorem n3 {σ : List OB} {tr : List TS} (l : List Oper) (hlen : tr.length = l.length) (p : Nat) : ∀ (q : Nat), p ≤ q → q ≤ l.length → (∀ j, p ≤ j → j < q → i2 pv (aY σ tr j) (aY σ tr (j + 1))) → i2 pv (aY σ tr p) (aY σ tr q)
  | 0, h, _, _ => by have : p = 0 := by omega
                     subst this; exact i2.refl _ _
  | q + 1, h, hq, he => by
    by_cases e : p = q + 1
    · subst e; exact i2.refl _ _
    · exact (n3 l hlen p q (by omega) (by omega) fun j h1 h2 => he j h1 (by omega)).trans (he q (by omega) (by omega))
theorem wy {v : Value} {c : CV} (h : jE v = some c) : m7 (.c c) = none := by
  unfold jE at h
  split at h <;> first | (cases h; rfl) | cases h
theorem zf (v : Value) : m7 (oN v).v = none := by
  unfold oN
  split
  · split <;> rfl
  · split
    · rename_i h; exact wy h
    · rfl
theorem wz {l : List Oper} {masks : List Nat} {bs ps lt : List Bool} {rd : List (List Nat)} (c : uu l.toArray l masks bs ps rd lt) {listed : Array Bool} (hs : listed.size = l.length) (h : Region.ready .any l.toArray listed = []) : ∀ i, i < l.length → listed.getD i false = true := by
  intro i
  induction i using Nat.strongRecOn with
  | _ i ih =>
    intro hi
    cases hd : listed.getD i false with
    | true => rfl
    | false =>
      exfalso
      have ho := List.getElem?_eq_getElem hi
      have : i ∈ Region.ready .any l.toArray listed := by
        refine mem_ready.2 ⟨?_, l[i], by simp, fun e he hb => ?_⟩
        · rw [Array.getD_eq_getD_getElem?] at hd ⊢
          rw [Array.getElem?_eq_getElem (by omega)] at hd ⊢
          simpa using hd
        · have hlt := c.lts i _ ho e.on (by simp only [eO, List.mem_map, List.mem_filter]; exact ⟨e, ⟨by simpa using he, hb⟩, rfl⟩)
          exact ih e.on hlt (by omega)
      rw [h] at this; simp at this
def pw (lt : List Bool) (l : List Oper) (tr : List TS) (E : Env) (σ : List OB) (G0 : Gh) (listed : Array Bool) (a : Act) (w : World) : Prop :=
  listed.size = l.length ∧ pu l (fun i => listed.getD i false) ∧
  ∃ G p, Gle G0 G ∧ p ≤ l.length ∧ (∀ (j : Nat) (o : Oper), l[j]? = some o → ld lt j o = true → listed.getD j false = decide (j < p)) ∧
    Inv G (aY σ tr p) w ∧ a.defers = G.w0.ds ∧ a.tmps.size = E.n ∧ G.na = E.na ∧
    ∀ t, t < 512 → (f8 t l tr (fun i => listed.getD i false) (E.get t)).cond = true → aX G (f8 t l tr (fun i => listed.getD i false) (E.get t)).v (a.tmps.getD t undef)
theorem fU.at : ∀ {l : List Oper} {bs ps : List Bool} {rd : List (List Nat)} {lt : List Bool} {E : Env} {σ : List OB} {tr : List TS}, fU P ops pv l bs ps rd lt E σ tr → tr.length = l.length ∧
    ∀ (i : Nat) (o : Oper), l[i]? = some o → ∃ ts, tr[i]? = some ts ∧ wx P ops pv (cW E l tr i) (aY σ tr i) o (bs.getD i false) (ps.getD i false) (rd.getD i []) (lt.getD i false) ts ∧ aY σ tr (i + 1) = ts.σ
  | [], bs, ps, rd, lt, E, σ, tr, h => by simp only [fU] at h; subst h; exact ⟨rfl, fun i o h => by simp at h⟩
  | o :: l, bs, ps, rd, lt, E, σ, tr, h => by
    obtain ⟨ts, r, rfl, h1, h2⟩ := h
    obtain ⟨h3, h4⟩ := fU.at h2
    refine ⟨by simp [h3], fun i o' ho => ?_⟩
    cases i with
    | zero =>
      simp only [List.getElem?_cons_zero, sJ] at ho
      subst ho
      refine ⟨ts, rfl, ?_, ?_⟩
      · cases bs <;> cases ps <;> cases rd <;> cases lt <;> exact h1
      · cases r <;> rfl
    | succ i =>
      obtain ⟨ts', k1, k2, k3⟩ := h4 i o' (by simpa using ho)
      refine ⟨ts', by simpa using k1, ?_, ?_⟩
      · cases bs <;> cases ps <;> cases rd <;> cases lt <;> simpa [cW, aY] using k2
      · simpa [aY] using k3
theorem n4 {l : List Oper} {bs ps : List Bool} {rd : List (List Nat)} {lt : List Bool} {E : Env} {σ : List OB} {tr : List TS} (ht : fU P ops pv l bs ps rd lt E σ tr) {j : Nat} {o : Oper} (ho : l[j]? = some o) (hq : ld lt j o = false) : aY σ tr (j + 1) = aY σ tr j := by
  obtain ⟨_, h⟩ := ht.at
  obtain ⟨ts, _, h2, h3⟩ := h j o ho
  rw [h3]
  rcases h2.2.2 with ⟨hlt, h2⟩ | ⟨_, _, h⟩ | ⟨_, _, h⟩
  rotate_left
  · exact h
  · exact h
  have hq : gG o = false := by unfold ld at hq; rw [hlt] at hq; simpa using hq
  obtain ⟨q1, q2⟩ := pr (P := P) (γ := ts.γ) (E := cW E l tr j) (σ := aY σ tr j) hq
  rcases h2 with ⟨_, _, _, _, _, _, h⟩ | ⟨_, C, v, h, _⟩ | ⟨C, f, args, r, h, _⟩ | ⟨_, _, h⟩ | ⟨_, C, f, args, p, h, _⟩ | ⟨_, h, _⟩
  · exact h
  · exact (q1 _ _ _ h).elim
  · exact (q2 _ _ _ h).elim
  · exact h
  · exact (q2 _ _ _ h).elim
  · rw [hq] at h; cases h
theorem py {l : List Oper} {bs ps : List Bool} {rd : List (List Nat)} {lt : List Bool} {E : Env} {σ : List OB} {tr : List TS} (ht : fU P ops pv l bs ps rd lt E σ tr) {p q : Nat} (hpq : p ≤ q) (hq : q ≤ l.length)
    (h : ∀ (j : Nat) (o : Oper), l[j]? = some o → p ≤ j → j < q → ld lt j o = false) : aY σ tr q = aY σ tr p := by
  induction q with
  | zero => have : p = 0 := by omega
            subst this; rfl
  | succ q ih =>
    by_cases e : p = q + 1
    · subst e; rfl
    · have hl : q < l.length := by omega
      rw [n4 ht (List.getElem?_eq_getElem hl) (h q _ (List.getElem?_eq_getElem hl) (by omega) (by omega))]
      exact ih (by omega) (by omega) fun j o ho h1 h2 => h j o ho h1 (by omega)
theorem sc {l : List Oper} {bs ps : List Bool} {rd : List (List Nat)} {lt : List Bool} {E : Env} {σ : List OB} {tr : List TS} (ht : fU P ops pv l bs ps rd lt E σ tr) {j : Nat} {o : Oper} (ho : l[j]? = some o) (hb : bs.getD j false = false) :
    (ps.getD j false = false → Ext (aY σ tr j) (aY σ tr (j + 1))) ∧ i2 pv (aY σ tr j) (aY σ tr (j + 1)) := by
  obtain ⟨_, h⟩ := ht.at
  obtain ⟨ts, _, h2, h3⟩ := h j o ho
  rw [h3]
  have same : ∀ σ' : List OB, σ' = aY σ tr j → (ps.getD j false = false → Ext (aY σ tr j) σ') ∧ i2 pv (aY σ tr j) σ' := fun σ' e => by
    subst e; exact ⟨fun _ => ⟨[], by simp⟩, i2.refl _ _⟩
  have ext : Ext (aY σ tr j) ts.σ → (ps.getD j false = false → Ext (aY σ tr j) ts.σ) ∧ i2 pv (aY σ tr j) ts.σ := fun e => ⟨fun _ => e, .of_ext e⟩
  rcases h2.2.2 with ⟨_, h2⟩ | ⟨_, _, h⟩ | ⟨_, _, h⟩
  rotate_left
  · exact same _ h
  · exact same _ h
  rcases h2 with ⟨_, _, _, _, _, _, h⟩ | ⟨_, C, v, h, _, _, h'⟩ | ⟨C, f, args, r, h, _, _, _, _, h'⟩ | ⟨_, _, h'⟩ | ⟨_, C, f, args, p, h, _, _, _, h'⟩ | ⟨_, _, v, _, _, h'⟩
  · exact same _ h
  · rcases h' with h' | h' | ⟨h', h''⟩
    · rw [hb] at h'; cases h'
    · exact ext h'
    · exact ⟨fun hp => by (rw [hp] at h'; cases h'), h''⟩
  · exact same _ h'
  · exact same _ h'
  · rcases h' with h' | h' | ⟨h', h''⟩
    · rw [hb] at h'; cases h'
    · exact ext h'
    · exact ⟨fun hp => by (rw [hp] at h'; cases h'), h''⟩
  · rcases h' with h' | h' | ⟨h', h''⟩
    · rw [hb] at h'; cases h'
    · exact ext h'
    · exact ⟨fun hp => by (rw [hp] at h'; cases h'), h''⟩
theorem pw.stepQ {l : List Oper} {bs ps : List Bool} {rd : List (List Nat)} {lt : List Bool} {masks : List Nat} {E : Env} {σ : List OB} {tr : List TS} (c : uu l.toArray l masks bs ps rd lt) (ht : fU P l.toArray pv l bs ps rd lt E σ tr) (G0 : Gh) {Q : Exit → Act → World → Prop} (listed : Array Bool) (a : Act) (w : World) (i : Nat)
    (hJ : pw lt l tr E σ G0 listed a w) (hready : i ∈ Region.ready .any l.toArray listed) : wpOp P l.toArray Q i (pw lt l tr E σ G0 (listed.setIfInBounds i true)) a w := by
  obtain ⟨hsz, hcl, G, p, hG, hp, hloud, hinv, hdef, htm, hna, hslot⟩ := hJ
  obtain ⟨hun, o, ho', hdeps⟩ := mem_ready.1 hready
  have ho : l[i]? = some o := by simpa using ho'
  have hil : i < l.length := (List.getElem?_eq_some_iff.1 ho).1
  have hi0 : listed.getD i false = false := by
    rw [Array.getD_eq_getD_getElem?] at hun ⊢
    rw [Array.getElem?_eq_getElem (by omega)] at hun ⊢
    simpa using hun
  have hr : ∀ j ∈ eO o, listed.getD j false = true := by
    intro j hj
    simp only [eO, List.mem_map, List.mem_filter] at hj
    obtain ⟨e, ⟨h1, h2⟩, rfl⟩ := hj
    exact hdeps e (by simpa using h1) h2
  have hdone := fun {j : Nat} {y : Oper} (hy : l[j]? = some y) (hord : kV masks i j = true ∨ kV masks j i = true) => c.done hcl ho hi0 hr hy hord
  obtain ⟨htl, hat⟩ := ht.at
  obtain ⟨ts, hts, ⟨hguard, hdst, hstep⟩, hnext⟩ := hat i o ho
  have hcl' : pu l (fun k => (listed.setIfInBounds i true).getD k false) := by
    intro k ok hk hd j hj
    simp only at hd ⊢
    rw [yh _ _ _ (by omega)] at hd ⊢
    by_cases e : k = i
    · subst e; rw [ho] at hk; simp only [sJ] at hk; subst hk
      by_cases e' : j = k
      · rw [iP e']
      · rw [iN e']; exact hr j hj
    · rw [iN e] at hd
      by_cases e' : j = i
      · rw [iP e']
      · rw [iN e']; exact hcl k ok hk hd j hj
  have hsz' : (listed.setIfInBounds i true).size = l.length := by simpa using hsz
  have hEn := rG l tr E i
  have hlook := c.look i o ho
  have hreads : ∀ t ∈ o.looksAt l.toArray, (cW E l tr i).get t = f8 t l tr (fun j => listed.getD j false) (E.get t) := by
    intro t htm'
    rw [qt t l tr E i (fun j o x hj hd => c.dst j o hj x hd) htl]
    apply ip
    intro j y hy hd
    refine (hdone hy (.inr ?_)).symm
    refine c.hit j i y o hy ho ?_
    simp only [yd, hd, Bool.or_eq_true]
    left
    simpa using htm'
  have hres := pV (cW E l tr i) (o.looksAt l.toArray)
  have hgetr : ∀ t ∈ o.looksAt l.toArray, (gj (cW E l tr i) (o.looksAt l.toArray)).get t = (cW E l tr i).get t := fun t h => (hres t hlook).1 h
  have hsim : Sim G (gj (cW E l tr i) (o.looksAt l.toArray)) (aY σ tr p) a w := by
    refine ⟨hinv, hdef, by rw [(pt _ _).1, hEn.1]; exact htm, by rw [(pt _ _).2, hEn.2]; exact hna, fun t hc => ?_⟩
    by_cases hmem : t ∈ o.looksAt l.toArray
    · rw [hgetr t hmem, hreads t hmem] at hc ⊢
      exact hslot t (hlook t hmem) hc
    · rw [(hres t hlook).2 hmem] at hc; cases hc
  have hops : ∀ x ∈ o.op.operands, ev (gj (cW E l tr i) (o.looksAt l.toArray)) x = ev (cW E l tr i) x := by
    intro x hx
    refine ze (ts := o.looksAt l.toArray) (fun t h => hgetr t h) x fun t e => ?_
    subst e
    simp only [Oper.looksAt, List.mem_append, List.mem_filterMap]
    left
    exact ⟨.tmp t, by simpa using hx, rfl⟩
  have hguard' : dZ l.toArray (gj (cW E l tr i) (o.looksAt l.toArray)) o.guard = some ts.γ := by
    rw [th o hgetr]; exact hguard
  have hwant := mz (P := P) hsim hguard'
  have hdlt : ∀ d, o.dst = some d → d < a.tmps.size := by
    intro d hd
    rw [htm]
    rw [hd] at hdst
    have h' : d < (cW E l tr i).n := hdst
    rwa [hEn.1] at h'
  have hslot' : ∀ (G' : Gh) (val : Value), (∀ q v, aX G q v → aX G' q v) → (ts.e.cond = true → aX G' ts.e.v val) → ∀ t, t < 512 →
      (f8 t l tr (fun k => (listed.setIfInBounds i true).getD k false) (E.get t)).cond = true →
      aX G' (f8 t l tr (fun k => (listed.setIfInBounds i true).getD k false) (E.get t)).v ((a.put o.dst val).tmps.getD t undef) := by
    intro G' val hmono hval t ht512 hc
    have hfun : (fun k => (listed.setIfInBounds i true).getD k false) = (fun k => if k = i then true else listed.getD k false) := by
      funext k; exact yh _ _ _ (by omega)
    rw [hfun] at hc ⊢
    by_cases hd : o.dst = some t
    · rw [tG t l tr _ _ i o ts ho hts hd (fun j y hy hdy hij => by
          have := hdone hy (.inr (c.hit j i y o hy ho (by simp [yd, hdy, hd])))
          rw [this]; simp; omega)] at hc ⊢
      have hlt := hdlt t hd
      have : (a.put o.dst val).tmps.getD t undef = val := by rw [hd]; simp [Act.put, Array.getD, hlt]
      rw [this]; exact hval hc
    · rw [qZ t l tr _ _ i o ho hd] at hc ⊢
      have : (a.put o.dst val).tmps.getD t undef = a.tmps.getD t undef := by
        cases hod : o.dst with
        | none => rfl
        | some d =>
          have hne : d ≠ t := fun e => hd (by rw [hod, e])
          simp only [Act.put, Array.getD_eq_getD_getElem?]
          rw [Array.getElem?_setIfInBounds_ne hne]
      rw [this]
      exact hmono _ _ (hslot t ht512 hc)
  have hput : ∀ val, (a.put o.dst val).defers = G.w0.ds ∧ (a.put o.dst val).tmps.size = E.n := by
    intro val; cases o.dst <;> simp [Act.put, hdef, htm]
  have hheap : ld lt i o = true → aY σ tr p = aY σ tr i := by
    intro hl
    have key : ∀ (j : Nat) (y : Oper), l[j]? = some y → ld lt j y = true → (j < p ↔ j < i) := by
      intro j y hy hly
      have h1 := hloud j y hy hly
      have h2 := hdone hy (.inl (c.loud i j o y ho hy hl hly))
      rw [h2] at h1
      simpa using h1.symm
    rcases Nat.le_total p i with h | h
    · exact (py ht h (by omega) fun j y hy h1 h2 => by
        cases hly : ld lt j y with
        | false => rfl
        | true => have := (key j y hy hly).2 h2; omega).symm
    · exact py ht h hp fun j y hy h1 h2 => by
        cases hly : ld lt j y with
        | false => rfl
        | true => have := (key j y hy hly).1 h2; omega
  have hloud' : ld lt i o = true → ∀ (j : Nat) (y : Oper), l[j]? = some y → ld lt j y = true → (listed.setIfInBounds i true).getD j false = decide (j < i + 1) := by
    intro hl j y hy hly
    rw [yh _ _ _ (by omega)]
    by_cases e : j = i
    · subst e; simp
    · rw [iN e, hdone hy (.inl (c.loud i j o y ho hy hl hly))]
      simp; omega
  have hquiet' : ld lt i o = false → ∀ (j : Nat) (y : Oper), l[j]? = some y → ld lt j y = true → (listed.setIfInBounds i true).getD j false = decide (j < p) := by
    intro hl j y hy hly
    rw [yh _ _ _ (by omega)]
    by_cases e : j = i
    · subst e; rw [ho] at hy; simp only [sJ] at hy; subst hy; rw [hl] at hly; cases hly
    · rw [iN e]; exact hloud j y hy hly
  have stay : ∀ (G' : Gh) (w' : World) (val : Value), Gle G G' → bD G.own G'.own → Inv G' (aY σ tr p) w' → ts.σ = aY σ tr i → (ts.e.cond = true → aX G' ts.e.v val) → pw lt l tr E σ G0 (listed.setIfInBounds i true) (a.put o.dst val) w' := by
    intro G' w' val h1 h2 h3 h4 h5
    refine ⟨hsz', hcl', ?_⟩
    have hm : ∀ q v, aX G q v → aX G' q v := fun q v h => aX.mono h1.le.H h2 h
    cases hl : ld lt i o with
    | true =>
      refine ⟨G', i + 1, hG.trans h1, by omega, hloud' hl, ?_, (hput val).1.trans (by rw [h1.le.w0]), (hput val).2, h1.le.na.trans hna, hslot' G' val hm h5⟩
      rw [hnext, h4, ← hheap hl]; exact h3
    | false => exact ⟨G', p, hG.trans h1, hp, hquiet' hl, h3, (hput val).1.trans (by rw [h1.le.w0]), (hput val).2, h1.le.na.trans hna, hslot' G' val hm h5⟩
  unfold wpOp
  simp only [ho']
  have skip : ts.γ = false → (ts.e.cond = true → aX G ts.e.v undef) → ts.σ = aY σ tr i → (if Region.wanted o (yielded l.toArray a.tmps) = true then o.wp P a w (pw lt l tr E σ G0 (listed.setIfInBounds i true)) Q ∨ (o.asks P a w ∧ LetsOut Q) else pw lt l tr E σ G0 (listed.setIfInBounds i true) (a.put o.dst undef) w) := by
    intro hγ hc hσ
    rw [iN (by rw [hwant, hγ]; simp)]
    exact stay G w undef (Gle.refl G) (bD.refl _) hinv hσ hc
  rcases hstep with ⟨hlt, hstep⟩ | ⟨hγ, ⟨v, hx, he⟩, hσ⟩ | ⟨hγ, he, hσ⟩
  rotate_left
  · rw [iP (by rw [hwant, hγ])]
    left
    obtain ⟨nx, val, w', G', e1, e2, e3, e4, e5, e6⟩ := hx _ hops _ G a w hsim
    have hfin := stay G' w' val (Gle.mk' e3 e4) e4 e5 hσ (fun _ => by rw [he]; exact e6)
    unfold Oper.wp
    rw [e1]
    rcases e2 with rfl | ⟨rfl, rfl⟩
    · exact hfin
    · exact hfin
  · exact skip hγ (by rw [he]; exact fun _ => ⟨[], rfl, trivial⟩) hσ
  have hld : ld lt i o = gG o := by unfold ld; rw [hlt]; simp
  rcases hstep with ⟨C, v, hrun, hC, hrd, he, hσ⟩ | ⟨hγ, C, v, hrun, hC, he, _⟩ | ⟨C, f, args, r, hrun, hC, hargs, hres', he, hσ⟩ | ⟨hγ, he, hσ⟩ | ⟨hγ, C, f, args, r, hrun, hC, hto, he, _⟩ | ⟨hγ, hl, v, hx, he, _⟩
  · cases hγ : ts.γ with
    | false => exact skip hγ (by rw [he, hγ]; intro h; cases h) hσ
    | true =>
      rw [iP (by rw [hwant, hγ])]
      left
      rw [hγ] at hrun
      have hrun1 := (m6 (P := P) (γ := true) (σ := aY σ tr i) o.op hops).trans hrun
      have hlo : gG o = false ∨ gG o = true := by cases gG o <;> simp
      have notbar : ∀ (j : Nat) (y : Oper), l[j]? = some y → ld lt j y = true → listed.getD j false ≠ decide (j < i) → bs.getD j false = false := by
        intro j y hy hly hne
        cases hb : bs.getD j false with
        | false => rfl
        | true => exact (hne (hdone hy (.inr (c.bar j i y o hy ho hb)))).elim
      have one : ∀ (j : Nat), j < l.length → (∀ y, l[j]? = some y → ld lt j y = true → listed.getD j false ≠ decide (j < i)) → i2 pv (aY σ tr j) (aY σ tr (j + 1)) := by
        intro j hj hne
        have hy := List.getElem?_eq_getElem hj
        cases hly : ld lt j l[j] with
        | false => rw [n4 ht hy hly]; exact i2.refl _ _
        | true => exact (sc ht hy (notbar j _ hy hly (hne _ hy hly))).2
      have onePv : (∀ j y, l[j]? = some y → ps.getD j false = true → kV masks i j = true) → ∀ (j : Nat), j < l.length → (∀ y, l[j]? = some y → ld lt j y = true → listed.getD j false ≠ decide (j < i)) → i2 [] (aY σ tr j) (aY σ tr (j + 1)) := by
        intro hord j hj hne
        have hy := List.getElem?_eq_getElem hj
        cases hly : ld lt j l[j] with
        | false => rw [n4 ht hy hly]; exact i2.refl _ _
        | true =>
          refine .of_ext ((sc ht hy (notbar j _ hy hly (hne _ hy hly))).1 ?_)
          cases hp : ps.getD j false with
          | false => rfl
          | true => exact (hne _ hy hly (hdone hy (.inl (hord j _ hy hp)))).elim
      have reach : ∀ (q : List Nat), (∀ (j : Nat), j < l.length → (∀ y, l[j]? = some y → ld lt j y = true → listed.getD j false ≠ decide (j < i)) → i2 q (aY σ tr j) (aY σ tr (j + 1))) → i2 q (aY σ tr p) (aY σ tr i) ∨ i2 q (aY σ tr i) (aY σ tr p) := by
        intro q hone
        rcases Nat.le_total p i with h | h
        · left
          refine n3 l htl p i h (by omega) fun j h1 h2 => hone j (by omega) fun y hy hly => ?_
          rw [hloud j y hy hly]; simp; omega
        · right
          refine n3 l htl i p h hp fun j h1 h2 => hone j (by omega) fun y hy hly => ?_
          rw [hloud j y hy hly]; simp; omega
      have fromNear : ∀ (q : List Nat) (b : Nat) (ob : OB), i2 q (aY σ tr p) (aY σ tr i) ∨ i2 q (aY σ tr i) (aY σ tr p) → b ∉ q → b < (aY σ tr p).length → (aY σ tr i)[b]? = some ob → (aY σ tr p)[b]? = some ob := by
        intro q b ob hn hb hlt hob
        rcases hn with h | h
        · rw [← h.2 b hb hlt]; exact hob
        · rw [h.2 b hb (List.getElem?_eq_some_iff.1 hob).1]; exact hob
      obtain ⟨C', hrun2, hC'⟩ := ye (σ' := aY σ tr p) hrun1 hC (fun x hc b ob htop hb => by
        have hlt := yg hinv (cK hsim x hc) htop
        rcases hlo with hl | hl
        · rcases c.see i o ho hl with hsee | hsee
          · refine fromNear pv b ob (reach pv one) ?_ hlt hb
            cases x with
            | tmp t =>
              by_cases hmem : t ∈ o.looksAt l.toArray
              · have h1 := List.all_eq_true.1 hrd t (hsee t hmem)
                have h2 : (gj (cW E l tr i) (o.looksAt l.toArray)).get t = (cW E l tr i).get t := hgetr t hmem
                have htop' : m7 ((cW E l tr i).get t).v = some b := by rw [← h2]; exact htop
                simp only [xo, htop'] at h1
                simpa using h1
              · exfalso
                have : ((gj (cW E l tr i) (o.looksAt l.toArray)).get t).cond = true := hc
                rw [(hres t hlook).2 hmem] at this; cases this
            | const v =>
              exfalso
              have h1 : m7 (oN v).v = some b := htop
              rw [zf] at h1; cases h1
            | func f => cases htop
            | global g => cases htop
          · exact fromNear [] b ob (reach [] (onePv hsee)) (by simp) hlt hb
        · rw [hheap (hld.trans hl)]; exact hb)
      obtain ⟨val, e1, e2⟩ := xl hsim rfl o hrun2 hC'
      unfold Oper.wp
      rw [e1]
      exact stay G w val (Gle.refl G) (bD.refl _) hinv hσ fun _ => by rw [he]; exact e2
  · rw [iP (by rw [hwant, hγ])]
    left
    rw [hγ] at hrun
    have hl : ld lt i o = true := by
      rw [hld]
      cases hl : gG o with
      | true => rfl
      | false => exact ((pr hl).1 _ _ _ hrun).elim
    have hrun1 := (m6 (P := P) (γ := true) (σ := aY σ tr i) o.op hops).trans hrun
    rw [← hheap hl] at hrun1
    obtain ⟨nx, val, w', G', e1, e2, e3, e4, e5, e6⟩ := vm hsim rfl o hrun1 hC
    have hfin : pw lt l tr E σ G0 (listed.setIfInBounds i true) (a.put o.dst val) w' :=
      ⟨hsz', hcl', G', i + 1, hG.trans (Gle.mk' e3 e4), by omega, hloud' hl, by rw [hnext]; exact e5, (hput val).1.trans (by rw [e3.w0]), (hput val).2, e3.na.trans hna,
        hslot' G' val (fun q v h => aX.mono e3.H e4 h) fun _ => by rw [he]; exact e6⟩
    unfold Oper.wp
    rw [e1]
    rcases e2 with rfl | ⟨rfl, rfl⟩
    · exact hfin
    · exact hfin
  · cases hγ : ts.γ with
    | false => exact skip hγ (by rw [he, hγ]; intro h; cases h) hσ
    | true =>
      rw [iP (by rw [hwant, hγ])]
      left
      rw [hγ] at hrun
      obtain ⟨hC1, hspec⟩ := hC hγ
      have hrun1 := (m6 (P := P) (γ := true) (σ := aY σ tr i) o.op hops).trans hrun
      have hrun2 := sa (σ' := aY σ tr p) hrun1
      exact yf hsim o hrun2 hC1 hspec hargs hres' fun G' w' v h1 h2 h3 h4 => stay G' w' v h1 h2 h3 hσ fun _ => by rw [he]; exact h4
  · exact skip hγ (by rw [he]; exact fun _ => ⟨[], rfl, trivial⟩) hσ
  · rw [iP (by rw [hwant, hγ])]
    left
    rw [hγ] at hrun
    have hl : ld lt i o = true := by
      rw [hld]
      cases hl : gG o with
      | true => rfl
      | false => exact ((pr hl).2 _ _ _ hrun).elim
    have hrun1 := (m6 (P := P) (γ := true) (σ := aY σ tr i) o.op hops).trans hrun
    rw [← hheap hl] at hrun1 hto
    exact wv hsim o hrun1 hC hto fun G' w' v h1 h2 h3 h4 h5 =>
      ⟨hsz', hcl', G', i + 1, hG.trans h1, by omega, hloud' hl, by rw [hnext]; exact h4, (hput v).1.trans (by rw [h1.le.w0]), (hput v).2, h1.le.na.trans hna,
        hslot' G' v (fun q v h => aX.mono h2 h3 h) fun _ => by rw [he]; exact h5⟩
  · rw [iP (by rw [hwant, hγ])]
    left
    have hl : ld lt i o = true := hld.trans hl
    rw [← hheap hl] at hx
    obtain ⟨nx, val, w', G', e1, e2, e3, e4, e5, e6⟩ := hx _ hops G a w hsim
    have hfin : pw lt l tr E σ G0 (listed.setIfInBounds i true) (a.put o.dst val) w' :=
      ⟨hsz', hcl', G', i + 1, hG.trans (Gle.mk' e3 e4), by omega, hloud' hl, by rw [hnext]; exact e5, (hput val).1.trans (by rw [e3.w0]), (hput val).2, e3.na.trans hna,
        hslot' G' val (fun q v h => aX.mono e3.H e4 h) fun _ => by rw [he]; exact e6⟩
    unfold Oper.wp
    rw [e1]
    rcases e2 with rfl | ⟨rfl, rfl⟩
    · exact hfin
    · exact hfin
theorem tH {l : List Oper} {masks : List Nat} {bs ps : List Bool} {rd : List (List Nat)} {lt : List Bool} {E : Env} {σ : List OB} {tr : List TS} (c : uu l.toArray l masks bs ps rd lt) (ht : fU P l.toArray pv l bs ps rd lt E σ tr) (G0 : Gh) {Q : Exit → Act → World → Prop}
    (fin : ∀ G a w, Gle G0 G → Sim G (cW E l tr l.length) (aY σ tr l.length) a w → Q .normal a w) :
    ∀ (fuel : Nat) (listed : Array Bool) (a : Act) (w : World), listed.toList.count false ≤ fuel → pw lt l tr E σ G0 listed a w → wpAny P .any l.toArray Q fuel listed a w := by
  have done : ∀ (listed : Array Bool) (a : Act) (w : World), pw lt l tr E σ G0 listed a w → Region.ready .any l.toArray listed = [] → Q .normal a w := by
    intro listed a w hJ hr
    obtain ⟨hsz, hcl, G, p, hG, hp, hloud, hinv, hdef, htm, hna, hslot⟩ := hJ
    have hall := wz c hsz hr
    obtain ⟨htl, hat⟩ := ht.at
    have hE := rG l tr E l.length
    have hheap : aY σ tr l.length = aY σ tr p := py ht hp (Nat.le_refl _) fun j y hy h1 h2 => by
      cases hly : ld lt j y with
      | false => rfl
      | true =>
        have := hloud j y hy hly
        rw [hall j h2] at this
        have : j < p := by simpa using this.symm
        omega
    refine fin G a w hG ⟨by rw [hheap]; exact hinv, hdef, by rw [hE.1]; exact htm, by rw [hE.2]; exact hna, fun t hc => ?_⟩
    by_cases h512 : t < 512
    · have hg : (cW E l tr l.length).get t = f8 t l tr (fun i => listed.getD i false) (E.get t) := by
        rw [qt t l tr E l.length (fun j o x hj hd => c.dst j o hj x hd) htl]
        apply ip
        intro j y hy _
        have hlt := (List.getElem?_eq_some_iff.1 hy).1
        simp [hlt, hall j hlt]
      rw [hg] at hc ⊢
      exact hslot t h512 hc
    · rw [Env.get_big _ t (by omega)] at hc; cases hc
  intro fuel
  induction fuel with
  | zero =>
    intro listed a w hf hJ
    have hr : Region.ready .any l.toArray listed = [] := by
      rw [List.eq_nil_iff_forall_not_mem]
      intro i hi
      obtain ⟨h1, o, ho, _⟩ := mem_ready.1 hi
      have hlt : i < listed.size := by rw [hJ.1]; have := (Array.getElem?_eq_some_iff.1 ho).1; simpa using this
      have : listed.toList[i]? = some false := by
        rw [Array.getD_eq_getD_getElem?, Array.getElem?_eq_getElem hlt] at h1
        rw [Array.getElem?_toList, Array.getElem?_eq_getElem hlt]
        simpa using h1
      have hpos := List.count_pos_iff.2 (List.mem_of_getElem? this)
      omega
    exact ⟨hr, done listed a w hJ hr⟩
  | succ fuel ih =>
    intro listed a w hf hJ
    refine ⟨fun hr => done listed a w hJ hr, fun i hi => ?_⟩
    have hstep := pw.stepQ (Q := Q) c ht G0 listed a w i hJ hi
    refine wpOp_mono (fun a' w' hJ' => ih _ a' w' ?_ hJ') hstep
    obtain ⟨h1, o, ho, _⟩ := mem_ready.1 hi
    have hlt : i < listed.size := by rw [hJ.1]; have := (Array.getElem?_eq_some_iff.1 ho).1; simpa using this
    have : listed.toList[i]? = some false := by
      rw [Array.getD_eq_getD_getElem?, Array.getElem?_eq_getElem hlt] at h1
      rw [Array.getElem?_toList, Array.getElem?_eq_getElem hlt]
      simpa using h1
    have hc := qu _ _ this
    simp only [Array.toList_setIfInBounds]
    omega
def TRQ (P : Program) (ops : Array Oper) (pv : List Nat) (l : List Oper) (bs ps : List Bool) (rd : List (List Nat)) (lt : List Bool) (E : Env) (σ : List OB) (k : Env → List OB → Prop) : Prop :=
  ∃ tr, fU P ops pv l bs ps rd lt E σ tr ∧ k (cW E l tr l.length) (aY σ tr l.length)
theorem xp {id : Nat} {l : List Oper} {K : Kt} {E : Env} {σ : List OB} (hm : P.follows .mixedOrders = true) (pv masks : List Nat) (bs ps : List Bool) (rd : List (List Nat)) (lt : List Bool) (hc : ww l.toArray l masks bs ps rd lt = true)
    (h : TRQ P l.toArray pv l bs ps rd lt E σ (K .normal)) : W P (.region id l.toArray true) K E σ := fun G a w hs => by
  obtain ⟨tr, ht, hk⟩ := h
  refine wp_region_any hm ?_
  refine tH (AA hc) ht G (fun G' a' w' hG hs' => ⟨G', _, _, .normal, hG, hs', rfl, hk⟩) _ _ a _ ?_ ?_
  · simp
  · have hfalse : ∀ i, (Array.replicate l.length false).getD i false = false := by
      intro i
      rw [Array.getD_eq_getD_getElem?, Array.getElem?_replicate]
      split <;> rfl
    refine ⟨by simp, fun i o ho hd => by simp [hfalse] at hd, G, 0, Gle.refl G, by omega, fun j o ho hl => by simp [hfalse], ?_, hs.defers, hs.size, hs.na, fun t ht hc => ?_⟩
    · have : aY σ tr 0 = σ := by cases tr <;> rfl
      rw [this]; exact hs.inv.drawn
    · have : f8 t l tr (fun i => (Array.replicate l.length false).getD i false) (E.get t) = E.get t := lB t l tr _ _ fun j o _ _ => hfalse j
      simp only [List.size_toArray] at hc ⊢
      rw [this] at hc ⊢
      exact hs.slot t hc
theorem fU.of {ops : Array Oper} : ∀ {l : List Oper} {bs : List Bool} {E : Env} {σ : List OB} {tr : List TS}, nZ P ops l bs E σ tr → fU P ops [] l bs [] [] [] E σ tr
  | [], _, _, _, _, h => h
  | o :: l, bs, E, σ, tr, ⟨ts, r, h1, ⟨h2, h3, h4⟩, h5⟩ => by
    refine ⟨ts, r, h1, ⟨h2, h3, .inl ⟨rfl, ?_⟩⟩, fU.of h5⟩
    rcases h4 with ⟨C, v, a, b, c, d⟩ | ⟨a, C, v, b, c, d, e⟩ | h | h | h | h
    · exact .inl ⟨C, v, a, b, rfl, c, d⟩
    · exact .inr (.inl ⟨a, C, v, b, c, d, e.imp id .inl⟩)
    · exact .inr (.inr (.inl h))
    · exact .inr (.inr (.inr (.inl h)))
    · obtain ⟨a, C, f, args, p, b, c, d, e, g⟩ := h
      exact .inr (.inr (.inr (.inr (.inl ⟨a, C, f, args, p, b, c, d, e, g.imp id .inl⟩))))
    · obtain ⟨a, b, v, c, d, e⟩ := h
      exact .inr (.inr (.inr (.inr (.inr ⟨a, b, v, c, d, e.imp id .inl⟩))))
theorem se (i : Nat) (o : Oper) : ld [] i o = gG o := by simp [ld]
theorem AB {ops : Array Oper} {l : List Oper} {masks : List Nat} {bs : List Bool} (h : chk ops l masks bs = true) : ww ops l masks bs [] [] [] = true := by
  unfold chk at h
  unfold ww
  rw [show ld ([] : List Bool) = fun _ o => gG o from by funext i o; exact se i o]
  refine Bool.and_eq_true_iff.2 ⟨h, ?_⟩
  rw [List.all_eq_true]
  intro x _
  simp only [Bool.or_eq_true, List.all_eq_true]
  right
  intro y _
  simp
end
end Pam
namespace Pam
open Go
section
variable {P:Program}
theorem yi {l:List Oper} {masks:List Nat} {bs:List Bool} (c:Chk l.toArray l masks bs) {listed:Array Bool} (hs:listed.size = l.length) (h:Region.ready .any l.toArray listed = []):∀ i,i < l.length→listed.getD i false = true:=by
 intro i
 induction i using Nat.strongRecOn with
 | _ i ih =>
  intro hi
  cases hd:listed.getD i false with
  | true=>rfl
  | false =>
   exfalso
   have ho:=List.getElem?_eq_getElem hi
   have:i∈Region.ready .any l.toArray listed:=by
    refine mem_ready.2 ⟨?_,l[i],by simp,fun e he hb=>?_⟩
    ·rw [Array.getD_eq_getD_getElem?] at hd ⊢
     rw [Array.getElem?_eq_getElem (by omega)] at hd ⊢
     simpa using hd
    ·have hlt:=c.lt i _ ho e.on (by simp only [eO,List.mem_map,List.mem_filter];exact ⟨e,⟨by simpa using he,hb⟩,rfl⟩)
     exact ih e.on hlt (by omega)
   rw [h] at this;simp at this
theorem Chk.q {ops:Array Oper} {l:List Oper} {masks:List Nat} {bs:List Bool} (c:Chk ops l masks bs):uu ops l masks bs [] [] [] :=
 ⟨c.mask,c.lt,c.dst,c.look,fun i j x y h1 h2 h3 h4=>c.loud i j x y h1 h2 (by rwa [se] at h3) (by rwa [se] at h4),c.hit,c.bar,fun _ _ _ _=>.inr fun j y _ h=>by simp at h⟩
theorem sf (l:List Oper) (tr:List TS) (E:Env) (σ:List OB) (G0:Gh) (listed:Array Bool) (a:Act) (w:World):pw [] l tr E σ G0 listed a w = StJ l tr E σ G0 listed a w:=by
 unfold pw StJ
 rw [show ld ([]:List Bool) = fun _ o=>gG o from by funext i o;exact se i o]
theorem StJ.step {l:List Oper} {bs:List Bool} {masks:List Nat} {E:Env} {σ:List OB} {tr:List TS} (c:Chk l.toArray l masks bs) (ht:nZ P l.toArray l bs E σ tr) (G0:Gh) {Q:Exit→Act→World→Prop} (listed:Array Bool) (a:Act) (w:World) (i:Nat)
  (hJ:StJ l tr E σ G0 listed a w) (hready:i∈Region.ready .any l.toArray listed):wpOp P l.toArray Q i (StJ l tr E σ G0 (listed.setIfInBounds i true)) a w:=by
 have h:=pw.stepQ (Q:=Q) c.q (fU.of ht) G0 listed a w i (by rw [sf];exact hJ) hready
 rwa [show (pw [] l tr E σ G0 (listed.setIfInBounds i true)) = StJ l tr E σ G0 (listed.setIfInBounds i true) from by funext a w;exact sf _ _ _ _ _ _ _ _] at h
theorem zg {l:List Oper} {masks:List Nat} {bs:List Bool} {E:Env} {σ:List OB} {tr:List TS} (c:Chk l.toArray l masks bs) (ht:nZ P l.toArray l bs E σ tr) (G0:Gh) {Q:Exit→Act→World→Prop}
  (fin:∀ G a w,Gle G0 G→Sim G (cW E l tr l.length) (aY σ tr l.length) a w→Q .normal a w) :
  ∀ (fuel:Nat) (listed:Array Bool) (a:Act) (w:World),listed.toList.count false ≤ fuel→StJ l tr E σ G0 listed a w→wpAny P .any l.toArray Q fuel listed a w:=by
 intro fuel listed a w h1 h2
 exact tH c.q (fU.of ht) G0 fin fuel listed a w h1 (by rw [sf];exact h2)
def TR (P:Program) (ops:Array Oper) (l:List Oper) (bs:List Bool) (E:Env) (σ:List OB) (k:Env→List OB→Prop):Prop :=
 ∃ tr,nZ P ops l bs E σ tr∧k (cW E l tr l.length) (aY σ tr l.length)
def nK:List OB→List OB→Prop
 | [],_=>True
 | a :: az,b :: bs=>a = b∧nK az bs
 | _ :: _,[]=>False
theorem oD:∀ {σ σ':List OB},nK σ σ'→Ext σ σ'
 | [],σ',_=>⟨σ',rfl⟩
 | a :: az,b :: bs,⟨h1,h2⟩=>by obtain ⟨ρ,h⟩:=oD h2;exact ⟨ρ,by rw [h1,h];rfl⟩
def kW (P:Program) (ops:Array Oper) (γ:Bool) (C:Prop) (f:FuncId) (args:List PV) (o:Oper) (r:List Oper) (bs:List Bool) (E:Env) (σ:List OB) (k:Env→List OB→Prop):Prop :=
 bI P γ E σ o.op = .call C f args→dZ ops E o.guard = some γ→TR P ops (o :: r) bs E σ k
def tI (P:Program) (ops:Array Oper) (γ:Bool) (o:Oper) (r:List Oper) (bs:List Bool) (E:Env) (σ:List OB) (k:Env→List OB→Prop) (run:Env→List OB→Prop):R→Prop
 | .ok C v=>dk E o.dst∧C∧run (E.putD o.dst ⟨γ,v⟩) σ
 | .upd C v σ'=>dk E o.dst∧γ = true∧C∧(bs.headD false = true∨nK σ σ')∧run (E.putD o.dst ⟨true,v⟩) σ'
 | .call C f args=>kW P ops γ C f args o r bs E σ k
 | .bad=>False
def gl (P:Program) (ops:Array Oper):List Oper→List Bool→Env→List OB→(Env→List OB→Prop)→Prop
 | [],_,E,σ,k=>k E σ
 | o :: r,bs,E,σ,k =>
  match dZ ops E o.guard with
  | none=>False
  | some false=>dk E o.dst∧gl P ops r bs.tail (E.putD o.dst ⟨true,.t []⟩) σ k
  | some true=>tI P ops true o r bs E σ k (fun E' σ'=>gl P ops r bs.tail E' σ' k) (bI P true E σ o.op)
theorem TR.cons {ops:Array Oper} {o:Oper} {r:List Oper} {bs:List Bool} {E:Env} {σ:List OB} {k:Env→List OB→Prop} {ts:TS} (h:zc P ops E σ o (bs.headD false) ts) (ht:TR P ops r bs.tail (E.putD o.dst ts.e) ts.σ k):TR P ops (o :: r) bs E σ k:=by
 obtain ⟨tr,h1,h2⟩:=ht
 refine ⟨ts :: tr,⟨ts,tr,rfl,h,h1⟩,?_⟩
 simpa [cW,aY] using h2
theorem ib {ops:Array Oper}:∀ (l:List Oper) (bs:List Bool) (E:Env) (σ:List OB) (k:Env→List OB→Prop),gl P ops l bs E σ k→TR P ops l bs E σ k
 | [],bs,E,σ,k,h=>⟨[],rfl,by unfold gl at h;simpa [cW,aY] using h⟩
 | o :: r,bs,E,σ,k,h=>by
  unfold gl at h
  split at h
  ·exact h.elim
  ·rename_i hγ
   exact TR.cons (ts:=⟨false,⟨true,.t []⟩,σ⟩) ⟨hγ,h.1,.inr (.inr (.inr (.inl ⟨rfl,rfl,rfl⟩)))⟩ (ib r _ _ _ _ h.2)
  ·rename_i hγ
   unfold tI at h
   split at h
   ·rename_i C v hrun
    obtain ⟨hd,hC,hr⟩:=h
    exact TR.cons (ts:=⟨true,⟨true,v⟩,σ⟩) ⟨hγ,hd,.inl ⟨C,v,hrun,hC,rfl,rfl⟩⟩ (ib r _ _ _ _ hr)
   ·rename_i C v σ' hrun
    obtain ⟨hd,hg,hC,hb,hr⟩:=h
    exact TR.cons (ts:=⟨true,⟨true,v⟩,σ'⟩) ⟨hγ,hd,.inr (.inl ⟨rfl,C,v,hrun,hC,rfl,hb.imp id oD⟩)⟩ (ib r _ _ _ _ hr)
   ·rename_i C f args hrun
    exact h hrun hγ
   ·exact h.elim
theorem uv {ops:Array Oper} {γ:Bool} {C:Prop} {f:FuncId} {args:List PV} {o:Oper} {r:List Oper} {bs:List Bool} {E:Env} {σ:List OB} {k:Env→List OB→Prop} {res:PV}
  (hs:γ = true→cd P f args res) (hd:dk E o.dst) (hC:γ = true→C) (hargs:args.all PV.noOwn = true) (hres:∀ n,res.ren (df n []) = res)
  (next:gl P ops r bs.tail (E.putD o.dst ⟨γ,res⟩) σ k):kW P ops γ C f args o r bs E σ k:=fun hrun hγ =>
 TR.cons (ts:=⟨γ,⟨γ,res⟩,σ⟩) ⟨hγ,hd,.inr (.inr (.inl ⟨C,f,args,res,hrun,fun h=>⟨hC h,hs h⟩,hargs,hres,rfl,rfl⟩))⟩ (ib r _ _ _ _ next)
theorem wA {ops:Array Oper} {C:Prop} {f:FuncId} {args:List PV} {o:Oper} {r:List Oper} {bs:List Bool} {E:Env} {σ σ2:List OB} {k:Env→List OB→Prop} {res:PV}
  (hs:kO P σ f args res σ2) (hd:dk E o.dst) (hC:C) (hb:bs.headD false = true∨nK σ σ2)
  (next:gl P ops r bs.tail (E.putD o.dst ⟨true,res⟩) σ2 k):kW P ops true C f args o r bs E σ k:=fun hrun hγ =>
 TR.cons (ts:=⟨true,⟨true,res⟩,σ2⟩) ⟨hγ,hd,.inr (.inr (.inr (.inr (.inl ⟨rfl,C,f,args,res,hrun,hC,hs,rfl,hb.imp id oD⟩))))⟩ (ib r _ _ _ _ next)
theorem uw {id:Nat} {l:List Oper} {K:Kt} {E:Env} {σ:List OB} (hm:P.follows .mixedOrders = true) (masks:List Nat) (bs:List Bool) (hc:chk l.toArray l masks bs = true)
  (h:TR P l.toArray l bs E σ (K .normal)):W P (.region id l.toArray true) K E σ:=by
 obtain ⟨tr,ht,hk⟩:=h
 exact xp hm [] masks bs [] [] [] (AB hc) ⟨tr,fU.of ht,hk⟩
theorem ra {id:Nat} {l:List Oper} {K:Kt} {E:Env} {σ:List OB} (hm:P.follows .mixedOrders = true) (masks:List Nat) (bs:List Bool) (hc:chk l.toArray l masks bs = true)
  (h:∀ (k:Env→List OB→Prop),(∀ E σ,K .normal E σ→k E σ)→gl P l.toArray l bs E σ k):W P (.region id l.toArray true) K E σ :=
 uw hm masks bs hc (ib l bs E σ _ (h (K .normal) fun _ _ h=>h))
end
end Pam
namespace Pam
open Go
theorem xq (γ : Bool) (v : PV) : aN γ ⟨true, v⟩ = True := by simp [aN]
theorem tJ (γ : Bool) (v : PV) : aN γ ⟨γ, v⟩ = True := by simp [aN]
section
variable (n na : Nat) (t x a0 a1 a2 a3 a4 a5 a6 a7 : Tr) (e : Ent) (i : Nat)
theorem zh :
    ((∀ (n na : Nat) (t : Tr) (i : Nat), Env.get ⟨n, na, t⟩ i = (((t.get (i / 64)).get (i / 8 % 8)).get (i % 8)).ent) ∧
     (∀ (n na : Nat) (t : Tr) (i : Nat) (e : Ent), Env.put ⟨n, na, t⟩ i e = ⟨n, na, t.put (i / 64) ((t.get (i / 64)).put (i / 8 % 8) (((t.get (i / 64)).get (i / 8 % 8)).put (i % 8) (.leaf e)))⟩) ∧
     (∀ (E : Env) (i : Nat) (e : Ent), Env.putD E (some i) e = E.put i e) ∧ (∀ (E : Env) (e : Ent), Env.putD E none e = E) ∧
     (∀ (n na : Nat) (t : Tr) (d : Tmp), dk ⟨n, na, t⟩ (some d) = (d < n)) ∧ (∀ E : Env, dk E none = True)) ∧
    ((∀ i, Tr.get .nil i = .nil) ∧ (∀ e, Tr.ent (.leaf e) = e) ∧ Tr.ent .nil = ⟨false, .x⟩) :=
  ⟨⟨fun _ _ _ _ => rfl, fun _ _ _ _ _ => rfl, fun _ _ _ => rfl, fun _ _ => rfl, fun _ _ _ _ => rfl, fun _ => rfl⟩, fun _ => rfl, fun _ => rfl, rfl⟩
theorem zi :
    ((∀ a0 a1 a2 a3 a4 a5 a6 a7, Tr.get (.node a0 a1 a2 a3 a4 a5 a6 a7) 0 = a0) ∧ (∀ a0 a1 a2 a3 a4 a5 a6 a7, Tr.get (.node a0 a1 a2 a3 a4 a5 a6 a7) 1 = a1) ∧
     (∀ a0 a1 a2 a3 a4 a5 a6 a7, Tr.get (.node a0 a1 a2 a3 a4 a5 a6 a7) 2 = a2) ∧ (∀ a0 a1 a2 a3 a4 a5 a6 a7, Tr.get (.node a0 a1 a2 a3 a4 a5 a6 a7) 3 = a3)) ∧
    ((∀ a0 a1 a2 a3 a4 a5 a6 a7, Tr.get (.node a0 a1 a2 a3 a4 a5 a6 a7) 4 = a4) ∧ (∀ a0 a1 a2 a3 a4 a5 a6 a7, Tr.get (.node a0 a1 a2 a3 a4 a5 a6 a7) 5 = a5) ∧
     (∀ a0 a1 a2 a3 a4 a5 a6 a7, Tr.get (.node a0 a1 a2 a3 a4 a5 a6 a7) 6 = a6) ∧ (∀ a0 a1 a2 a3 a4 a5 a6 a7, Tr.get (.node a0 a1 a2 a3 a4 a5 a6 a7) 7 = a7)) := by
  refine ⟨⟨?_, ?_, ?_, ?_⟩, ?_, ?_, ?_, ?_⟩ <;> (intros; rfl)
theorem zj :
    (((∀ a0 a1 a2 a3 a4 a5 a6 a7 x, Tr.put (.node a0 a1 a2 a3 a4 a5 a6 a7) 0 x = .node x a1 a2 a3 a4 a5 a6 a7) ∧ (∀ a0 a1 a2 a3 a4 a5 a6 a7 x, Tr.put (.node a0 a1 a2 a3 a4 a5 a6 a7) 1 x = .node a0 x a2 a3 a4 a5 a6 a7) ∧
      (∀ a0 a1 a2 a3 a4 a5 a6 a7 x, Tr.put (.node a0 a1 a2 a3 a4 a5 a6 a7) 2 x = .node a0 a1 x a3 a4 a5 a6 a7) ∧ (∀ a0 a1 a2 a3 a4 a5 a6 a7 x, Tr.put (.node a0 a1 a2 a3 a4 a5 a6 a7) 3 x = .node a0 a1 a2 x a4 a5 a6 a7)) ∧
     ((∀ a0 a1 a2 a3 a4 a5 a6 a7 x, Tr.put (.node a0 a1 a2 a3 a4 a5 a6 a7) 4 x = .node a0 a1 a2 a3 x a5 a6 a7) ∧ (∀ a0 a1 a2 a3 a4 a5 a6 a7 x, Tr.put (.node a0 a1 a2 a3 a4 a5 a6 a7) 5 x = .node a0 a1 a2 a3 a4 x a6 a7) ∧
      (∀ a0 a1 a2 a3 a4 a5 a6 a7 x, Tr.put (.node a0 a1 a2 a3 a4 a5 a6 a7) 6 x = .node a0 a1 a2 a3 a4 a5 x a7) ∧ (∀ a0 a1 a2 a3 a4 a5 a6 a7 x, Tr.put (.node a0 a1 a2 a3 a4 a5 a6 a7) 7 x = .node a0 a1 a2 a3 a4 a5 a6 x))) ∧
    (((∀ x, Tr.put .nil 0 x = .node x .nil .nil .nil .nil .nil .nil .nil) ∧ (∀ x, Tr.put .nil 1 x = .node .nil x .nil .nil .nil .nil .nil .nil) ∧
      (∀ x, Tr.put .nil 2 x = .node .nil .nil x .nil .nil .nil .nil .nil) ∧ (∀ x, Tr.put .nil 3 x = .node .nil .nil .nil x .nil .nil .nil .nil)) ∧
     ((∀ x, Tr.put .nil 4 x = .node .nil .nil .nil .nil x .nil .nil .nil) ∧ (∀ x, Tr.put .nil 5 x = .node .nil .nil .nil .nil .nil x .nil .nil) ∧
      (∀ x, Tr.put .nil 6 x = .node .nil .nil .nil .nil .nil .nil x .nil) ∧ (∀ x, Tr.put .nil 7 x = .node .nil .nil .nil .nil .nil .nil .nil x))) ∧
    (((∀ e x, Tr.put (.leaf e) 0 x = .node x .nil .nil .nil .nil .nil .nil .nil))) := by
  refine ⟨⟨⟨?_, ?_, ?_, ?_⟩, ?_, ?_, ?_, ?_⟩, ⟨⟨?_, ?_, ?_, ?_⟩, ?_, ?_, ?_, ?_⟩, ?_⟩ <;> (intros; rfl)
end
theorem C6 :
    ((∀ E t, ev E (.tmp t) = E.get t) ∧ (∀ E v, ev E (.const v) = oN v) ∧ (∀ E f, ev E (.func f) = ⟨true, .c (.fn f [])⟩)) ∧
    ((∀ k n, oN (.int k n) = ⟨true, .c (.int k n)⟩) ∧ (∀ b, oN (.bool b) = ⟨true, .c (.bool b)⟩) ∧ (∀ s, oN (.string s) = ⟨true, .c (.str s.data.toList)⟩) ∧
     (oN (.pointer none) = ⟨true, .c .nilp⟩) ∧ (oN (.slice none 0 0) = ⟨true, .c .nils⟩) ∧ (oN .nilFunc = ⟨true, .c .nilf⟩) ∧ (oN .nilIface = ⟨true, .c .nili⟩)) ∧
    ((∀ cs, oN (.agg cs) = (match i5 cs.toList with | some l => ⟨true, .a l⟩ | none => ⟨false, .x⟩)) ∧ (i5 [] = some []) ∧
     (∀ v r, i5 (v :: r) = (match jE v, i5 r with | some c, some cs => some (c :: cs) | _, _ => none)) ∧
     (∀ k n, jE (.int k n) = some (.int k n)) ∧ (∀ b, jE (.bool b) = some (.bool b)) ∧ (∀ s, jE (.string s) = some (.str s.data.toList)) ∧
     (jE (.pointer none) = some .nilp) ∧ (jE (.slice none 0 0) = some .nils) ∧ (jE .nilFunc = some .nilf) ∧ (jE .nilIface = some .nili)) := by
  refine ⟨⟨?_, ?_, ?_⟩, ⟨?_, ?_, ?_, ?_, ?_, ?_, ?_⟩, ?_, ?_, ?_, ?_, ?_, ?_, ?_, ?_, ?_, ?_⟩ <;> (intros; rfl)
theorem CC :
    ((∀ P γ E σ x, bI P γ E σ (.move x) = .ok (aN γ (ev E x)) (ev E x).v) ∧ (∀ P γ E σ x, bI P γ E σ (.assign x) = .ok (aN γ (ev E x)) (ev E x).v) ∧
     (∀ P γ E σ c a b, bI P γ E σ (.pick c a b) = oW γ (ev E c) (ev E a) (ev E b)) ∧ (∀ P γ E σ T, bI P γ E σ (.alloc T) = lw P σ T) ∧
     (∀ P γ E σ T x, bI P γ E σ (.box T x) = uo P σ T (ev E x)) ∧ (∀ P γ E σ T p, bI P γ E σ (.load T p) = lv P γ σ T (ev E p)) ∧
     (∀ P γ E σ T p x, bI P γ E σ (.store T p x) = mh P σ T (ev E p) (ev E x)) ∧ (∀ P γ E σ x, bI P γ E σ (.nilCheck x) = gf γ σ (ev E x))) ∧
    ((∀ P γ E σ op T x y T', bI P γ E σ (.binOp op T x y T') = jC P γ op T (ev E x) (ev E y)) ∧ (∀ P γ E σ op T x, bI P γ E σ (.unOp op T x) = unR γ op (ev E x)) ∧
     (∀ P γ E σ s d x, bI P γ E σ (.convert s d x) = oX P γ s d (ev E x)) ∧ (∀ P γ E σ T x i, bI P γ E σ (.fieldAddr T x i) = dP P γ σ T (ev E x) i) ∧
     (∀ P γ E σ T x i, bI P γ E σ (.field T x i) = mV P γ T (ev E x) i) ∧ (∀ P γ E σ T x i, bI P γ E σ (.indexAddr T x i) = dl P γ σ T (ev E x) (ev E i)) ∧
     (∀ P γ E σ T x i, bI P γ E σ (.index T x i) = kL P γ T (ev E x) (ev E i)) ∧ (∀ P γ E σ x i, bI P γ E σ (.extract x i) = jF γ (ev E x) i)) ∧
    ((∀ P γ E σ T x lo hi mx, bI P γ E σ (.slice T x lo hi mx) = kM P γ σ T (ev E x) (lo.map (ev E)) (hi.map (ev E)) (mx.map (ev E))) ∧
     (∀ P γ E σ T x y, bI P γ E σ (.makeSlice T x y) = gJ P σ T (ev E x) (ev E y)) ∧
     (∀ P γ E σ T (l : List (Nat × Operand)), bI P γ E σ (.build T l.toArray) = mW P γ T (qU E l)) ∧
     (∀ P γ E σ T n (l : List (Nat × Operand)), bI P γ E σ (.buildSlice T n l.toArray) = fv P σ T n (qU E l)) ∧
     (∀ P γ E σ fn (first caps : List Operand), bI P γ E σ (.makeFunc fn first.toArray caps.toArray) = iM γ fn first (caps.map (ev E))) ∧
     (∀ P γ E σ f (args : List Operand) ts, bI P γ E σ (.call ⟨.value f, args.toArray, ts⟩) = rO γ (ev E f) (args.map (ev E))) ∧
     (∀ P γ E σ b (args : List Operand) (ts : List TypeId), bI P γ E σ (.call ⟨.builtin b, args.toArray, ts.toArray⟩) = fA P γ σ b ts (args.map (ev E)))) := by
  refine ⟨⟨?_, ?_, ?_, ?_, ?_, ?_, ?_, ?_⟩, ⟨?_, ?_, ?_, ?_, ?_, ?_, ?_, ?_⟩, ?_, ?_, ?_, ?_, ?_, ?_, ?_⟩ <;> (intros; rfl)
theorem Be :
    ((∀ P γ σ T c b off, lv P γ σ T ⟨c, .c (.optr b off)⟩ = (match σ[b]? with
        | some (.box cs) => .ok (aN γ ⟨c, .c (.optr b off)⟩ ∧ bG P T = true ∧ 0 < P.cellsOf T ∧ off + P.cellsOf T ≤ cs.length ∧ (jB P T = true ∨ P.cellsOf T = 1)) (mkV P T ((cs.drop off).take (P.cellsOf T)))
        | _ => .bad)) ∧
     (∀ P γ σ T c s es i j, lv P γ σ T ⟨c, .c (.tptr s es i j)⟩ = .ok (aN γ ⟨c, .c (.tptr s es i j)⟩ ∧ bG P T = true ∧ 0 < P.cellsOf T ∧ (γ = true → i < es.length) ∧ j + P.cellsOf T ≤ s ∧ (jB P T = true ∨ P.cellsOf T = 1)) (mkV P T (((elt es i).drop j).take (P.cellsOf T)))) ∧
     (∀ P γ σ T c b ver i j, lv P γ σ T ⟨c, .c (.oel b ver i j)⟩ = (match σ[b]? with
        | some (.arr s ver' _ es) => .ok (aN γ ⟨c, .c (.oel b ver i j)⟩ ∧ ver = ver' ∧ bG P T = true ∧ 0 < P.cellsOf T ∧ (γ = true → i < es.length) ∧ j + P.cellsOf T ≤ s ∧ (jB P T = true ∨ P.cellsOf T = 1)) (mkV P T (((elt es i).drop j).take (P.cellsOf T)))
        | _ => .bad))) ∧
    ((∀ P σ T c b off x, mh P σ T ⟨c, .c (.optr b off)⟩ x = (match σ[b]? with
        | some (.box cs) => .upd (c = true ∧ x.cond = true ∧ bG P T = true ∧ 0 < P.cellsOf T ∧ x.v.cells.length = P.cellsOf T ∧ off + P.cellsOf T ≤ cs.length) .x (σ.set b (.box (ft cs off x.v.cells)))
        | _ => .bad)) ∧
     (∀ P σ T c b ver i j x, mh P σ T ⟨c, .c (.oel b ver i j)⟩ x = (match σ[b]? with
        | some (.arr s ver' T' es) => .upd (c = true ∧ x.cond = true ∧ ver = ver' ∧ bG P T = true ∧ 0 < P.cellsOf T ∧ x.v.cells.length = P.cellsOf T ∧ (x.v.cells.all CV.flat) = true ∧ i < es.length ∧ j + P.cellsOf T ≤ s) .x
            (σ.set b (.arr s ver' T' (es.set i (ft (elt es i) j x.v.cells))))
        | _ => .bad))) ∧
    ((∀ y, PV.cells (.c y) = [y]) ∧ (∀ ys, PV.cells (.a ys) = ys) ∧ (∀ P σ T x, uo P σ T x = .upd (x.cond = true ∧ bG P T = true ∧ 0 < x.v.cells.length) (.c (.optr σ.length 0)) (σ ++ [.box x.v.cells])) ∧
     (∀ P σ T, lw P σ T = (match j6 P T with | some z => .upd (0 < z.length) (.c (.optr σ.length 0)) (σ ++ [.box z]) | none => .bad))) ∧
    ((∀ (σ : List OB) b off, d8 σ (.optr b off) = (match σ[b]? with | some (.box _) => True | _ => False)) ∧ (∀ (σ : List OB) b ver lo len, d8 σ (.osl b ver lo len) = (match σ[b]? with | some (.arr _ ver' _ _) => ver = ver' | _ => False)) ∧
     (∀ (σ : List OB) b ver i j, d8 σ (.oel b ver i j) = (match σ[b]? with | some (.arr _ ver' _ _) => ver = ver' | _ => False)) ∧ (∀ P T cs, mkV P T cs = (match jB P T with | true => .a cs | false => .c (cs.headD .junk)))) := by
  refine ⟨⟨?_, ?_, ?_⟩, ⟨?_, ?_⟩, ⟨?_, ?_, ?_, ?_⟩, ?_, ?_, ?_, ?_⟩ <;> (intros; rfl)
theorem CD :
    ((∀ P γ T c c' k a k' b, jC P γ .add T ⟨c, .c (.int k a)⟩ ⟨c', .c (.int k' b)⟩ = if k = k' then .ok (aN γ ⟨c, .c (.int k a)⟩ ∧ aN γ ⟨c', .c (.int k' b)⟩ ∧ (γ = true → True)) (.c (.int k (k.wrap (a + b)))) else .bad) ∧
     (∀ P γ T c c' k a k' b, jC P γ .sub T ⟨c, .c (.int k a)⟩ ⟨c', .c (.int k' b)⟩ = if k = k' then .ok (aN γ ⟨c, .c (.int k a)⟩ ∧ aN γ ⟨c', .c (.int k' b)⟩ ∧ (γ = true → True)) (.c (.int k (k.wrap (a - b)))) else .bad) ∧
     (∀ P γ T c c' k a k' b, jC P γ .mul T ⟨c, .c (.int k a)⟩ ⟨c', .c (.int k' b)⟩ = if k = k' then .ok (aN γ ⟨c, .c (.int k a)⟩ ∧ aN γ ⟨c', .c (.int k' b)⟩ ∧ (γ = true → True)) (.c (.int k (k.wrap (a * b)))) else .bad) ∧
     (∀ P γ T c c' k a k' b, jC P γ .quo T ⟨c, .c (.int k a)⟩ ⟨c', .c (.int k' b)⟩ = if k = k' then .ok (aN γ ⟨c, .c (.int k a)⟩ ∧ aN γ ⟨c', .c (.int k' b)⟩ ∧ (γ = true → b ≠ 0)) (.c (.int k (k.wrap (a.tdiv b)))) else .bad) ∧
     (∀ P γ T c c' k a k' b, jC P γ .rem T ⟨c, .c (.int k a)⟩ ⟨c', .c (.int k' b)⟩ = if k = k' then .ok (aN γ ⟨c, .c (.int k a)⟩ ∧ aN γ ⟨c', .c (.int k' b)⟩ ∧ (γ = true → b ≠ 0)) (.c (.int k (a.tmod b))) else .bad)) ∧
    ((∀ P γ T c c' k a k' b, jC P γ .and T ⟨c, .c (.int k a)⟩ ⟨c', .c (.int k' b)⟩ = if k = k' then .ok (aN γ ⟨c, .c (.int k a)⟩ ∧ aN γ ⟨c', .c (.int k' b)⟩ ∧ (γ = true → True)) (.c (.int k (bits .and k a b))) else .bad) ∧
     (∀ P γ T c c' k a k' b, jC P γ .or T ⟨c, .c (.int k a)⟩ ⟨c', .c (.int k' b)⟩ = if k = k' then .ok (aN γ ⟨c, .c (.int k a)⟩ ∧ aN γ ⟨c', .c (.int k' b)⟩ ∧ (γ = true → True)) (.c (.int k (bits .or k a b))) else .bad) ∧
     (∀ P γ T c c' k a k' b, jC P γ .xor T ⟨c, .c (.int k a)⟩ ⟨c', .c (.int k' b)⟩ = if k = k' then .ok (aN γ ⟨c, .c (.int k a)⟩ ∧ aN γ ⟨c', .c (.int k' b)⟩ ∧ (γ = true → True)) (.c (.int k (bits .xor k a b))) else .bad) ∧
     (∀ P γ T c c' k a k' b, jC P γ .shl T ⟨c, .c (.int k a)⟩ ⟨c', .c (.int k' b)⟩ = .ok (aN γ ⟨c, .c (.int k a)⟩ ∧ aN γ ⟨c', .c (.int k' b)⟩ ∧ (γ = true → 0 ≤ b)) (.c (.int k (k.wrap (a * 2 ^ (min b.toNat k.bits)))))) ∧
     (∀ P γ T c c' k a k' b, jC P γ .shr T ⟨c, .c (.int k a)⟩ ⟨c', .c (.int k' b)⟩ = .ok (aN γ ⟨c, .c (.int k a)⟩ ∧ aN γ ⟨c', .c (.int k' b)⟩ ∧ (γ = true → 0 ≤ b)) (.c (.int k (a.fdiv (2 ^ (min b.toNat k.bits))))))) ∧
    ((∀ P γ T c c' k a k' b, jC P γ .eql T ⟨c, .c (.int k a)⟩ ⟨c', .c (.int k' b)⟩ = if k = k' then .ok (aN γ ⟨c, .c (.int k a)⟩ ∧ aN γ ⟨c', .c (.int k' b)⟩ ∧ (γ = true → True)) (.c (.bool (a == b))) else .bad) ∧
     (∀ P γ T c c' k a k' b, jC P γ .neq T ⟨c, .c (.int k a)⟩ ⟨c', .c (.int k' b)⟩ = if k = k' then .ok (aN γ ⟨c, .c (.int k a)⟩ ∧ aN γ ⟨c', .c (.int k' b)⟩ ∧ (γ = true → True)) (.c (.bool (a != b))) else .bad) ∧
     (∀ P γ T c c' k a k' b, jC P γ .lss T ⟨c, .c (.int k a)⟩ ⟨c', .c (.int k' b)⟩ = if k = k' then .ok (aN γ ⟨c, .c (.int k a)⟩ ∧ aN γ ⟨c', .c (.int k' b)⟩ ∧ (γ = true → True)) (.c (.bool (decide (a < b)))) else .bad) ∧
     (∀ P γ T c c' k a k' b, jC P γ .leq T ⟨c, .c (.int k a)⟩ ⟨c', .c (.int k' b)⟩ = if k = k' then .ok (aN γ ⟨c, .c (.int k a)⟩ ∧ aN γ ⟨c', .c (.int k' b)⟩ ∧ (γ = true → True)) (.c (.bool (decide (a ≤ b)))) else .bad) ∧
     (∀ P γ T c c' k a k' b, jC P γ .gtr T ⟨c, .c (.int k a)⟩ ⟨c', .c (.int k' b)⟩ = if k = k' then .ok (aN γ ⟨c, .c (.int k a)⟩ ∧ aN γ ⟨c', .c (.int k' b)⟩ ∧ (γ = true → True)) (.c (.bool (decide (a > b)))) else .bad) ∧
     (∀ P γ T c c' k a k' b, jC P γ .geq T ⟨c, .c (.int k a)⟩ ⟨c', .c (.int k' b)⟩ = if k = k' then .ok (aN γ ⟨c, .c (.int k a)⟩ ∧ aN γ ⟨c', .c (.int k' b)⟩ ∧ (γ = true → True)) (.c (.bool (decide (a ≥ b)))) else .bad)) := by
  refine ⟨⟨?_, ?_, ?_, ?_, ?_⟩, ⟨?_, ?_, ?_, ?_, ?_⟩, ?_, ?_, ?_, ?_, ?_, ?_⟩ <;> (intros; rfl)
theorem CE :
    ((∀ P γ op T c c' a b, jC P γ op T ⟨c, .c (.str a)⟩ ⟨c', .c (.str b)⟩ = (match rN op a b with | some (C, v) => .ok (aN γ ⟨c, .c (.str a)⟩ ∧ aN γ ⟨c', .c (.str b)⟩ ∧ (γ = true → C)) v | none => .bad)) ∧
     (∀ P γ op T c c' a b, jC P γ op T ⟨c, .c (.bool a)⟩ ⟨c', .c (.bool b)⟩ = (match op, eqV P T (.c (.bool a)) (.c (.bool b)) with
        | .eql, some (C, r) => .ok (aN γ ⟨c, .c (.bool a)⟩ ∧ aN γ ⟨c', .c (.bool b)⟩ ∧ C) (.c (.bool r)) | .neq, some (C, r) => .ok (aN γ ⟨c, .c (.bool a)⟩ ∧ aN γ ⟨c', .c (.bool b)⟩ ∧ C) (.c (.bool (!r))) | _, _ => .bad)) ∧
     (∀ P γ op T c c' a b, jC P γ op T ⟨c, .a a⟩ ⟨c', .a b⟩ = (match op, eqV P T (.a a) (.a b) with
        | .eql, some (C, r) => .ok (aN γ ⟨c, .a a⟩ ∧ aN γ ⟨c', .a b⟩ ∧ C) (.c (.bool r)) | .neq, some (C, r) => .ok (aN γ ⟨c, .a a⟩ ∧ aN γ ⟨c', .a b⟩ ∧ C) (.c (.bool (!r))) | _, _ => .bad)) ∧
     (∀ P T a b, eqV P T (.c (.bool a)) (.c (.bool b)) = some (rL P T = true, a == b)) ∧ (∀ P T s es, eqV P T (.c (.tree s es)) (.c .nils) = some (gF P T = true ∧ es ≠ [], false)) ∧ (∀ P T, eqV P T (.c .nils) (.c .nils) = some (gF P T = true, true)) ∧ (∀ P T, eqV P T (.c .emn) (.c .nils) = some (gF P T = true, false)) ∧
     (∀ P γ op T c c' s es, jC P γ op T ⟨c, .c (.tree s es)⟩ ⟨c', .c .nils⟩ = (match op, eqV P T (.c (.tree s es)) (.c .nils) with
        | .eql, some (C, r) => .ok (aN γ ⟨c, .c (.tree s es)⟩ ∧ aN γ ⟨c', .c .nils⟩ ∧ C) (.c (.bool r)) | .neq, some (C, r) => .ok (aN γ ⟨c, .c (.tree s es)⟩ ∧ aN γ ⟨c', .c .nils⟩ ∧ C) (.c (.bool (!r))) | _, _ => .bad)) ∧
     (∀ P γ op T c c', jC P γ op T ⟨c, .c .nils⟩ ⟨c', .c .nils⟩ = (match op, eqV P T (.c .nils) (.c .nils) with
        | .eql, some (C, r) => .ok (aN γ ⟨c, .c .nils⟩ ∧ aN γ ⟨c', .c .nils⟩ ∧ C) (.c (.bool r)) | .neq, some (C, r) => .ok (aN γ ⟨c, .c .nils⟩ ∧ aN γ ⟨c', .c .nils⟩ ∧ C) (.c (.bool (!r))) | _, _ => .bad)) ∧
     (∀ P γ op T c c', jC P γ op T ⟨c, .c .emn⟩ ⟨c', .c .nils⟩ = (match op, eqV P T (.c .emn) (.c .nils) with
        | .eql, some (C, r) => .ok (aN γ ⟨c, .c .emn⟩ ∧ aN γ ⟨c', .c .nils⟩ ∧ C) (.c (.bool r)) | .neq, some (C, r) => .ok (aN γ ⟨c, .c .emn⟩ ∧ aN γ ⟨c', .c .nils⟩ ∧ C) (.c (.bool (!r))) | _, _ => .bad)) ∧ (∀ P T xs ys, eqV P T (.a xs) (.a ys) = (match tb xs ys with | some b => some (va P T = some (xs.map rM), b) | none => none))) ∧
    ((∀ γ c b, unR γ .not ⟨c, .c (.bool b)⟩ = .ok (aN γ ⟨c, .c (.bool b)⟩) (.c (.bool (!b)))) ∧ (∀ γ c k n, unR γ .neg ⟨c, .c (.int k n)⟩ = .ok (aN γ ⟨c, .c (.int k n)⟩) (.c (.int k (k.wrap (0 - n))))) ∧
     (∀ γ c k n, unR γ .xor ⟨c, .c (.int k n)⟩ = .ok (aN γ ⟨c, .c (.int k n)⟩) (.c (.int k (bits .xor k (if k.signed then -1 else k.max) n)))) ∧
     (∀ γ c a b, oW γ ⟨c, .c (.bool true)⟩ a b = .ok (aN γ ⟨c, .c (.bool true)⟩ ∧ aN γ a) a.v) ∧ (∀ γ c a b, oW γ ⟨c, .c (.bool false)⟩ a b = .ok (aN γ ⟨c, .c (.bool false)⟩ ∧ aN γ b) b.v) ∧
     (∀ P γ s d c k n, oX P γ s d ⟨c, .c (.int k n)⟩ = .ok (aN γ ⟨c, .c (.int k n)⟩ ∧ (P.underlying s).isSome = true ∧ tx P d = true) (.c (.int (P.intKind d) ((P.intKind d).wrap n)))) ∧
     (∀ P γ s d c n, oX P γ s d ⟨c, .c (.str n)⟩ = .ok (aN γ ⟨c, .c (.str n)⟩ ∧ (P.underlying s).isSome = true ∧ lX P d = true) (.c (.str n)))) ∧
    ((∀ P γ σ T c b off i, dP P γ σ T ⟨c, .c (.optr b off)⟩ i = .ok (aN γ ⟨c, .c (.optr b off)⟩ ∧ d8 σ (.optr b off) ∧ lW P T i = true) (.c (.optr b (off + i1 P T i)))) ∧
     (∀ P γ σ T c s es k j i, dP P γ σ T ⟨c, .c (.tptr s es k j)⟩ i = .ok (aN γ ⟨c, .c (.tptr s es k j)⟩ ∧ lW P T i = true) (.c (.tptr s es k (j + i1 P T i)))) ∧
     (∀ P γ σ T c b ver k j i, dP P γ σ T ⟨c, .c (.oel b ver k j)⟩ i = .ok (aN γ ⟨c, .c (.oel b ver k j)⟩ ∧ d8 σ (.oel b ver k j) ∧ lW P T i = true) (.c (.oel b ver k (j + i1 P T i)))) ∧
     (∀ P γ T c ys i, mV P γ T ⟨c, .a ys⟩ i = .ok (aN γ ⟨c, .a ys⟩ ∧ lW P T i = true ∧ bG P (nP P T i) = true ∧ i1 P T i + P.cellsOf (nP P T i) ≤ ys.length ∧ (jB P (nP P T i) = true ∨ P.cellsOf (nP P T i) = 1))
      (mkV P (nP P T i) ((ys.drop (i1 P T i)).take (P.cellsOf (nP P T i)))))) := by
  refine ⟨⟨?_, ?_, ?_, ?_, ?_, ?_, ?_, ?_, ?_, ?_, ?_⟩, ⟨?_, ?_, ?_, ?_, ?_, ?_, ?_⟩, ?_, ?_, ?_, ?_⟩ <;> (intros; rfl)
theorem C7 :
    ((∀ P γ σ T c c' s es k n, dl P γ σ T ⟨c, .c (.tree s es)⟩ ⟨c', .c (.int k n)⟩ = .ok (aN γ ⟨c, .c (.tree s es)⟩ ∧ aN γ ⟨c', .c (.int k n)⟩ ∧ gF P T = true ∧ bG P (P.elem T) = true ∧ P.cellsOf (P.elem T) = s ∧ (γ = true → 0 ≤ n ∧ n < es.length)) (.c (.tptr s es n.toNat 0))) ∧
     (∀ P γ σ T c c' b ver lo len k n, dl P γ σ T ⟨c, .c (.osl b ver lo len)⟩ ⟨c', .c (.int k n)⟩ = (match σ[b]? with
        | some (.arr s ver' _ _) => .ok (aN γ ⟨c, .c (.osl b ver lo len)⟩ ∧ aN γ ⟨c', .c (.int k n)⟩ ∧ ver = ver' ∧ gF P T = true ∧ bG P (P.elem T) = true ∧ P.cellsOf (P.elem T) = s ∧ (γ = true → 0 ≤ n ∧ n < len)) (.c (.oel b ver (lo + n.toNat) 0))
        | _ => .bad)) ∧
     (∀ P γ σ T c c' b off k n, dl P γ σ T ⟨c, .c (.optr b off)⟩ ⟨c', .c (.int k n)⟩ = .ok (aN γ ⟨c, .c (.optr b off)⟩ ∧ aN γ ⟨c', .c (.int k n)⟩ ∧ d8 σ (.optr b off) ∧ lu P T = true ∧ bG P (P.elem T) = true ∧ (γ = true → 0 ≤ n ∧ n < P.arrayLen T)) (.c (.optr b (off + n.toNat * P.cellsOf (P.elem T))))) ∧
     (∀ P γ σ T c c' b ver i j k n, dl P γ σ T ⟨c, .c (.oel b ver i j)⟩ ⟨c', .c (.int k n)⟩ = (match σ[b]? with
        | some (.arr s ver' _ _) => .ok (aN γ ⟨c, .c (.oel b ver i j)⟩ ∧ aN γ ⟨c', .c (.int k n)⟩ ∧ ver = ver' ∧ lu P T = true ∧ bG P (P.elem T) = true ∧ P.cellsOf (P.elem T) = s ∧ j = 0 ∧ (γ = true → 0 ≤ n ∧ n < P.arrayLen T)) (.c (.oel b ver (i + n.toNat) 0))
        | _ => .bad)) ∧
     (∀ P γ σ T c c' s es i j k n, dl P γ σ T ⟨c, .c (.tptr s es i j)⟩ ⟨c', .c (.int k n)⟩ = .ok (aN γ ⟨c, .c (.tptr s es i j)⟩ ∧ aN γ ⟨c', .c (.int k n)⟩ ∧ lu P T = true ∧ bG P (P.elem T) = true ∧ P.cellsOf (P.elem T) = s ∧ i = 0 ∧ j = 0 ∧ P.arrayLen T = es.length ∧ (γ = true → 0 ≤ n ∧ n < es.length)) (.c (.tptr s es n.toNat 0))) ∧
     (∀ P γ T c c' s k n, kL P γ T ⟨c, .c (.str s)⟩ ⟨c', .c (.int k n)⟩ = .ok (aN γ ⟨c, .c (.str s)⟩ ∧ aN γ ⟨c', .c (.int k n)⟩ ∧ lX P T = true ∧ (γ = true → 0 ≤ n ∧ n < s.length)) (.c (.int .u8 ((s.getD n.toNat 0).toNat)))) ∧
     (∀ P γ T c c' ys k n, kL P γ T ⟨c, .a ys⟩ ⟨c', .c (.int k n)⟩ = .ok (aN γ ⟨c, .a ys⟩ ∧ aN γ ⟨c', .c (.int k n)⟩ ∧ lu P T = true ∧ bG P (P.elem T) = true ∧ P.arrayLen T * P.cellsOf (P.elem T) ≤ ys.length ∧ jB P (P.elem T) = false ∧ P.cellsOf (P.elem T) = 1 ∧ (γ = true → 0 ≤ n ∧ n < P.arrayLen T)) (.c (ys.getD n.toNat .junk)))) ∧
    ((∀ γ c ps i, jF γ ⟨c, .t ps⟩ i = .ok (aN γ ⟨c, .t ps⟩ ∧ i < ps.length) (ps.getD i .x)) ∧
     (∀ P γ σ T c s es, oO P γ σ T ⟨c, .c (.tree s es)⟩ = .ok (aN γ ⟨c, .c (.tree s es)⟩ ∧ gF P T = true) (.c (.int .i64 es.length))) ∧
     (∀ P γ σ T c b ver lo len, oO P γ σ T ⟨c, .c (.osl b ver lo len)⟩ = .ok (aN γ ⟨c, .c (.osl b ver lo len)⟩ ∧ d8 σ (.osl b ver lo len) ∧ gF P T = true) (.c (.int .i64 len))) ∧
     (∀ P γ σ T c, oO P γ σ T ⟨c, .c .nils⟩ = .ok (aN γ ⟨c, .c .nils⟩ ∧ gF P T = true) (.c (.int .i64 0))) ∧ (∀ P γ σ T c, oO P γ σ T ⟨c, .c .emn⟩ = .ok (aN γ ⟨c, .c .emn⟩ ∧ gF P T = true) (.c (.int .i64 0))) ∧ (∀ P γ σ T c, oO P γ σ T ⟨c, .c .emp⟩ = .ok (aN γ ⟨c, .c .emp⟩ ∧ gF P T = true) (.c (.int .i64 0))) ∧
     (∀ P γ σ T c s, oO P γ σ T ⟨c, .c (.str s)⟩ = .ok (aN γ ⟨c, .c (.str s)⟩ ∧ lX P T = true) (.c (.int .i64 s.length)))) ∧
    ((∀ P γ σ T x, fA P γ σ .len [T] [x] = oO P γ σ T x) ∧ (∀ P γ σ T T' x y, fA P γ σ .append [T, T'] [x, y] = if T = T' ∨ lX P T' then kh P σ T x y else .bad) ∧
     (∀ P γ σ l x y, fA P γ σ .min l [x, y] = fw γ false x y) ∧ (∀ P γ σ l x y, fA P γ σ .max l [x, y] = fw γ true x y) ∧
     (∀ γ mx c c' k a k' b, fw γ mx ⟨c, .c (.int k a)⟩ ⟨c', .c (.int k' b)⟩ = .ok (aN γ ⟨c, .c (.int k a)⟩ ∧ aN γ ⟨c', .c (.int k' b)⟩ ∧ k = k') (.c (.int k (if mx then (if b > a then b else a) else (if b < a then b else a))))) ∧
     (∀ γ c g caps args, rO γ ⟨c, .c (.fn g caps)⟩ args = .call (c = true ∧ ∀ e ∈ args, aN γ e) g (args.map (·.v) ++ caps.map .c)) ∧
     (∀ γ σ c b off, gf γ σ ⟨c, .c (.optr b off)⟩ = .ok (aN γ ⟨c, .c (.optr b off)⟩ ∧ d8 σ (.optr b off)) (.c (.optr b off)))) := by
  refine ⟨⟨?_, ?_, ?_, ?_, ?_, ?_, ?_⟩, ⟨?_, ?_, ?_, ?_, ?_, ?_, ?_⟩, ?_, ?_, ?_, ?_, ?_, ?_, ?_⟩ <;> (intros; rfl)
theorem AC :
    (∀ ops E, dZ ops E none = some true) ∧ (∀ (l : List Oper) E j w, dZ l.toArray E (some (j, w)) = (match l[j]? with
      | none => none
      | some o => (match o.dst with | none => none | some d => (match (E.get d).cond, (E.get d).v with | true, .c (.bool X) => some (X == w) | true, .t [] => some false | _, _ => none)))) := by
  refine ⟨?_, ?_⟩
  · intros; rfl
  · intro l E j w; rw [← List.getElem?_toArray]; rfl
end Pam
namespace Pam
open Go
theorem xr {α:Type} [Inhabited α] (f:α→List CV) (xs:List α) (i:Nat) (h:i < xs.length):elt (xs.map f) i = f (xs.getD i default):=by
 simp [elt,List.getD,h]
end Pam
namespace Pam
open Go
def Tr.le : Tr → Tr → Prop
  | _, .nil => True
  | t, .leaf e' => e'.cond = false ∨ t = .leaf e'
  | .node a0 a1 a2 a3 a4 a5 a6 a7, .node b0 b1 b2 b3 b4 b5 b6 b7 => Tr.le a0 b0 ∧ Tr.le a1 b1 ∧ Tr.le a2 b2 ∧ Tr.le a3 b3 ∧ Tr.le a4 b4 ∧ Tr.le a5 b5 ∧ Tr.le a6 b6 ∧ Tr.le a7 b7
  | .nil, .node b0 b1 b2 b3 b4 b5 b6 b7 => Tr.le .nil b0 ∧ Tr.le .nil b1 ∧ Tr.le .nil b2 ∧ Tr.le .nil b3 ∧ Tr.le .nil b4 ∧ Tr.le .nil b5 ∧ Tr.le .nil b6 ∧ Tr.le .nil b7
  | _, .node _ _ _ _ _ _ _ _ => False
def Tr.under (n : Nat) : Tr → Prop
  | .nil => True
  | .leaf e => e.cond = false ∨ e.v.under n
  | .node a0 a1 a2 a3 a4 a5 a6 a7 => Tr.under n a0 ∧ Tr.under n a1 ∧ Tr.under n a2 ∧ Tr.under n a3 ∧ Tr.under n a4 ∧ Tr.under n a5 ∧ Tr.under n a6 ∧ Tr.under n a7
theorem Tr.le_get {t t' : Tr} (h : Tr.le t t') (j : Nat) : Tr.le (t.get j) (t'.get j) := by
  rcases Nat.lt_or_ge j 8 with hj | hj
  · have hj' : j = 0 ∨ j = 1 ∨ j = 2 ∨ j = 3 ∨ j = 4 ∨ j = 5 ∨ j = 6 ∨ j = 7 := by omega
    cases t' with
    | nil => show Tr.le _ .nil; cases t.get j <;> trivial
    | leaf e => show Tr.le _ .nil; cases t.get j <;> trivial
    | node b0 b1 b2 b3 b4 b5 b6 b7 =>
      cases t with
      | nil =>
        obtain ⟨h0, h1, h2, h3, h4, h5, h6, h7⟩ := h
        rcases hj' with rfl | rfl | rfl | rfl | rfl | rfl | rfl | rfl <;> assumption
      | leaf e => exact h.elim
      | node a0 a1 a2 a3 a4 a5 a6 a7 =>
        obtain ⟨h0, h1, h2, h3, h4, h5, h6, h7⟩ := h
        rcases hj' with rfl | rfl | rfl | rfl | rfl | rfl | rfl | rfl <;> assumption
  · rw [Tr.get_big t' j hj]; cases t.get j <;> trivial
theorem Tr.le_ent {t t' : Tr} (h : Tr.le t t') (hc : t'.ent.cond = true) : t.ent = t'.ent := by
  cases t' with
  | nil => cases hc
  | node => cases hc
  | leaf e =>
    have h' : e.cond = false ∨ t = .leaf e := by cases t <;> exact h
    rcases h' with h' | h'
    · simp only [Tr.ent] at hc; rw [h'] at hc; cases hc
    · rw [h']
theorem Tr.under_get {n : Nat} {t : Tr} (h : Tr.under n t) (j : Nat) : Tr.under n (t.get j) := by
  rcases Nat.lt_or_ge j 8 with hj | hj
  · have hj' : j = 0 ∨ j = 1 ∨ j = 2 ∨ j = 3 ∨ j = 4 ∨ j = 5 ∨ j = 6 ∨ j = 7 := by omega
    cases t with
    | nil => trivial
    | leaf e => trivial
    | node a0 a1 a2 a3 a4 a5 a6 a7 =>
      obtain ⟨h0, h1, h2, h3, h4, h5, h6, h7⟩ := h
      rcases hj' with rfl | rfl | rfl | rfl | rfl | rfl | rfl | rfl <;> assumption
  · rw [Tr.get_big t j hj]; trivial
theorem Tr.under_ent {n : Nat} {t : Tr} (h : Tr.under n t) (hc : t.ent.cond = true) : t.ent.v.under n := by
  cases t with
  | nil => cases hc
  | node => cases hc
  | leaf e => rcases h with h | h
              · simp only [Tr.ent] at hc; rw [h] at hc; cases hc
              · exact h
def nA (E : Env) (σ : List OB) (E' : Env) (τ : List OB) : Prop :=
  (E.n = E'.n ∧ E.na = E'.na) ∧ Tr.le E.t E'.t ∧ (∃ ρ, σ = τ ++ ρ) ∧ E.na ≤ τ.length ∧ ck τ.length τ ∧ Tr.under τ.length E'.t
theorem nA.sim {G : Gh} {E E' : Env} {σ τ : List OB} {a : Act} {w : World} (h : nA E σ E' τ) (hs : Sim G E σ a w) :
    ∃ G', Gle G G' ∧ Sim G' E' τ a w := by
  obtain ⟨⟨hn, hna'⟩, hk, ⟨ρ, rfl⟩, hna, hob, hsl⟩ := h
  refine ⟨{ G with own := G.own.take τ.length }, ⟨⟨fun _ _ h => h, rfl, rfl, rfl⟩, ?_⟩, hs.inv.drop hob, hs.defers, by rw [← hn]; exact hs.size, by rw [← hna']; exact hs.na, fun i hc => ?_⟩
  · intro b oo hb hoo
    refine ⟨oo, ?_, fun o' e => ⟨o', e, .inl rfl⟩⟩
    rw [hs.na] at hb
    simp only
    rw [List.getElem?_take_of_lt (by omega)]; exact hoo
  · have hE : E.get i = E'.get i := Tr.le_ent (Tr.le_get (Tr.le_get (Tr.le_get hk _) _) _) hc
    have hu : (E'.get i).v.under τ.length := Tr.under_ent (Tr.under_get (Tr.under_get (Tr.under_get hsl _) _) _) hc
    have hr := hs.slot i (by rw [hE]; exact hc)
    rw [hE] at hr
    exact aX.drop (G := G) (G' := { G with own := G.own.take τ.length }) rfl rfl hu hr
def Env.erase (E : Env) (i : Nat) : Env := ⟨E.n, E.na, E.t.put (i / 64) ((E.t.get (i / 64)).put (i / 8 % 8) (((E.t.get (i / 64)).get (i / 8 % 8)).put (i % 8) .nil))⟩
def Env.forget (E : Env) : List Nat → Env
  | [] => E
  | i :: r => Env.forget (E.erase i) r
def Env.puts (E : Env) : List (Nat × PV) → Env
  | [] => E
  | (i, p) :: r => Env.puts (E.put i ⟨true, p⟩) r
def Env.over (E : Env) (ms : List Nat) (l : List (Nat × PV)) : Env := (E.forget ms).puts l
section
variable {P : Program} {K : Kt} {E E0 : Env} {σ : List OB}
theorem AD {c : Code} {E' : Env} {τ : List OB} (h : nA E σ E' τ) (hw : W P c K E' τ) : W P c K E σ := fun G a w hs => by
  obtain ⟨G', h1, h2⟩ := h.sim hs
  exact Code.wp_mono (fun _ _ _ hq => dY.back h1 hq) (hw G' a w h2)
theorem Tr.get_erase (t : Tr) (i j : Nat) (x : Tr) : (t.put i x).get j = .nil ∨ (t.put i x).get j = t.get j ∨ (j = i ∧ (t.put i x).get j = x) := by
  rcases Nat.lt_or_ge i 8 with hi | hi
  · rw [Tr.get_put t i j x hi]
    by_cases e : j = i
    · subst e; simp
    · simp [e]
  · rcases Tr.put_big t i j x hi with h | h
    · exact .inr (.inl h)
    · exact .inl h
theorem Env.erase_get (E : Env) (i j : Nat) (h : ((E.erase i).get j).cond = true) : (E.erase i).get j = E.get j := by
  unfold Env.erase Env.get at *
  simp only at *
  have nil1 : ∀ k, (Tr.nil.get k) = .nil := fun _ => rfl
  rcases Tr.get_erase E.t (i / 64) (j / 64) ((E.t.get (i / 64)).put (i / 8 % 8) (((E.t.get (i / 64)).get (i / 8 % 8)).put (i % 8) .nil)) with e | e | ⟨e0, e⟩
  · rw [e] at h; simp [nil1, Tr.ent] at h
  · rw [e]
  · rw [e] at h ⊢
    rcases Tr.get_erase (E.t.get (i / 64)) (i / 8 % 8) (j / 8 % 8) (((E.t.get (i / 64)).get (i / 8 % 8)).put (i % 8) .nil) with f | f | ⟨f0, f⟩
    · rw [f] at h; simp [nil1, Tr.ent] at h
    · rw [f, e0]
    · rw [f] at h ⊢
      rcases Tr.get_erase ((E.t.get (i / 64)).get (i / 8 % 8)) (i % 8) (j % 8) .nil with g | g | ⟨g0, g⟩
      · rw [g] at h; simp [Tr.ent] at h
      · rw [g, e0, f0]
      · rw [g] at h; simp [Tr.ent] at h
theorem Env.erase_sim {G : Gh} {E : Env} {σ : List OB} {a : Act} {w : World} (h : Sim G E σ a w) (i : Nat) : Sim G (E.erase i) σ a w :=
  ⟨h.inv, h.defers, h.size, h.na, fun j hc => by have e := Env.erase_get E i j hc; rw [e] at hc ⊢; exact h.slot j hc⟩
theorem Env.forget_sim {G : Gh} {σ : List OB} {a : Act} {w : World} : ∀ (ms : List Nat) {E : Env}, Sim G E σ a w → Sim G (E.forget ms) σ a w
  | [], _, h => h
  | i :: r, _, h => Env.forget_sim r (Env.erase_sim h i)
theorem mA {c : Code} (ms : List Nat) (h : W P c K (E.forget ms) σ) : W P c K E σ := fun G a w hs => h G a w (Env.forget_sim ms hs)
theorem aI {id : Nat} {l : List Oper} {y : Code} (ms : List Nat)
    (h : ∀ (k : Env → List OB → Prop) (kp : PV → Env → List OB → Prop), (∀ E σ, W P y K E σ → k E σ) → (∀ p E σ, K (.panic p) E σ → kp p E σ) → fa P l.toArray l E σ (fun E σ => k (E.forget ms) σ) kp) :
    W P (.seq (.region id l.toArray false) y) K E σ := qX fun G a w hs =>
  wp_region_lit (dp (fun _ _ _ hp => dY.mono (fun x E σ hk => by
      cases x with
      | normal => exact mA ms hk
      | exit id => exact hk.elim
      | ret => exact hk.elim
      | panic p => exact hk) hp)
    l a w (iQ l E σ _ _ (h (W P y K) (fun p => K (.panic p)) (fun _ _ h => h) (fun _ _ _ h => h)) G a w hs))
theorem kP {id : Nat} {l : List Oper} {y : Code} (ms : List Nat) (hm : P.follows .mixedOrders = true) (masks : List Nat) (bs : List Bool) (hc : chk l.toArray l masks bs = true)
    (h : ∀ (k : Env → List OB → Prop), (∀ E σ, W P y K E σ → k E σ) → gl P l.toArray l bs E σ (fun E σ => k (E.forget ms) σ)) : W P (.seq (.region id l.toArray true) y) K E σ :=
  qX (uw hm masks bs hc (by
    obtain ⟨tr, h1, h2⟩ := ib l bs E σ _ (h (W P y K) fun _ _ h => h)
    exact ⟨tr, h1, mA ms h2⟩))
theorem ak {k : Env → List OB → Prop} (h : k E σ) : tE k K .normal E σ := h
theorem bb {k : Env → List OB → Prop} {i : Nat} (h : K (.exit i) E σ) : tE k K (.exit i) E σ := h
theorem ah {k : Env → List OB → Prop} (h : K .ret E σ) : tE k K .ret E σ := h
theorem au {i : Nat} (h : K .normal E σ) : nS i K .normal E σ := h
theorem aF {i : Nat} (h : K .normal E σ) : nS i K (.exit i) E σ := by simp only [nS, if_true]; exact h
theorem zk {i j : Nat} (hj : j ≠ i) (h : K (.exit j) E σ) : nS i K (.exit j) E σ := by simp only [nS, iN hj]; exact h
theorem ab {i : Nat} (h : K .ret E σ) : nS i K .ret E σ := h
section
variable {α : Type} {ms : List Nat} {slots : α → List (Nat × PV)} {heap : α → List OB} {inv : α → Prop} {μ : α → Nat} {x : α}
end
theorem ag {c : Operand} {x y : Code} {X : Bool} (hc : ev E c = ⟨true, .c (.bool X)⟩) (hX : X = true) (h : W P x K E σ) : W P (.cond c x y) K E σ :=
  zb hc (fun _ => h) (fun h' => by rw [hX] at h'; cases h')
theorem ai {c : Operand} {x y : Code} {X : Bool} (hc : ev E c = ⟨true, .c (.bool X)⟩) (hX : X = false) (h : W P y K E σ) : W P (.cond c x y) K E σ :=
  zb hc (fun h' => by rw [hX] at h'; cases h') (fun _ => h)
end
def mB : List OB → List OB → Prop
  | [], _ => True
  | a :: az, b :: bs => a = b ∧ mB az bs
  | _ :: _, [] => False
theorem sg : ∀ {τ σ : List OB}, mB τ σ → ∃ ρ, σ = τ ++ ρ
  | [], σ, _ => ⟨σ, rfl⟩
  | a :: az, b :: bs, h => by obtain ⟨ρ, hr⟩ := sg h.2; exact ⟨ρ, by rw [h.1, hr]; rfl⟩
theorem yj (τ ρ : List OB) : mB τ (τ ++ ρ) := by
  induction τ with
  | nil => trivial
  | cons a az ih => exact ⟨rfl, ih⟩
theorem zl :
    ((∀ E σ E' τ, nA E σ E' τ = ((E.n = E'.n ∧ E.na = E'.na) ∧ Tr.le E.t E'.t ∧ mB τ σ ∧ E.na ≤ τ.length ∧ ck τ.length τ ∧ Tr.under τ.length E'.t)) ∧
     (∀ τ, mB [] τ = True) ∧ (∀ a az b bs, mB (a :: az) (b :: bs) = (a = b ∧ mB az bs)) ∧ (∀ a az, mB (a :: az) [] = False) ∧
     (∀ t, Tr.le t .nil = True) ∧ (∀ e t, Tr.le t (.leaf ⟨false, e⟩) = True) ∧ (∀ c v v', Tr.le (.leaf ⟨c, v⟩) (.leaf ⟨true, v'⟩) = (c = true ∧ v = v')) ∧
     (∀ b0 b1 b2 b3 b4 b5 b6 b7, Tr.le .nil (.node b0 b1 b2 b3 b4 b5 b6 b7) = (Tr.le .nil b0 ∧ Tr.le .nil b1 ∧ Tr.le .nil b2 ∧ Tr.le .nil b3 ∧ Tr.le .nil b4 ∧ Tr.le .nil b5 ∧ Tr.le .nil b6 ∧ Tr.le .nil b7)) ∧
     (∀ a0 a1 a2 a3 a4 a5 a6 a7 b0 b1 b2 b3 b4 b5 b6 b7, Tr.le (.node a0 a1 a2 a3 a4 a5 a6 a7) (.node b0 b1 b2 b3 b4 b5 b6 b7) = (Tr.le a0 b0 ∧ Tr.le a1 b1 ∧ Tr.le a2 b2 ∧ Tr.le a3 b3 ∧ Tr.le a4 b4 ∧ Tr.le a5 b5 ∧ Tr.le a6 b6 ∧ Tr.le a7 b7))) ∧
    ((∀ n, Tr.under n .nil = True) ∧ (∀ n v, Tr.under n (.leaf ⟨false, v⟩) = True) ∧ (∀ n v, Tr.under n (.leaf ⟨true, v⟩) = v.under n) ∧
     (∀ n a0 a1 a2 a3 a4 a5 a6 a7, Tr.under n (.node a0 a1 a2 a3 a4 a5 a6 a7) = (Tr.under n a0 ∧ Tr.under n a1 ∧ Tr.under n a2 ∧ Tr.under n a3 ∧ Tr.under n a4 ∧ Tr.under n a5 ∧ Tr.under n a6 ∧ Tr.under n a7))) ∧
    ((∀ E ms l, Env.over E ms l = (E.forget ms).puts l) ∧      (∀ E, Env.puts E [] = E) ∧ (∀ E i p r, Env.puts E ((i, p) :: r) = Env.puts (E.put i ⟨true, p⟩) r)) ∧
    ((∀ n, ck n [] = True) ∧ (∀ n o r, ck n (o :: r) = (o.under n ∧ ck n r)) ∧ (∀ n cs, OB.under n (.box cs) = cQ n cs) ∧ (∀ n, OB.under n .dead = True) ∧ (∀ n s v T es, OB.under n (.arr s v T es) = True) ∧ (∀ n P k m, OB.under n (.mp P k m) = True) ∧
     (∀ n, cQ n [] = True) ∧ (∀ n c r, cQ n (c :: r) = (c.under n ∧ cQ n r)) ∧ (∀ n y, PV.under n (.c y) = y.under n) ∧ (∀ n ys, PV.under n (.a ys) = cQ n ys) ∧ (∀ n, PV.under n .x = True)) ∧
    ((∀ n b, CV.under n (.bool b) = True) ∧ (∀ n k m, CV.under n (.int k m) = True) ∧ (∀ n s, CV.under n (.str s) = True) ∧ (∀ n s es, CV.under n (.tree s es) = True) ∧ (∀ n s es i j, CV.under n (.tptr s es i j) = True) ∧
     (∀ n, CV.under n .nilp = True) ∧ (∀ n, CV.under n .nils = True) ∧ (∀ n, CV.under n .nilf = True) ∧ (∀ n, CV.under n .nili = True) ∧ (∀ n, CV.under n .emp = True) ∧ (∀ n, CV.under n .emn = True) ∧ (∀ n, CV.under n .junk = True) ∧
     (∀ n b off, CV.under n (.optr b off) = (b < n)) ∧ (∀ n b v l k, CV.under n (.osl b v l k) = (b < n)) ∧ (∀ n b v i j, CV.under n (.oel b v i j) = (b < n)) ∧ (∀ n f, CV.under n (.fn f []) = True) ∧ (∀ n t g cs, CV.under n (.ifc t g cs) = True)) := by
  refine ⟨⟨?_, ?_, ?_, ?_, ?_, ?_, ?_, ?_, ?_⟩, ⟨?_, ?_, ?_, ?_⟩, ⟨?_, ?_, ?_⟩, ⟨?_, ?_, ?_, ?_, ?_, ?_, ?_, ?_, ?_, ?_, ?_⟩, ?_, ?_, ?_, ?_, ?_, ?_, ?_, ?_, ?_, ?_, ?_, ?_, ?_, ?_, ?_, ?_, ?_⟩
  all_goals first
    | (intros; rfl)
    | (intro E σ E' τ; unfold nA; exact propext ⟨fun ⟨h1, h2, ⟨ρ, h3⟩, h4⟩ => ⟨h1, h2, by rw [h3]; exact yj τ ρ, h4⟩, fun ⟨h1, h2, h3, h4⟩ => ⟨h1, h2, sg h3, h4⟩⟩)
    | (intro t; cases t <;> rfl)
    | (intro e t; cases t <;> simp [Tr.le]; done)
    | (intros; simp [Tr.le]; done)
    | (intros; simp [Tr.under]; done)
    | (intros; simp [CV.under]; done)
theorem nC {P : Program} {c : Code} {K : Kt} {E E' : Env} {σ σ' : List OB} (hE : E = E') (hσ : σ = σ') (h : W P c K E' σ') : W P c K E σ := by subst hE hσ; exact h
theorem Bf :
    ((∀ x y, (PV.c x = PV.c y) = (x = y)) ∧ (∀ x y, (PV.a x = PV.a y) = (x = y)) ∧ (∀ x y, (PV.t x = PV.t y) = (x = y)) ∧ (∀ k n k' n', (CV.int k n = CV.int k' n') = (k = k' ∧ n = n')) ∧ (∀ b b', (CV.bool b = CV.bool b') = (b = b')) ∧ (∀ b b', (CV.str b = CV.str b') = (b = b'))) ∧
    ((∀ s es s' es', (CV.tree s es = CV.tree s' es') = (s = s' ∧ es = es')) ∧ (∀ s es i j s' es' i' j', (CV.tptr s es i j = CV.tptr s' es' i' j') = (s = s' ∧ es = es' ∧ i = i' ∧ j = j')) ∧
     (∀ b o b' o', (CV.optr b o = CV.optr b' o') = (b = b' ∧ o = o')) ∧ (∀ b v l n b' v' l' n', (CV.osl b v l n = CV.osl b' v' l' n') = (b = b' ∧ v = v' ∧ l = l' ∧ n = n')) ∧ (∀ b v l n b' v' l' n', (CV.oel b v l n = CV.oel b' v' l' n') = (b = b' ∧ v = v' ∧ l = l' ∧ n = n'))) ∧
    ((∀ cs cs', (OB.box cs = OB.box cs') = (cs = cs')) ∧ (∀ s v T es s' v' T' es', (OB.arr s v T es = OB.arr s' v' T' es') = (s = s' ∧ v = v' ∧ T = T' ∧ es = es')) ∧ (∀ P k m P' k' m', (OB.mp P k m = OB.mp P' k' m') = (P = P' ∧ k = k' ∧ m = m')) ∧
     (∀ {α : Type} (a : α) az b bs, (a :: az = b :: bs) = (a = b ∧ az = bs)) ∧ (∀ {α β : Type} (a : α) (b : β) a' b', ((a, b) = (a', b')) = (a = a' ∧ b = b'))) := by
  refine ⟨⟨?_, ?_, ?_, ?_, ?_, ?_⟩, ⟨?_, ?_, ?_, ?_, ?_⟩, ?_, ?_, ?_, ?_, ?_⟩ <;> (intros; simp)
theorem CF :
    ((∀ P rs post pp E σ, nW P rs post pp .ret E σ = (match io P E σ rs with | some (C, ps) => C ∧ ps.all PV.isV = true ∧ post (ij ps) σ | none => False)) ∧
     (∀ P rs post pp E σ, nW P rs post pp .normal E σ = (match io P E σ rs with | some (C, ps) => C ∧ ps.all PV.isV = true ∧ post (ij ps) σ | none => False)) ∧
     (∀ P rs post pp p E σ, nW P rs post pp (.panic p) E σ = pp p σ)) ∧
    ((∀ P E σ, io P E σ [] = some (True, [])) ∧ (∀ P E σ r rs, io P E σ (r :: rs) = (match yb P E σ r, io P E σ rs with | some (C, p), some (C', ps) => some (C ∧ C', p :: ps) | _, _ => none)) ∧
     (∀ P E σ t, yb P E σ (.tmp t) = some ((E.get t).cond = true, (E.get t).v)) ∧ (∀ P E σ t T, yb P E σ (.cell t T) = (match lv P true σ T (E.get t) with | .ok C v => some (C, v) | _ => none))) ∧
    ((∀ p, ij [p] = p) ∧ (ij [] = .t []) ∧ (∀ p q r, ij (p :: q :: r) = .t (p :: q :: r)) ∧ (∀ y, PV.isV (.c y) = true) ∧ (∀ y, PV.isV (.a y) = true) ∧ (PV.isV .x = true)) := by
  refine ⟨⟨?_, ?_, ?_⟩, ⟨?_, ?_, ?_, ?_⟩, ?_, ?_, ?_, ?_, ?_, ?_⟩ <;> (intros; rfl)
theorem CG : (∀ E, Env.forget E [] = E) ∧ (∀ E i r, Env.forget E (i :: r) = Env.forget (E.erase i) r) ∧ (∀ n na t i, Env.erase ⟨n, na, t⟩ i = ⟨n, na, t.put (i / 64) ((t.get (i / 64)).put (i / 8 % 8) (((t.get (i / 64)).get (i / 8 % 8)).put (i % 8) .nil))⟩) :=
  ⟨fun _ => rfl, fun _ _ _ => rfl, fun _ _ _ _ => rfl⟩
end Pam
namespace Pam
open Go
def lC (n:Nat):List PV→Prop
 | []=>True
 | p :: r=>p.under n∧lC n r
def PV.underP (n:Nat):PV→Prop
 | .t ps=>lC n ps
 | p=>p.under n
theorem nJ.drop {G G':Gh} {n:Nat} (hH:G'.H = G.H) (ho:G'.own = G.own.take n) {p:PV} {v:Value} (hb:p.under n) (h:nJ G p v):nJ G' p v:=by
 cases p with
 | x=>trivial
 | c y=>exact Rep.drop hH ho hb h
 | a ys=>obtain ⟨vs,rfl,h2⟩:=h;exact ⟨vs,rfl,aR.under hH ho hb h2⟩
 | t ps=>exact hb.elim
theorem aX.dropP {G G':Gh} {n:Nat} (hH:G'.H = G.H) (ho:G'.own = G.own.take n) {p:PV} {v:Value} (hb:p.underP n) (h:aX G p v):aX G' p v:=by
 cases p with
 | x=>trivial
 | c y=>exact aX.drop (p:=.c y) hH ho hb h
 | a ys=>exact aX.drop (p:=.a ys) hH ho hb h
 | t ps =>
  obtain ⟨vs,rfl,h2⟩:=h
  refine ⟨vs,rfl,?_⟩
  have hb':lC n ps:=hb
  clear hb
  induction ps generalizing vs with
  | nil=>cases vs <;> simp_all [aR]
  | cons p ps ih =>
   cases vs with
   | nil=>simp [aR] at h2
   | cons v vs=>exact ⟨nJ.drop hH ho hb'.1 h2.1,ih vs h2.2 hb'.2⟩
def yk (n:Nat) (post:PV→List OB→Prop) (p:PV) (σ:List OB):Prop :=
 ∃ τ,mB τ σ∧n ≤ τ.length∧ck τ.length τ∧p.underP τ.length∧post p τ
theorem eD.drop {P:Program} {f:FuncId} {args:List PV} {σ:List OB} {post pp:PV→List OB→Prop} (h:eD P f args σ (yk σ.length post) pp):eD P f args σ post pp:=by
 refine ⟨h.1,fun G w vs hna hds hi ha=>(h.2 G w vs hna hds hi ha).mono fun e w' hr=>?_⟩
 obtain ⟨G',σ',p,v,h1,h2,h3,h4⟩:=hr
 rcases h4 with ⟨rfl,τ,k1,k2,k3,k4,k5⟩ | h4
 ·obtain ⟨ρ,rfl⟩:=sg k1
  refine ⟨{ G' with own:=G'.own.take τ.length },τ,p,v,⟨⟨h1.le.H,h1.le.F,h1.le.w0,h1.le.na⟩,?_⟩,h2.drop k3,aX.dropP (G:=G') (G':={ G' with own:=G'.own.take τ.length }) rfl rfl k4 h3,.inl ⟨rfl,k5⟩⟩
  intro b oo hb hoo
  obtain ⟨oo',q1,q2⟩:=h1.own b oo hb hoo
  refine ⟨oo',?_,q2⟩
  simp only
  rw [List.getElem?_take_of_lt (by omega)];exact q1
 ·exact ⟨G',σ',p,v,h1,h2,h3,.inr h4⟩
theorem aM {P:Program} {σ:List OB} {f:FuncId} {fn:Func} {c:Code} {args:List PV} {post pp:PV→List OB→Prop} (n:Nat) (rs:List ResultVar) (hf:P.funcs[f]? = some fn) (hb:fn.body = some c) (hn:fn.ntmps = n) (hr:fn.results.toList = rs)
  (hname:(fn.name == "runtime.NumGoroutine") = false) (hlen:args.length ≤ n)
  (h:W P c (nW P rs (yk σ.length post) pp) (Env.ofList n σ.length (i6 0 args)) σ):eD P f args σ post pp :=
 eD.drop (Ax n rs hf hb hn hr hname hlen h)
theorem AE:((∀ n ps,PV.underP n (.t ps) = lC n ps)∧(∀ n y,PV.underP n (.c y) = y.under n)∧(∀ n ys,PV.underP n (.a ys) = cQ n ys)∧(∀ n,PV.underP n .x = True)) ∧
  ((∀ n,lC n [] = True)∧(∀ n p r,lC n (p :: r) = (p.under n∧lC n r))):=by
 refine ⟨⟨?_,?_,?_,?_⟩,?_,?_⟩ <;> (intros;rfl)
theorem qv {P:Program} {rs:List ResultVar} {n:Nat} {post pp:PV→List OB→Prop} {E:Env} {σ:List OB} (τ:List OB)
  (h:match io P E σ rs with | some (C,ps)=>C∧ps.all PV.isV = true∧(mB τ σ∧n ≤ τ.length∧ck τ.length τ∧(ij ps).underP τ.length∧post (ij ps) τ) | none=>False):nW P rs (yk n post) pp .ret E σ:=by
 simp only [nW]
 split at h
 ·rename_i C ps e
  rw [e]
  exact ⟨h.1,h.2.1,τ,h.2.2⟩
 ·exact h.elim
theorem yl {P:Program} {rs:List ResultVar} {n:Nat} {post pp:PV→List OB→Prop} {E:Env} {σ:List OB} (τ:List OB)
  (h:match io P E σ rs with | some (C,ps)=>C∧ps.all PV.isV = true∧(mB τ σ∧n ≤ τ.length∧ck τ.length τ∧(ij ps).underP τ.length∧post (ij ps) τ) | none=>False):nW P rs (yk n post) pp .normal E σ:=by
 simp only [nW]
 split at h
 ·rename_i C ps e
  rw [e]
  exact ⟨h.1,h.2.1,τ,h.2.2⟩
 ·exact h.elim
end Pam
namespace Pam
open Go
def fD (E : Env) (σ : List OB) (E' : Env) (σ' : List OB) : Prop :=
  ∀ (G : Gh) (a : Act) (w : World), Sim G E σ a w → ∃ G', Gle G G' ∧ Sim G' E' σ' a w
theorem cG {P : Program} {c : Code} {K : Kt} {E E' : Env} {σ σ' : List OB} (hg : fD E σ E' σ') (h : W P c K E' σ') : W P c K E σ := fun G a w hs => by
  obtain ⟨G', h1, h2⟩ := hg G a w hs
  exact Code.wp_mono (fun _ _ _ hq => dY.back h1 hq) (h G' a w h2)
theorem kX {P : Program} {ops : Array Oper} {γ : Bool} {C : Prop} {f : FuncId} {args : List PV} {o : Oper} {r : List Oper} {E E' : Env} {σ σ' : List OB} {k : Env → List OB → Prop} {kp : PV → Env → List OB → Prop}
    (hg : fD E σ E' σ') (h : fa P ops (o :: r) E' σ' k kp) : lZ P ops γ C f args o r E σ k kp := by
  intro _ _ G a w hs
  obtain ⟨G', h1, h2⟩ := hg G a w hs
  exact dp (fun _ _ _ hq => dY.back h1 hq) _ _ _ (iQ _ _ _ _ _ h G' a w h2)
def CV.frO (b ver s : Nat) (es : List (List CV)) : CV → CV
  | .osl b' v lo len => if b' = b then (if v = ver ∧ lo + len ≤ es.length then .tree s ((es.drop lo).take len) else .junk) else .osl b' v lo len
  | .oel b' v i j => if b' = b then .junk else .oel b' v i j
  | .optr b' off => if b' = b then .junk else .optr b' off
  | .fn f caps => .fn f caps
  | .junk => .junk
  | .bool x => .bool x
  | .int k n => .int k n
  | .str x => .str x
  | .nilp => .nilp
  | .nils => .nils
  | .nilf => .nilf
  | .nili => .nili
  | .emp => .emp
  | .emn => .emn
  | .tree s' es' => .tree s' es'
  | .tptr s' es' i j => .tptr s' es' i j
  | .ifc T g cs => .ifc T g cs
def CV.fr (b ver s : Nat) (es : List (List CV)) : CV → CV
  | .fn f caps => .fn f (caps.map (CV.frO b ver s es))
  | c => c.frO b ver s es
def PV.fr (b ver s : Nat) (es : List (List CV)) : PV → PV
  | .x => .x
  | .c y => .c (y.fr b ver s es)
  | .a ys => .a (ys.map (CV.fr b ver s es))
  | .t _ => .x
def OB.fr (b ver s : Nat) (es : List (List CV)) : OB → OB
  | .box cs => .box (cs.map (CV.fr b ver s es))
  | .arr s' v T e => .arr s' v T e
  | .dead => .dead
  | .mp P k m => .mp P k m
def Tr.fr (b ver s : Nat) (es : List (List CV)) : Tr → Tr
  | .nil => .nil
  | .leaf e => .leaf ⟨e.cond && (match e.v with | .t _ => false | _ => true), e.v.fr b ver s es⟩
  | .node a0 a1 a2 a3 a4 a5 a6 a7 => .node (a0.fr b ver s es) (a1.fr b ver s es) (a2.fr b ver s es) (a3.fr b ver s es) (a4.fr b ver s es) (a5.fr b ver s es) (a6.fr b ver s es) (a7.fr b ver s es)
def Env.fr (b ver s : Nat) (es : List (List CV)) (E : Env) : Env := ⟨E.n, E.na, E.t.fr b ver s es⟩
theorem Tr.fr_get (b ver s : Nat) (es : List (List CV)) (t : Tr) (j : Nat) : (t.fr b ver s es).get j = (t.get j).fr b ver s es := by
  rcases Nat.lt_or_ge j 8 with hj | hj
  · have hj' : j = 0 ∨ j = 1 ∨ j = 2 ∨ j = 3 ∨ j = 4 ∨ j = 5 ∨ j = 6 ∨ j = 7 := by omega
    cases t <;> rcases hj' with rfl | rfl | rfl | rfl | rfl | rfl | rfl | rfl <;> rfl
  · rw [Tr.get_big _ _ hj, Tr.get_big _ _ hj]; rfl
theorem Tr.fr_ent (b ver s : Nat) (es : List (List CV)) (t : Tr) : (t.fr b ver s es).ent = ⟨t.ent.cond && (match t.ent.v with | .t _ => false | _ => true), t.ent.v.fr b ver s es⟩ := by
  cases t <;> rfl
def frG (G : Gh) (w : World) (b : Nat) (o : OG) : Gh :=
  { G with H := fun x => if o.has = true ∧ x = o.blk then w.heap[x]? else G.H x, own := G.own.set b none }
section
variable {G : Gh} {σ : List OB} {w : World} {b s ver : Nat} {T : TypeId} {es : List (List CV)} {o : OG}
theorem xt (hi : Inv G σ w) (ho : G.own[b]? = some (some o)) : ∀ x y, G.H x = some y → (frG G w b o).H x = some y := by
  intro x y h
  simp only [frG]
  split
  · rename_i hc
    have := (hi.sep b o ho hc.1).1
    rw [hc.2] at h; rw [this] at h; cases h
  · exact h
theorem xu (ho : G.own[b]? = some (some o)) : bD G.own (G.own.set b none) := by
  intro x oo h
  by_cases e : x = b
  · subst e
    have hlt : x < G.own.length := (List.getElem?_eq_some_iff.1 h).1
    exact ⟨none, by simp [hlt], fun o' ho' => by cases ho'⟩
  · exact ⟨oo, by rw [List.getElem?_set_ne (Ne.symm e)]; exact h, fun o' ho' => ⟨o', ho', .inl rfl⟩⟩
theorem iq (hi : Inv G σ w) (hσ : σ[b]? = some (.arr s ver T es)) (ho : G.own[b]? = some (some o)) {c : CV} {v : Value} (h : dc G c v) : dc (frG G w b o) (c.frO b ver s es) v := by
  have h1 : v.oneCell' = true := dc.one h
  have hm : ∀ {c}, dc G c v → dc (frG G w b o) c v := fun h => dc.mono (xt hi ho) (xu ho) h
  have junk : dc (frG G w b o) .junk v := .junk v h1
  cases c <;> simp only [CV.frO] <;> try exact hm h
  case optr b' off =>
    split
    · exact junk
    · exact hm h
  case oel b' v' i j =>
    split
    · exact junk
    · exact hm h
  case osl b' v' lo len =>
    split
    · rename_i e
      subst e
      split
      · rename_i hc
        obtain ⟨rfl, hle⟩ := hc
        obtain ⟨_, oo, k1, k2⟩ := h
        rw [ho] at k1
        simp only [sJ] at k1
        obtain ⟨o', g1, g2, g3, g4, g5, g6, g7, g8, g9⟩ := hi.own b' _ hσ
        rw [ho] at g1
        simp only [sJ] at g1
        subst g1
        obtain ⟨q1, q2⟩ := k2 o k1.symm
        obtain ⟨q3, a, rfl, q4⟩ := q2 g2.symm
        have hlen : ((es.drop lo).take len).length = len := by simp; omega
        show bl _ _ _
        rcases Nat.eq_zero_or_pos len with e0 | e0
        · subst e0
          simp only [List.take_zero]
          exact .tree0 s a _ (fun h => by
            cases hh : o.has with
            | true => obtain ⟨a', e, _⟩ := q4 hh; rw [h] at e; cases e
            | false => have := g8 hh; omega)
        · have hh : o.has = true := by
            cases hh : o.has with
            | true => rfl
            | false => have := g8 hh; omega
          obtain ⟨a', rfl, q5⟩ := q4 hh
          have := q5 (by omega)
          subst this
          obtain ⟨c, fz, r1, r2, r3, r4⟩ := g9 hh
          have hget : ∀ (i : Nat) (e : List CV), ((es.drop lo).take len)[i]? = some e → es[lo + i]? = some e := by
            intro i e h
            rw [List.getElem?_take] at h
            split at h
            · rwa [List.getElem?_drop] at h
            · cases h
          have hr := bl.tree (H := (frG G w b' o).H) s ((es.drop lo).take len) o.blk (o.off + lo * o.sz) (o.cap - lo) c T fz (fun i j => (c[o.off + lo * o.sz + i * s + j]?).getD undef) (by simp [frG, hh, r1]) (by omega)
            (fun i e h => g7 e (List.mem_of_getElem? (hget i e h)))
            (fun i j e x h1 h2 => by
              obtain ⟨v, r5, _⟩ := r4 (lo + i) j e x (hget i e h1) h2
              have : o.off + lo * o.sz + i * s + j = o.off + (lo + i) * s + j := by rw [g3, Nat.add_mul]; omega
              rw [this, r5]; rfl)
            (fun i j e x h1 h2 => by
              obtain ⟨v, r5, r6⟩ := r4 (lo + i) j e x (hget i e h1) h2
              have : o.off + lo * o.sz + i * s + j = o.off + (lo + i) * s + j := by rw [g3, Nat.add_mul]; omega
              rw [this, r5]
              exact bl.mono (xt hi ho) r6)
          rw [hlen] at hr
          exact hr
      · exact junk
    · exact hm h
theorem Bg (hi : Inv G σ w) (hσ : σ[b]? = some (.arr s ver T es)) (ho : G.own[b]? = some (some o)) {c : CV} {v : Value} (h : Rep G c v) : Rep (frG G w b o) (c.fr b ver s es) v := by
  cases c
  case fn f caps =>
    obtain ⟨vs, rfl, h2⟩ := h
    refine ⟨vs, rfl, ?_⟩
    induction caps generalizing vs with
    | nil => cases vs <;> simp_all [aR]
    | cons c cs ih =>
      cases vs with
      | nil => simp [aR] at h2
      | cons v vs => exact ⟨iq hi hσ ho h2.1, ih vs h2.2⟩
  all_goals first
    | exact iq hi hσ ho (c := .junk) h
    | exact iq hi hσ ho (c := .bool _) h
    | exact iq hi hσ ho (c := .int _ _) h
    | exact iq hi hσ ho (c := .str _) h
    | exact iq hi hσ ho (c := .nilp) h
    | exact iq hi hσ ho (c := .nils) h
    | exact iq hi hσ ho (c := .nilf) h
    | exact iq hi hσ ho (c := .nili) h
    | exact iq hi hσ ho (c := .emp) h
    | exact iq hi hσ ho (c := .emn) h
    | exact iq hi hσ ho (c := .tree _ _) h
    | exact iq hi hσ ho (c := .tptr _ _ _ _) h
    | exact iq hi hσ ho (c := .ifc _ _ _) h
    | skip
  case optr b' off =>
    have := iq hi hσ ho (c := .optr b' off) h
    simp only [CV.fr]
    by_cases e : b' = b <;> simp only [CV.frO, e, if_true, if_false] at this ⊢ <;> exact this
  case osl b' v' lo len =>
    have := iq hi hσ ho (c := .osl b' v' lo len) h
    simp only [CV.fr]
    by_cases e : b' = b
    · by_cases e2 : v' = ver ∧ lo + len ≤ es.length <;> simp only [CV.frO, e, e2, if_true, if_false] at this ⊢ <;> exact this
    · simp only [CV.frO, e, if_false] at this ⊢; exact this
  case oel b' v' i j =>
    have := iq hi hσ ho (c := .oel b' v' i j) h
    simp only [CV.fr]
    by_cases e : b' = b <;> simp only [CV.frO, e, if_true, if_false] at this ⊢ <;> exact this
theorem zm (hi : Inv G σ w) (hσ : σ[b]? = some (.arr s ver T es)) (ho : G.own[b]? = some (some o)) : ∀ {cs : List CV} {vs : List Value}, aR (Rep G) cs vs → aR (Rep (frG G w b o)) (cs.map (CV.fr b ver s es)) vs
  | [], [], _ => trivial
  | _ :: _, _ :: _, h => ⟨Bg hi hσ ho h.1, zm hi hσ ho h.2⟩
theorem CH (hi : Inv G σ w) (hσ : σ[b]? = some (.arr s ver T es)) (ho : G.own[b]? = some (some o)) : Inv (frG G w b o) ((σ.set b .dead).map (OB.fr b ver s es)) w := by
  have hH := xt (b := b) hi ho
  have hblt : b < G.own.length := (List.getElem?_eq_some_iff.1 ho).1
  have hne : ∀ (x : Nat) (o' : OG), (G.own.set b none)[x]? = some (some o') → x ≠ b ∧ G.own[x]? = some (some o') := by
    intro x o' h
    by_cases e : x = b
    · subst e; simp [hblt] at h
    · rw [List.getElem?_set_ne (Ne.symm e)] at h; exact ⟨e, h⟩
  refine ⟨?_, hi.hF, ?_, by simp [frG, hi.len], ?_, fun x x' o1 o2 h1 h2 => hi.inj x x' o1 o2 (hne _ _ h1).2 (hne _ _ h2).2, ?_, hi.os, hi.tape, hi.output, hi.grow⟩
  · intro x y h
    simp only [frG] at h
    split at h
    · exact h
    · exact hi.hH x y h
  · intro x y h
    simp only [frG]
    split
    · rename_i hc
      have := (hi.sep b o ho hc.1).2
      have h : G.F x = some y := h
      rw [hc.2] at h; rw [this] at h; cases h
    · exact hi.HF x y h
  · intro x ob h
    rw [List.getElem?_map, Option.map_eq_some_iff] at h
    obtain ⟨ob', h1, rfl⟩ := h
    by_cases e : x = b
    · subst e
      have hlt : x < σ.length := (List.getElem?_eq_some_iff.1 hσ).1
      simp only [List.getElem?_set_self hlt, sJ] at h1
      subst h1
      simp [OB.fr, jm, frG, hblt]
    · rw [List.getElem?_set_ne (Ne.symm e)] at h1
      have hx : (frG G w b o).own[x]? = G.own[x]? := by simp only [frG]; exact List.getElem?_set_ne (Ne.symm e)
      have hok := hi.own x ob' h1
      cases ob' with
      | dead => simpa [OB.fr, jm, hx] using hok
      | box cs =>
        obtain ⟨o', c, T', g1, g2, g3, g4, g5⟩ := hok
        exact ⟨o', c, T', hx.trans g1, g2, g3, g4, zm hi hσ ho g5⟩
      | arr s' v' T' e' =>
        obtain ⟨o', g1, g2, g3, g4, g5, g6, g7, g8, g9⟩ := hok
        refine ⟨o', hx.trans g1, g2, g3, g4, g5, g6, g7, g8, fun hh => ?_⟩
        obtain ⟨c, fz, r1, r2, r3, r4⟩ := g9 hh
        exact ⟨c, fz, r1, r2, r3, fun i j e y p1 p2 => by obtain ⟨v, p3, p4⟩ := r4 i j e y p1 p2; exact ⟨v, p3, bl.mono hH p4⟩⟩
      | mp P k m =>
        obtain ⟨o', g1, g2, g3, g4, g5⟩ := hok
        exact ⟨o', hx.trans g1, g2, g3, g4, g5.keep hH rfl⟩
  · intro x o' h hh
    obtain ⟨e, h'⟩ := hne _ _ h
    obtain ⟨s1, s2⟩ := hi.sep x o' h' hh
    refine ⟨?_, s2⟩
    simp only [frG]
    split
    · rename_i hc
      exact (e (hi.inj x b o' o h' ho hh hc.1 hc.2)).elim
    · exact s1
end
theorem bJ {E : Env} {σ : List OB} (b : Nat) {s ver : Nat} {T : TypeId} {es : List (List CV)} (hσ : σ[b]? = some (.arr s ver T es)) : fD E σ (E.fr b ver s es) ((σ.set b .dead).map (OB.fr b ver s es)) := by
  intro G a w hs
  have hi := hs.inv
  obtain ⟨o, ho, _⟩ := hi.own b _ hσ
  refine ⟨frG G w b o, .mk' ⟨xt hi ho, rfl, rfl, rfl⟩ (xu ho), CH hi hσ ho, hs.defers, hs.size, hs.na, fun i hc => ?_⟩
  have hget : (E.fr b ver s es).get i = ⟨(E.get i).cond && (match (E.get i).v with | .t _ => false | _ => true), (E.get i).v.fr b ver s es⟩ := by
    unfold Env.get Env.fr
    simp only
    rw [Tr.fr_get, Tr.fr_get, Tr.fr_get, Tr.fr_ent]
  rw [hget] at hc ⊢
  simp only [Bool.and_eq_true] at hc
  have hr := hs.slot i hc.1
  cases hv : (E.get i).v with
  | x => trivial
  | c y => rw [hv] at hr; exact Bg hi hσ ho hr
  | a ys => rw [hv] at hr; obtain ⟨vs, e, h2⟩ := hr; exact ⟨vs, e, zm hi hσ ho h2⟩
  | t ps => rw [hv] at hc; simp at hc
theorem C8 :
    ((∀ b v s es n na t, Env.fr b v s es ⟨n, na, t⟩ = ⟨n, na, t.fr b v s es⟩) ∧ (∀ b v s es, Tr.fr b v s es .nil = .nil) ∧ (∀ b v s es c y, Tr.fr b v s es (.leaf ⟨c, .c y⟩) = .leaf ⟨c, .c (y.fr b v s es)⟩) ∧ (∀ b v s es c ys, Tr.fr b v s es (.leaf ⟨c, .a ys⟩) = .leaf ⟨c, .a (ys.map (CV.fr b v s es))⟩) ∧
     (∀ b v s es c ps, Tr.fr b v s es (.leaf ⟨c, .t ps⟩) = .leaf ⟨false, .x⟩) ∧ (∀ b v s es c, Tr.fr b v s es (.leaf ⟨c, .x⟩) = .leaf ⟨c, .x⟩) ∧
     (∀ b v s es a0 a1 a2 a3 a4 a5 a6 a7, Tr.fr b v s es (.node a0 a1 a2 a3 a4 a5 a6 a7) = .node (a0.fr b v s es) (a1.fr b v s es) (a2.fr b v s es) (a3.fr b v s es) (a4.fr b v s es) (a5.fr b v s es) (a6.fr b v s es) (a7.fr b v s es))) ∧
    ((∀ b v s es, OB.fr b v s es .dead = .dead) ∧ (∀ b v s es cs, OB.fr b v s es (.box cs) = .box (cs.map (CV.fr b v s es))) ∧ (∀ b v s es s' v' T e, OB.fr b v s es (.arr s' v' T e) = .arr s' v' T e) ∧ (∀ b v s es P k m, OB.fr b v s es (.mp P k m) = .mp P k m)) ∧
    ((∀ b v s es x, CV.fr b v s es (.bool x) = .bool x) ∧ (∀ b v s es k n, CV.fr b v s es (.int k n) = .int k n) ∧ (∀ b v s es x, CV.fr b v s es (.str x) = .str x) ∧ (∀ b v s es, CV.fr b v s es .nilp = .nilp) ∧ (∀ b v s es, CV.fr b v s es .nils = .nils) ∧
     (∀ b v s es, CV.fr b v s es .nilf = .nilf) ∧ (∀ b v s es, CV.fr b v s es .nili = .nili) ∧ (∀ b v s es, CV.fr b v s es .emp = .emp) ∧ (∀ b v s es, CV.fr b v s es .emn = .emn) ∧ (∀ b v s es, CV.fr b v s es .junk = .junk) ∧ (∀ b v s es s' e', CV.fr b v s es (.tree s' e') = .tree s' e') ∧
     (∀ b v s es s' e' i j, CV.fr b v s es (.tptr s' e' i j) = .tptr s' e' i j) ∧ (∀ b v s es T g cs, CV.fr b v s es (.ifc T g cs) = .ifc T g cs)) ∧
    ((∀ b v s es b' v' lo len, CV.fr b v s es (.osl b' v' lo len) = if b' = b then (if v' = v ∧ lo + len ≤ es.length then .tree s ((es.drop lo).take len) else .junk) else .osl b' v' lo len) ∧
     (∀ b v s es b' v' i j, CV.fr b v s es (.oel b' v' i j) = if b' = b then .junk else .oel b' v' i j) ∧ (∀ b v s es b' off, CV.fr b v s es (.optr b' off) = if b' = b then .junk else .optr b' off) ∧
     (∀ b v s es f caps, CV.fr b v s es (.fn f caps) = .fn f (caps.map (CV.frO b v s es)))) := by
  refine ⟨⟨?_, ?_, ?_, ?_, ?_, ?_, ?_⟩, ⟨?_, ?_, ?_, ?_⟩, ⟨?_, ?_, ?_, ?_, ?_, ?_, ?_, ?_, ?_, ?_, ?_, ?_, ?_⟩, ?_, ?_, ?_, ?_⟩
  all_goals intros
  all_goals first | rfl | (simp [Tr.fr, PV.fr]; done)
theorem pW : (∀ n f, CV.under n (.fn f []) = True) ∧ (∀ n f b off r, CV.under n (.fn f (.optr b off :: r)) = (b < n ∧ CV.under n (.fn f r))) ∧ (∀ n f b v lo k r, CV.under n (.fn f (.osl b v lo k :: r)) = (b < n ∧ CV.under n (.fn f r))) ∧
    (∀ n f k i r, CV.under n (.fn f (.int k i :: r)) = CV.under n (.fn f r)) ∧ (∀ n f k i r, CV.under n (.fn f (.tree k i :: r)) = CV.under n (.fn f r)) ∧ (∀ n f s r, CV.under n (.fn f (.str s :: r)) = CV.under n (.fn f r)) ∧ (∀ n f s r, CV.under n (.fn f (.bool s :: r)) = CV.under n (.fn f r)) := by
  refine ⟨?_, ?_, ?_, ?_, ?_, ?_, ?_⟩ <;> intros <;> simp [CV.under]
theorem kQ {E : Env} {d : Nat} (h : Nat.ble (d + 1) E.n = true) : dk E (some d) := Nat.le_of_ble_eq_true h
def PV.ren1 (r : Nat → Nat) : PV → PV
  | .c y => .c (y.ren r)
  | .a ys => .a (ys.map (CV.ren r))
  | q => q
theorem CI :
    ((∀ r y, PV.ren r (.c y) = .c (y.ren r)) ∧ (∀ r ys, PV.ren r (.a ys) = .a (ys.map (CV.ren r))) ∧ (∀ r, PV.ren r .x = .x) ∧ (∀ r ps, PV.ren r (.t ps) = .t (ps.map (PV.ren1 r))) ∧ (∀ r y, PV.ren1 r (.c y) = .c (y.ren r)) ∧ (∀ r ys, PV.ren1 r (.a ys) = .a (ys.map (CV.ren r)))) ∧
    ((∀ r cs, OB.ren r (.box cs) = .box (cs.map (CV.ren r))) ∧ (∀ r, OB.ren r .dead = .dead) ∧ (∀ r s v T es, OB.ren r (.arr s v T es) = .arr s v T es) ∧ (∀ r P k m, OB.ren r (.mp P k m) = .mp P k m)) ∧
    ((∀ r x, CV.ren r (.bool x) = .bool x) ∧ (∀ r k n, CV.ren r (.int k n) = .int k n) ∧ (∀ r x, CV.ren r (.str x) = .str x) ∧ (∀ r, CV.ren r .nilp = .nilp) ∧ (∀ r, CV.ren r .nils = .nils) ∧ (∀ r, CV.ren r .nilf = .nilf) ∧ (∀ r, CV.ren r .nili = .nili) ∧ (∀ r, CV.ren r .emp = .emp) ∧ (∀ r, CV.ren r .emn = .emn) ∧ (∀ r, CV.ren r .junk = .junk) ∧
     (∀ r s es, CV.ren r (.tree s es) = .tree s es) ∧ (∀ r s es i j, CV.ren r (.tptr s es i j) = .tptr s es i j) ∧ (∀ r T g cs, CV.ren r (.ifc T g cs) = .ifc T g cs)) ∧
    ((∀ r b off, CV.ren r (.optr b off) = .optr (r b) off) ∧ (∀ r b v lo n, CV.ren r (.osl b v lo n) = .osl (r b) v lo n) ∧ (∀ r b v i j, CV.ren r (.oel b v i j) = .oel (r b) v i j) ∧ (∀ r f caps, CV.ren r (.fn f caps) = .fn f (caps.map (CV.ren0 r))) ∧
     (∀ r b off, CV.ren0 r (.optr b off) = .optr (r b) off) ∧ (∀ r b v lo n, CV.ren0 r (.osl b v lo n) = .osl (r b) v lo n) ∧ (∀ r k n, CV.ren0 r (.int k n) = .int k n) ∧ (∀ r s es, CV.ren0 r (.tree s es) = .tree s es) ∧ (∀ r x, CV.ren0 r (.str x) = .str x) ∧ (∀ r x, CV.ren0 r (.bool x) = .bool x)) ∧
    ((∀ n ρ k, df n ρ k = if k < ρ.length then ρ.getD k 0 else n + (k - ρ.length)) ∧ (∀ {α : Type} (σ xs : List α), cV σ [] xs = σ ++ xs) ∧ (∀ {α : Type} (σ xs : List α) b ρ x, cV σ (b :: ρ) (x :: xs) = cV (σ.set b x) ρ xs)) := by
  refine ⟨⟨?_, ?_, ?_, ?_, ?_, ?_⟩, ⟨?_, ?_, ?_, ?_⟩, ⟨?_, ?_, ?_, ?_, ?_, ?_, ?_, ?_, ?_, ?_, ?_, ?_, ?_⟩, ⟨?_, ?_, ?_, ?_, ?_, ?_, ?_, ?_, ?_, ?_⟩, ?_, ?_, ?_⟩ <;> intros <;> first | rfl | simp [cV]
end Pam
namespace Pam
open Go
def oP {S O : Type} (body : S → Option (S ⊕ O)) : Nat → S → Option O
  | 0, _ => none
  | n + 1, s => match body s with
    | none => none
    | some (.inl s') => oP body n s'
    | some (.inr o) => some o
theorem tK {S O : Type} {body : S → Option (S ⊕ O)} : ∀ {n : Nat} {s : S} {o : O}, oP body n s = some o → oP body (n + 1) s = some o
  | 0, _, _, h => by cases h
  | n + 1, s, o, h => by
    unfold oP at h ⊢
    cases hb : body s with
    | none => rw [hb] at h; cases h
    | some r => cases r with
      | inl s' => rw [hb] at h; exact tK h
      | inr o' => rw [hb] at h; exact h
theorem xv {S O : Type} {body : S → Option (S ⊕ O)} {n m : Nat} {s : S} {o : O} (h : oP body n s = some o) (hm : n ≤ m) : oP body m s = some o := by
  induction hm with
  | refl => exact h
  | step _ ih => exact tK ih
open Classical in
noncomputable def aZ {S O : Type} (body : S → Option (S ⊕ O)) (s : S) : Option O :=
  if h : ∃ n o, oP body n s = some o then some (Classical.choose (Classical.choose_spec h)) else none
theorem mC {S O : Type} {body : S → Option (S ⊕ O)} {s : S} {o : O} (h : aZ body s = some o) : ∃ n, oP body n s = some o := by
  unfold aZ at h
  split at h
  · rename_i hx
    simp only [sJ] at h
    exact ⟨_, h ▸ Classical.choose_spec (Classical.choose_spec hx)⟩
  · cases h
theorem m8 {S O : Type} {body : S → Option (S ⊕ O)} {s : S} {o : O} {n : Nat} (h : oP body n s = some o) : aZ body s = some o := by
  have hx : ∃ n o, oP body n s = some o := ⟨n, o, h⟩
  cases hl : aZ body s with
  | none => unfold aZ at hl; rw [dif_pos hx] at hl; cases hl
  | some o' =>
    obtain ⟨m, hm⟩ := mC hl
    have h1 := xv h (Nat.le_max_left n m)
    have h2 := xv hm (Nat.le_max_right n m)
    rw [h1] at h2; exact h2.symm
theorem xw {S O : Type} (body : S → Option (S ⊕ O)) (s : S) : aZ body s = match body s with
    | none => none
    | some (.inl s') => aZ body s'
    | some (.inr o) => some o := by
  cases hb : body s with
  | none =>
    cases hl : aZ body s with
    | none => rfl
    | some o =>
      obtain ⟨n, hn⟩ := mC hl
      cases n with
      | zero => cases hn
      | succ n => simp [oP, hb] at hn
  | some r =>
    cases r with
    | inr o => exact m8 (n := 1) (by simp [oP, hb])
    | inl s' =>
      show aZ body s = aZ body s'
      cases hl : aZ body s with
      | some o =>
        obtain ⟨n, hn⟩ := mC hl
        cases n with
        | zero => cases hn
        | succ n => exact (m8 (n := n) (by simpa [oP, hb] using hn)).symm
      | none =>
        cases hl' : aZ body s' with
        | none => rfl
        | some o =>
          obtain ⟨n, hn⟩ := mC hl'
          have := m8 (body := body) (s := s) (n := n + 1) (o := o) (by simpa [oP, hb] using hn)
          rw [this] at hl; cases hl
theorem cH {S O : Type} {body : S → Option (S ⊕ O)} {s s' : S} (h : body s = some (.inl s')) : aZ body s = aZ body s' := by rw [xw, h]
theorem cB {S O : Type} {body : S → Option (S ⊕ O)} {s : S} {o : O} (h : body s = some (.inr o)) : aZ body s = some o := by rw [xw, h]
theorem gd {α : Type} {p : Prop} [Decidable p] {m : Option α} {r : α} (h : (if p then m else none) = some r) : p ∧ m = some r := by
  split at h
  · exact ⟨by assumption, h⟩
  · cases h
theorem bd {α β : Type} {o : Option α} {f : α → Option β} {r : β} (h : o.bind f = some r) : ∃ y, o = some y ∧ f y = some r := by
  cases o with
  | none => cases h
  | some y => exact ⟨y, rfl, h⟩
def dg (n b : Nat) : Prop := n * b ≤ 140737488355328 ∧ n ≤ maxLen
instance (n b : Nat) : Decidable (dg n b) := inferInstanceAs (Decidable (_ ∧ _))
def eK (k : IntKind) (n : Int) : List CV := [.int k n]
def eB (b : Bool) : List CV := [.bool b]
def eS (s : List UInt8) : List CV := [.str s]
def eL {α : Type} (s : Nat) (f : α → List CV) (l : List α) : List CV := [.tree s (l.map f)]
section
variable {P : Program} {K : Kt} {E E0 : Env} {σ : List OB}
theorem fD.refl (E : Env) (σ : List OB) : fD E σ E σ := fun G _ _ hs => ⟨G, Gle.refl G, hs⟩
theorem fD.trans {E E' E'' : Env} {σ σ' σ'' : List OB} (h : fD E σ E' σ') (h' : fD E' σ' E'' σ'') : fD E σ E'' σ'' := fun G a w hs => by
  obtain ⟨G', g1, hs'⟩ := h G a w hs
  obtain ⟨G'', g2, hs''⟩ := h' G' a w hs'
  exact ⟨G'', g1.trans g2, hs''⟩
def AF {α : Type} (E0 : Env) (ms : List Nat) (slots : α → List (Nat × PV)) (heap : α → List OB) (inv : α → Prop) (μ : α → Nat) (x : α) (K : Kt) : Kt
  | .normal, E, σ => ∃ y E' σ', fD E σ E' σ' ∧ inv y ∧ μ y < μ x ∧ nA E' σ' (E0.over ms (slots y)) (heap y)
  | e, E, σ => K e E σ
theorem AG {α : Type} {c : Code} (ms : List Nat) (slots : α → List (Nat × PV)) (heap : α → List OB) (inv : α → Prop) (μ : α → Nat) (x0 : α) (h0 : inv x0) (hl : nA E σ (E.over ms (slots x0)) (heap x0))
    (round : ∀ x, inv x → W P c (AF E ms slots heap inv μ x K) (E.over ms (slots x)) (heap x)) : W P (.loop c) K E σ := fun G a w hs => by
  obtain ⟨G0, hg0, hs0⟩ := hl.sim hs
  refine Code.wp_mono (fun _ _ _ hq => dY.back hg0 hq) ?_
  intro b k cs
  have key : ∀ (m : Nat) (x : α) (G : Gh) (a : Act) (w : World), μ x = m → inv x → Gle G0 G → Sim G (E.over ms (slots x)) (heap x) a w →
      ∃ e a' w', dY G0 K e a' w' ∧ Arrives P (lone (b.at a (.code c :: .inLoop c :: k)) cs w) b k cs e a' w' := by
    intro m
    induction m using Nat.strongRecOn with
    | _ m ih =>
      intro x G a w hm hinv hG hs
      have hr := round x hinv G a w hs
      obtain ⟨e, a₁, w₁, hq, harr⟩ := hr b (.inLoop c :: k) cs
      obtain ⟨G', E', σ', px, g1, g2, g3, g4⟩ := hq
      cases px with
      | normal =>
        cases g3
        obtain ⟨y, E2, σ2, hgh, hy, hlt, hless⟩ := g4
        obtain ⟨G1, p1, p2⟩ := hgh G' a₁ w₁ g2
        obtain ⟨G'', q1, q2⟩ := hless.sim p2
        obtain ⟨e₂, a₂, w₂, hq₂, harr₂⟩ := ih (μ y) (hm ▸ hlt) y G'' a₁ w₁ rfl hy (hG.trans (g1.trans (p1.trans q1))) q2
        exact ⟨e₂, a₂, w₂, hq₂, .of_steps (Steps.trans harr (.one step_inLoop)) harr₂⟩
      | exit id => exact ⟨e, a₁, w₁, dY.back hG ⟨G', E', σ', .exit id, g1, g2, g3, g4⟩, by cases g3; exact .pass (x := .inLoop c) rfl (fun _ _ => .inl (by simp)) harr⟩
      | ret => exact ⟨e, a₁, w₁, dY.back hG ⟨G', E', σ', .ret, g1, g2, g3, g4⟩, by cases g3; exact .pass (x := .inLoop c) rfl (fun _ _ => .inl (by simp)) harr⟩
      | panic p => exact ⟨e, a₁, w₁, dY.back hG ⟨G', E', σ', .panic p, g1, g2, g3, g4⟩, by obtain ⟨v, rfl, hv⟩ := g3; exact .pass (x := .inLoop c) rfl (fun _ _ => .inl (by simp)) harr⟩
  obtain ⟨e, a', w', hq, harr⟩ := key _ x0 G0 a w rfl h0 (Gle.refl _) hs0
  exact ⟨e, a', w', hq, .of_steps (.one step_loop) harr⟩
def qw {S V O : Type} (E0 : Env) (ms : List Nat) (slots : S → V → List (Nat × PV)) (heap : S → V → List OB) (r : S ⊕ O) (K : Kt) : Kt
  | .normal, E, σ => ∃ s v E' σ', fD E σ E' σ' ∧ r = .inl s ∧ nA E' σ' (E0.over ms (slots s v)) (heap s v)
  | e, E, σ => K e E σ
theorem be {S V O : Type} {c : Code} (ms : List Nat) (slots : S → V → List (Nat × PV)) (heap : S → V → List OB) (body : S → Option (S ⊕ O)) (s0 : S) (v0 : V) {o : O} (ho : aZ body s0 = some o)
    (hl : nA E σ (E.over ms (slots s0 v0)) (heap s0 v0))
    (round : ∀ s v r, body s = some r → (∀ o', r = .inr o' → o' = o) → W P c (qw E ms slots heap r K) (E.over ms (slots s v)) (heap s v)) : W P (.loop c) K E σ := by
  obtain ⟨n, hn⟩ := mC ho
  refine AG (α := S × V × Nat) ms (fun x => slots x.1 x.2.1) (fun x => heap x.1 x.2.1) (fun x => oP body x.2.2 x.1 = some o) (fun x => x.2.2) (s0, v0, n) hn hl ?_
  rintro ⟨s, v, n⟩ hs
  cases n with
  | zero => cases hs
  | succ n =>
    simp only [oP] at hs
    cases hb : body s with
    | none => rw [hb] at hs; cases hs
    | some r =>
      rw [hb] at hs
      refine W.mono (fun x E' σ' h => ?_) (round s v r hb ?_)
      · cases x with
        | normal => obtain ⟨s', v', E2, σ2, hgh, e, hl'⟩ := h; subst e; exact ⟨(s', v', n), E2, σ2, hgh, hs, Nat.lt_succ_self _, hl'⟩
        | exit i => exact h
        | ret => exact h
        | panic p => exact h
      · rintro o' rfl; simpa using hs
def qx {S V : Type} (E0 : Env) (ms : List Nat) (slots : S → V → List (Nat × PV)) (heap : S → V → List OB) (J : S → Prop) (K : Kt) : Kt
  | .normal, E, σ => ∃ s v E' σ', fD E σ E' σ' ∧ J s ∧ nA E' σ' (E0.over ms (slots s v)) (heap s v)
  | e, E, σ => K e E σ
theorem aK {S V : Type} {c d : Code} (ms : List Nat) (slots : S → V → List (Nat × PV)) (heap : S → V → List OB) (J : S → Prop)
    (first : W P c (qx E ms slots heap J K) E σ) (rest : ∀ s v, J s → W P d K (E.over ms (slots s v)) (heap s v)) : W P (.seq c d) K E σ :=
  qX (W.mono (fun x E' σ' h => by
    cases x with
    | normal => obtain ⟨s, v, E2, σ2, hg, h1, h2⟩ := h; exact cG hg (AD h2 (rest s v h1))
    | exit id => exact h
    | ret => exact h
    | panic p => exact h) first)
section
variable {S V O : Type} {ms : List Nat} {slots : S → V → List (Nat × PV)} {heap : S → V → List OB} {r : S ⊕ O} {J : S → Prop}
theorem aC (s : S) (v : V) (hr : some (Sum.inl s) = some r) (hl : nA E σ (E0.over ms (slots s v)) (heap s v)) : qw E0 ms slots heap r K .normal E σ := ⟨s, v, E, σ, fD.refl E σ, (sI hr).symm, hl⟩
theorem si {E1 : Env} {σ1 : List OB} (hg : fD E σ E1 σ1) (h : qw E0 ms slots heap r K .normal E1 σ1) : qw E0 ms slots heap r K .normal E σ := by
  obtain ⟨s, v, E2, σ2, g, h1, h2⟩ := h; exact ⟨s, v, E2, σ2, hg.trans g, h1, h2⟩
theorem aQ {i : Nat} (h : K (.exit i) E σ) : qw E0 ms slots heap r K (.exit i) E σ := h
theorem aG (h : K .ret E σ) : qw E0 ms slots heap r K .ret E σ := h
theorem ax (s : S) (v : V) (hj : J s) (hl : nA E σ (E0.over ms (slots s v)) (heap s v)) : qx E0 ms slots heap J K .normal E σ := ⟨s, v, E, σ, fD.refl E σ, hj, hl⟩
theorem vn {E1 : Env} {σ1 : List OB} (hg : fD E σ E1 σ1) (h : qx E0 ms slots heap J K .normal E1 σ1) : qx E0 ms slots heap J K .normal E σ := by
  obtain ⟨s, v, E2, σ2, g, h1, h2⟩ := h; exact ⟨s, v, E2, σ2, hg.trans g, h1, h2⟩
theorem vo {i : Nat} (h : K (.exit i) E σ) : qx E0 ms slots heap J K (.exit i) E σ := h
theorem av (h : K .ret E σ) : qx E0 ms slots heap J K .ret E σ := h
theorem aA {o o' : O} (h : some (Sum.inr o') = some r) (hr : ∀ o', r = .inr o' → o' = o) : o' = o := hr _ (sI h).symm
end
theorem Inv.nil {G : Gh} {σ : List OB} {w : World} (hi : Inv G σ w) (s : Nat) (T : TypeId) (hs : 0 < s) :
    Inv { G with own := G.own ++ [some ⟨0, s, 0, 0, false, 0⟩] } (σ ++ [.arr s 0 T []]) w := by
  refine hi.push (.arr s 0 T []) ⟨0, s, 0, 0, false, 0⟩ (Nat.le_refl _) (fun _ _ => rfl) (fun h => by cases h) rfl rfl rfl ?_
  have hlast : (G.own ++ [some (⟨0, s, 0, 0, false, 0⟩ : OG)])[σ.length]? = some (some ⟨0, s, 0, 0, false, 0⟩) := by rw [← hi.len]; simp
  exact ⟨_, hlast, rfl, rfl, hs, Nat.le_refl _, Nat.zero_le _, (fun e he => nomatch he), fun _ => rfl, fun h => absurd h (by simp)⟩
theorem xx {G : Gh} {σ : List OB} {w : World} (hi : Inv G σ w) (s : Nat) {v : Value} (hv : bl G.H .nils v) :
    dc { G with own := G.own ++ [some ⟨0, s, 0, 0, false, 0⟩] } (.osl σ.length 0 0 0) v := by
  have hlast : (G.own ++ [some (⟨0, s, 0, 0, false, 0⟩ : OG)])[σ.length]? = some (some ⟨0, s, 0, 0, false, 0⟩) := by rw [← hi.len]; simp
  cases hv
  exact ⟨rfl, _, hlast, fun o e => by
    simp only [sJ] at e; subst e
    exact ⟨Nat.le_refl _, fun _ => ⟨Nat.le_refl _, none, rfl, fun h => by cases h⟩⟩⟩
theorem vp {H : Nat → Option Obj} (s : Nat) {v : Value} (h : bl H .nils v) : bl H (.tree s []) v := by
  cases h
  exact .tree0 s none 0 (fun _ => rfl)
theorem fc (i s : Nat) (T : TypeId) (hs : 0 < s) (hE : E.get i = ⟨true, .c .nils⟩) (hin : i < E.n) : fD E σ (E.put i ⟨true, .c (.osl σ.length 0 0 0)⟩) (σ ++ [.arr s 0 T []]) := by
  intro G a w hs'
  refine ⟨{ G with own := G.own ++ [some ⟨0, s, 0, 0, false, 0⟩] }, .mk' ⟨fun _ _ h => h, rfl, rfl, rfl⟩ (bD.append _ _), hs'.inv.nil s T hs, hs'.defers, hs'.size, hs'.na, fun j hc => ?_⟩
  have hg := Env.get_put E i j _ hc
  rw [hg] at hc ⊢
  by_cases hj : j = i
  · subst hj
    rw [iP rfl]
    have := hs'.slot j (by rw [hE])
    rw [hE] at this
    exact xx hs'.inv s this
  · rw [iN hj] at hc ⊢
    exact aX.mono (G := G) (G' := { G with own := G.own ++ [some ⟨0, s, 0, 0, false, 0⟩] }) (fun _ _ h => h) (bD.append _ _) (hs'.slot j hc)
theorem wB (i s : Nat) (hE : E.get i = ⟨true, .c .nils⟩) : fD E σ (E.put i ⟨true, .c (.tree s [])⟩) σ := by
  intro G a w hs'
  refine ⟨G, Gle.refl G, hs'.inv, hs'.defers, hs'.size, hs'.na, fun j hc => ?_⟩
  have hg := Env.get_put E i j _ hc
  rw [hg] at hc ⊢
  by_cases hj : j = i
  · subst hj
    rw [iP rfl]
    have := hs'.slot j (by rw [hE])
    rw [hE] at this
    have h' : bl G.H .nils (a.tmps.getD j undef) := this
    show bl G.H (.tree s []) _
    exact vp s h'
  · rw [iN hj] at hc ⊢
    exact hs'.slot j hc
end
theorem CJ : ((true == true) = true ∧ (true == false) = false ∧ (false == true) = false ∧ (false == false) = true) ∧ ((!true) = false ∧ (!false) = true) := by decide
theorem ux :
    ((∀ {α β : Type} (f : α → β) (l : List α) (n : Nat), (l.map f).take n = (l.take n).map f) ∧ (∀ {α β : Type} (f : α → β) (l : List α) (n : Nat), (l.map f).drop n = (l.drop n).map f) ∧
     (∀ {α β : Type} (f : α → β) (l l' : List α), l.map f ++ l'.map f = (l ++ l').map f) ∧ (∀ {α : Type} (l : List α), l.take l.length = l)) := by
  refine ⟨?_, ?_, ?_, ?_⟩ <;> intros <;> simp
theorem Bh : (∀ {α : Type} (l : List α) (n : Nat), l.length ≤ n → l.take n = l) ∧ (∀ {α : Type} (l l' : List α), (l ++ l').length = l.length + l'.length) ∧
    (∀ {α : Type} (l : List α) (i : Nat) (x : α), (l.set i x).length = l.length) ∧ (∀ {α : Type} (n : Nat) (x : α), (List.replicate n x).length = n) := by
  refine ⟨fun l n h => List.take_of_length_le h, ?_, ?_, ?_⟩ <;> intros <;> simp
def lit {α : Type} (l : List α) : List α := l
theorem jI {α : Type} (l : List α) : (lit l).length = l.length := rfl
def NT : CV → CV → Prop
  | .nils, .tree _ [] => True
  | .emp, .tree _ [] => True
  | .emn, .tree _ [] => True
  | c, c' => c = c'
def NTs : List CV → List CV → Prop
  | [], [] => True
  | a :: az, b :: bs => NT a b ∧ NTs az bs
  | _, _ => False
theorem NT.rep {G : Gh} {c c' : CV} {v : Value} (h : NT c c') (hr : Rep G c v) : Rep G c' v := by
  unfold NT at h
  split at h
  · exact vp _ (show bl G.H .nils v from hr)
  · have h' : bl G.H .emp v := hr
    show bl G.H (.tree _ []) v
    cases h'
    exact .tree0 _ _ 0 (fun _ => rfl)
  · have h' : bl G.H .emn v := hr
    show bl G.H (.tree _ []) v
    cases h'
    exact .tree0 _ _ _ (fun h => by cases h)
  · subst h; exact hr
theorem NTs.rep {G : Gh} : ∀ {cs cs' : List CV} {vs : List Value}, NTs cs cs' → aR (Rep G) cs vs → aR (Rep G) cs' vs
  | [], [], _, _, h => h
  | _ :: _, _ :: _, _ :: _, ⟨h1, h2⟩, ⟨k1, k2⟩ => ⟨NT.rep h1 k1, NTs.rep h2 k2⟩
def NTp : PV → PV → Prop
  | .c y, .c y' => NT y y'
  | .a ys, .a ys' => NTs ys ys'
  | _, _ => False
theorem jp {E : Env} {σ : List OB} (i : Nat) {p : PV} (p' : PV) (hE : E.get i = ⟨true, p⟩) (h : NTp p p') : fD E σ (E.put i ⟨true, p'⟩) σ := by
  intro G a w hs'
  refine ⟨G, Gle.refl G, hs'.inv, hs'.defers, hs'.size, hs'.na, fun j hc => ?_⟩
  have hg := Env.get_put E i j _ hc
  rw [hg] at hc ⊢
  by_cases hj : j = i
  · subst hj
    rw [iP rfl]
    have := hs'.slot j (by rw [hE])
    rw [hE] at this
    cases p <;> cases p' <;> try exact h.elim
    · exact NT.rep (G := G) h this
    · obtain ⟨vs, e, h2⟩ := this; exact ⟨vs, e, NTs.rep h h2⟩
  · rw [iN hj] at hc ⊢
    exact hs'.slot j hc
theorem mD {E : Env} {σ : List OB} (b : Nat) {cs : List CV} (cs' : List CV) (hσ : σ[b]? = some (.box cs)) (h : NTs cs cs') : fD E σ E (σ.set b (.box cs')) := by
  intro G a w hs'
  refine ⟨G, Gle.refl G, ?_, hs'.defers, hs'.size, hs'.na, hs'.slot⟩
  have hi := hs'.inv
  have hlt : b < σ.length := (List.getElem?_eq_some_iff.1 hσ).1
  refine ⟨hi.hH, hi.hF, hi.HF, by simpa using hi.len, fun k ob hk => ?_, hi.inj, hi.sep, hi.os, hi.tape, hi.output, hi.grow⟩
  by_cases hkb : k = b
  · subst hkb
    rw [List.getElem?_set_self hlt] at hk
    simp only [sJ] at hk; subst hk
    obtain ⟨o, c, T, h1, h2, h3, h4, h5⟩ := hi.own k _ hσ
    exact ⟨o, c, T, h1, h2, h3, h4, NTs.rep h h5⟩
  · rw [List.getElem?_set_ne (Ne.symm hkb)] at hk
    exact hi.own k ob hk
def okI (k : IntKind) (n : Int) : Prop := k.min ≤ n ∧ n ≤ k.max
def okT {α : Type} (_ : α) : Prop := True
def okL {α : Type} (p : α → Prop) (l : List α) : Prop := ∀ y ∈ l, p y
def szI {α : Type} (_ : α) : Nat := 1
def szL {α : Type} (f : α → Nat) (l : List α) : Nat := (l.map f).sum + 1
theorem AH {α : Type} {f : α → Nat} (hf : ∀ x, 1 ≤ f x) (l : List α) : l.length + 1 ≤ szL f l := by
  unfold szL
  induction l with
  | nil => simp
  | cons x l ih => have := hf x; simp at ih ⊢; omega
def gK (P : Program) (ops : Array Oper) (l : List Oper) (E : Env) (σ : List OB) (k : Env → List OB → Prop) (kp : PV → Env → List OB → Prop) : Prop := WL P ops l E σ (KR k kp)
section
variable {P : Program} {ops : Array Oper} {E E' : Env} {σ σ' : List OB} {k : Env → List OB → Prop} {kp : PV → Env → List OB → Prop} {l : List Oper}
theorem aa (h : fa P ops l E σ k kp) : gK P ops l E σ k kp := iQ l E σ k kp h
theorem kj (hg : fD E σ E' σ') (h : gK P ops l E' σ' k kp) : gK P ops l E σ k kp := fun G a w hs => by
  obtain ⟨G', h1, h2⟩ := hg G a w hs
  exact dp (fun _ _ _ hq => dY.back h1 hq) _ _ _ (h G' a w h2)
theorem pz {Q Q1 : Exit → Act → World → Prop} {l2 : List Oper} (h1 : ∀ a w, Q1 .normal a w → wpList P ops Q l2 a w) (h2 : ∀ e a w, e ≠ .normal → Q1 e a w → Q e a w) :
    ∀ (l : List Oper) (a : Act) (w : World), wpList P ops Q1 l a w → wpList P ops Q (l ++ l2) a w
  | [], a, w, h => h1 a w h
  | o :: r, a, w, h => by
    rw [List.cons_append]
    unfold wpList at h ⊢
    have hl : LetsOut Q1 → LetsOut Q := fun ⟨a, w, h⟩ => ⟨a, w, h2 _ _ _ (by simp) h⟩
    split at h
    · rename_i hw
      rw [iP hw]
      rcases h with h | ⟨h3, h4⟩
      · left
        unfold Oper.wp at h ⊢
        generalize (execOp a.eval o).run P w = res at h
        have ih := fun a w h => pz h1 h2 r a w h
        cases res with
        | ok nx w' =>
          cases nx <;> first
            | exact h.elim
            | exact ih _ _ h
            | (refine Calls.mono h fun e w'' hh => ?_
               cases e with
               | returned v => exact ih _ _ hh
               | panicked ch => exact h2 _ _ _ (by simp) hh
               | outgrown => exact hl hh)
            | exact Rows.mono h fun v w'' hh => ih _ _ hh
        | halt hh w' => cases hh <;> first | exact h.elim | exact h2 _ _ _ (by simp) h
      · exact .inr ⟨h3, hl h4⟩
    · rename_i hw
      rw [iN hw]
      exact pz h1 h2 r _ _ h
theorem an (n : Nat) (h : fa P ops (l.take n) E σ (fun E' σ' => gK P ops (l.drop n) E' σ' k kp) kp) : gK P ops l E σ k kp := fun G a w hs => by
  have h1 := iQ _ _ _ _ _ h G a w hs
  have h2 := pz (Q := dY G (KR k kp)) (l2 := l.drop n) (fun a w hq => ?_) (fun e a w he hq => ?_) _ _ _ h1
  · rwa [List.take_append_drop] at h2
  · obtain ⟨G', E1, σ1, x, q1, q2, q3, q4⟩ := hq
    cases x <;> simp only [B5] at q3
    · exact dp (fun _ _ _ hq => dY.back q1 hq) _ _ _ (q4 G' a w q2)
    · cases q3
    · cases q3
    · obtain ⟨v, hv, _⟩ := q3; cases hv
  · obtain ⟨G', E1, σ1, x, q1, q2, q3, q4⟩ := hq
    cases x
    · exact (he q3).elim
    · exact q4.elim
    · exact q4.elim
    · exact ⟨G', E1, σ1, _, q1, q2, q3, q4⟩
theorem bx {K : Kt} {id : Nat} {y : Code} (ms : List Nat)
    (h : ∀ (k : Env → List OB → Prop) (kp : PV → Env → List OB → Prop), (∀ E σ, W P y K E σ → k E σ) → (∀ p E σ, K (.panic p) E σ → kp p E σ) → gK P l.toArray l E σ (fun E σ => k (E.forget ms) σ) kp) :
    W P (.seq (.region id l.toArray false) y) K E σ := qX fun G a w hs =>
  wp_region_lit (dp (fun _ _ _ hp => dY.mono (fun x E σ hk => by
      cases x with
      | normal => exact mA ms hk
      | exit id => exact hk.elim
      | ret => exact hk.elim
      | panic p => exact hk) hp)
    l a w (h (W P y K) (fun p => K (.panic p)) (fun _ _ h => h) (fun _ _ _ h => h) G a w hs))
theorem mE {K : Kt} {id : Nat} (h : ∀ (k : Env → List OB → Prop) (kp : PV → Env → List OB → Prop), (∀ E σ, K .normal E σ → k E σ) → (∀ p E σ, K (.panic p) E σ → kp p E σ) → gK P l.toArray l E σ k kp) :
    W P (.region id l.toArray false) K E σ := fun G a w hs =>
  wp_region_lit (dp (fun _ _ _ hp => dY.mono (fun x E σ hk => by cases x <;> first | exact hk | exact hk.elim) hp)
    l a w (h (K .normal) (fun p => K (.panic p)) (fun _ _ h => h) (fun _ _ _ h => h) G a w hs))
end
theorem qy {P : Program} {K : Kt} {E : Env} {σ : List OB} {c : Code} (i : Nat) {s : Nat} (hE : E.get i = ⟨true, .c (.tree s [])⟩) (h1 : W P c K (E.put i ⟨true, .c .nils⟩) σ) (h2 : W P c K (E.put i ⟨true, .c .emn⟩) σ) : W P c K E σ := fun G a w hs => by
  have hr := hs.slot i (by rw [hE])
  rw [hE] at hr
  have hr' : bl G.H (.tree s []) (a.tmps.getD i undef) := hr
  have put : ∀ y : CV, bl G.H y (a.tmps.getD i undef) → Sim G (E.put i ⟨true, .c y⟩) σ a w := fun y hy => by
    refine ⟨hs.inv, hs.defers, hs.size, hs.na, fun j hc => ?_⟩
    have hg := Env.get_put E i j _ hc
    rw [hg] at hc ⊢
    by_cases hj : j = i
    · subst hj; rw [iP rfl]; exact bl.rep hy
    · rw [iN hj] at hc ⊢; exact hs.slot j hc
  have key : bl G.H .nils (a.tmps.getD i undef) ∨ bl G.H .emn (a.tmps.getD i undef) := by
    generalize a.tmps.getD i undef = v at hr'
    cases hr' with
    | tree0 _ ad cap hc =>
      cases ad with
      | some ad => exact .inr (.emn _ _)
      | none => have := hc rfl; subst this; exact .inl .nils
    | tree => exact .inr (.emn _ _)
  rcases key with h | h
  · exact h1 G a w (put _ h)
  · exact h2 G a w (put _ h)
theorem sj {E : Env} {σ : List OB} (b : Nat) (hb : b < σ.length) : fD E σ E (σ.set b .dead) := by
  intro G a w hs
  have hi := hs.inv
  have hblt : b < G.own.length := by rw [hi.len]; exact hb
  have hle : bD G.own (G.own.set b none) := by
    intro x oo h
    by_cases e : x = b
    · subst e
      exact ⟨none, by simp [hblt], fun o' ho' => by cases ho'⟩
    · exact ⟨oo, by rw [List.getElem?_set_ne (Ne.symm e)]; exact h, fun o' ho' => ⟨o', ho', .inl rfl⟩⟩
  have hne : ∀ (x : Nat) (o' : OG), (G.own.set b none)[x]? = some (some o') → x ≠ b ∧ G.own[x]? = some (some o') := by
    intro x o' h
    by_cases e : x = b
    · subst e; simp [hblt] at h
    · rw [List.getElem?_set_ne (Ne.symm e)] at h; exact ⟨e, h⟩
  refine ⟨{ G with own := G.own.set b none }, .mk' ⟨fun _ _ h => h, rfl, rfl, rfl⟩ hle, ?_, hs.defers, hs.size, hs.na, fun j hc => aX.mono (G := G) (G' := { G with own := G.own.set b none }) (fun _ _ h => h) hle (hs.slot j hc)⟩
  refine ⟨hi.hH, hi.hF, hi.HF, by simp [hi.len], ?_, fun x x' o1 o2 h1 h2 => hi.inj x x' o1 o2 (hne _ _ h1).2 (hne _ _ h2).2, fun x o' h hh => hi.sep x o' (hne _ _ h).2 hh, hi.os, hi.tape, hi.output, hi.grow⟩
  intro x ob h
  by_cases e : x = b
  · subst e
    simp only [List.getElem?_set_self hb, sJ] at h
    subst h
    simp [jm, hblt]
  · rw [List.getElem?_set_ne (Ne.symm e)] at h
    exact (hi.own x ob h).keep (G' := { G with own := G.own.set b none }) (fun _ _ h => h) hle (List.getElem?_set_ne (Ne.symm e)) (fun _ _ _ => rfl)
end Pam
namespace Pam
open Go
def pd (P : Program) (E : Env) (σ : List OB) (o : Oper) (v : PV) (σ' : List OB) : Prop := ∀ G a w, Sim G E σ a w → ur P G (execOp a.eval o) w v σ'
section
variable {P : Program} {ops : Array Oper} {E E' : Env} {σ σ' : List OB} {k : Env → List OB → Prop} {kp : PV → Env → List OB → Prop} {l : List Oper}
theorem pX {o : Oper} {r : List Oper} {v : PV} (hx : pd P E σ o v σ') (hg : dZ ops E o.guard = some true) (hd : dk E o.dst)
    (h : gK P ops r (E.putD o.dst ⟨true, v⟩) σ' k kp) : gK P ops (o :: r) E σ k kp := fun G a w hs => by
  have hw := mz (P := P) hs hg
  unfold wpList
  rw [iP hw]
  obtain ⟨nx, val, w', G', e1, e2, e3, e4, e5, e6⟩ := hx G a w hs
  left
  unfold Oper.wp
  have hs' : Sim G' (E.putD o.dst ⟨true, v⟩) σ' (a.put o.dst val) w' := (hs.ghost e5 e3.H e3.w0 e3.na e4).putD o.dst hd _ val fun _ => e6
  have := dp (fun e a w h => dY.back (Gle.mk' e3 e4) h) r _ _ (h G' _ w' hs')
  rw [e1]
  rcases e2 with rfl | ⟨rfl, rfl⟩
  · exact this
  · exact this
theorem vq {C : Prop} {f : FuncId} {args : List PV} {o : Oper} {r : List Oper}
    {args' : List PV} {σc : List OB} {post pp : PV → List OB → Prop} (hs : eD P f args' σc post pp) (ρ : List Nat) (hd : dk E o.dst) (hC : C) (hnd : ρ.Nodup) (hlt : ∀ b ∈ ρ, b < σ.length)
    (hargs : args = args'.map (PV.ren (df σ.length ρ))) (hσ : ρ.map (fun b => σ[b]?) = σc.map fun ob => some (ob.ren (df σ.length ρ))) (hu : fC ρ.length args') (hub : ck ρ.length σc)
    (next : ∀ p σ', post p σ' → ρ.length ≤ σ'.length → gK P ops r (E.putD o.dst ⟨true, p.ren (df σ.length ρ)⟩) (cV σ ρ (σ'.map (OB.ren (df σ.length ρ)))) k kp)
    (npanic : ∀ p σ', pp p σ' → ρ.length ≤ σ'.length → kp (p.ren (df σ.length ρ)) E (cV σ ρ (σ'.map (OB.ren (df σ.length ρ))))) :
    lZ P ops true C f args o r E σ k kp := qY hs ρ hd hC hnd hlt hargs hσ hu hub next npanic
theorem ti {γ : Bool} {C : Prop} {f : FuncId} {args : List PV} {o : Oper} {r : List Oper} {res : PV} (hs : γ = true → cd P f args res) (hd : dk E o.dst) (hC : γ = true → C) (hargs : args.all PV.noOwn = true) (hres : res.ren (df σ.length []) = res)
    (next : gK P ops r (E.putD o.dst ⟨γ, res⟩) σ k kp) : lZ P ops γ C f args o r E σ k kp := tg hs hd hC hargs hres next
theorem pd.quiet {o : Oper} {v : PV} (h : ∀ G a w, Sim G E σ a w → ∃ val, (execOp a.eval o).run P w = .ok (.value val) w ∧ aX G v val) : pd P E σ o v σ := fun G a w hs => by
  obtain ⟨val, h1, h2⟩ := h G a w hs
  exact ⟨_, val, w, G, h1, .inl rfl, mn.refl G, bD.refl _, hs.inv, h2⟩
theorem tL {G : Gh} {a : Act} {w : World} (hs : Sim G E σ a w) {x : Operand} {p : PV} (h : ev E x = ⟨true, p⟩) : aX G p (a.eval x) := by
  have := cK hs x
  rw [h] at this
  exact this rfl
theorem zn {G : Gh} {a : Act} {w : World} (hs : Sim G E σ a w) {d : Nat} {o : Option Operand} {e : Ent} {n : Int} (h : bnd d (o.map (ev E)) = some (e, n)) (hc : e.cond = true) :
    (o.map a.eval = none ∧ n = d) ∨ ∃ k, o.map a.eval = some (.int k n) := by
  cases o with
  | none => simp only [Option.map_none, bnd, sJ, Prod.mk.injEq] at h; exact .inl ⟨rfl, h.2.symm⟩
  | some x =>
    simp only [Option.map_some, bnd] at h
    split at h
    · rename_i k m hv
      simp only [sJ, Prod.mk.injEq] at h
      obtain ⟨rfl, rfl⟩ := h
      have := cK hs x hc
      rw [hv] at this
      exact .inr ⟨k, by rw [Option.map_some, de this]⟩
    · cases h
theorem zo {b ver lo len s : Nat} {T0 : TypeId} {es : List (List CV)} (hσ : σ[b]? = some (.arr s ver T0 es)) : d8 σ (.osl b ver lo len) := by simp [d8, hσ]
theorem pY {o : Oper} {T : TypeId} {x : Operand} {lo hi : Option Operand} {b ver lo0 len : Nat} {e1 e2 : Ent} {l h : Int} (ho : o.op = .slice T x lo hi none)
    {s : Nat} {T0 : TypeId} {es : List (List CV)} (hx : ev E x = ⟨true, .c (.osl b ver lo0 len)⟩) (hσ : σ[b]? = some (.arr s ver T0 es)) (hT : gF P T = true) (hk : bG P (P.elem T) = true)
    (hsz : P.cellsOf (P.elem T) = s)
    (h1 : bnd 0 (lo.map (ev E)) = some (e1, l)) (h2 : bnd len (hi.map (ev E)) = some (e2, h)) (c1 : e1.cond = true) (c2 : e2.cond = true) (hb : 0 ≤ l ∧ l ≤ h ∧ h ≤ len) :
    pd P E σ o (.c (.osl b ver (lo0 + l.toNat) (h.toNat - l.toNat))) σ := .quiet fun G a w hs => by
  obtain ⟨g0, g1, g2⟩ := hb
  have hu' := d9 hT
  obtain ⟨og, s', T'', es', hb', hown, hov, hosz, ⟨hcap, ad, hval, hha⟩, hok⟩ := j8 hs.inv (zo hσ) (tL hs hx)
  rw [hb'] at hσ
  simp only [sJ, OB.arr.injEq] at hσ
  rw [← hσ.1] at hsz
  have k1 : (lo.map a.eval = none ∧ l = 0) ∨ ∃ k, lo.map a.eval = some (.int k l) := by simpa using zn hs h1 c1
  have k2 := zn hs h2 c2
  have hbds := gg (P := P) (w := w) true len (og.cap - lo0) (lo.map a.eval) (hi.map a.eval) l h k1 k2 (by omega) (by omega) (by omega)
  refine ⟨sliced ad l.toNat h.toNat (og.cap - lo0) s', ?_, ⟨rfl, _, hown, fun o' e => ?_⟩⟩
  · simp only [execOp, ho, hval]
    refine j7 ?_
    rw [Option.map_none, run_sliceAt_slice w T _ _ _ _ hu', run_slice_any w T _ _ _ hu', hbds]
    simp only [Result.andThen_ok, cr hk, hsz]
  · simp only [sJ] at e; subst e
    refine ⟨by omega, fun _ => ⟨by omega, if og.cap - lo0 = l.toNat then ad else ad.map (·.add (l.toNat * s')), ?_, fun hh => ?_⟩⟩
    · simp only [sliced]; congr 1; omega
    · obtain ⟨a', rfl, ha'⟩ := hha hh
      split
      · exact ⟨a', rfl, fun hlt => by omega⟩
      · have := ha' (by omega)
        subst this
        refine ⟨_, rfl, fun _ => ?_⟩
        show (⟨og.blk, og.off + lo0 * og.sz, none⟩ : Addr).add (l.toNat * s') = _
        rw [im, hosz, Nat.add_mul, Nat.add_assoc]
end
def CV.mvO (b k vk w : Nat) : CV → CV
  | .osl b' v lo len => if b' = k then (if v = vk then .osl b w lo len else .junk) else .osl b' v lo len
  | .oel b' v i j => if b' = k then (if v = vk then .oel b w i j else .junk) else .oel b' v i j
  | .optr b' off => if b' = k then .junk else .optr b' off
  | .fn f caps => .fn f caps
  | .junk => .junk
  | .bool x => .bool x
  | .int k n => .int k n
  | .str x => .str x
  | .nilp => .nilp
  | .nils => .nils
  | .nilf => .nilf
  | .nili => .nili
  | .emp => .emp
  | .emn => .emn
  | .tree s' es' => .tree s' es'
  | .tptr s' es' i j => .tptr s' es' i j
  | .ifc T g cs => .ifc T g cs
def CV.mv (b k vk w : Nat) : CV → CV
  | .fn f caps => .fn f (caps.map (CV.mvO b k vk w))
  | c => c.mvO b k vk w
def PV.mv (b k vk w : Nat) : PV → PV
  | .x => .x
  | .c y => .c (y.mv b k vk w)
  | .a ys => .a (ys.map (CV.mv b k vk w))
  | .t _ => .x
def OB.mv (b k vk w : Nat) : OB → OB
  | .box cs => .box (cs.map (CV.mv b k vk w))
  | .arr s' v T e => .arr s' v T e
  | .dead => .dead
  | .mp P k m => .mp P k m
def Tr.mv (b k vk w : Nat) : Tr → Tr
  | .nil => .nil
  | .leaf e => .leaf ⟨e.cond && (match e.v with | .t _ => false | _ => true), e.v.mv b k vk w⟩
  | .node a0 a1 a2 a3 a4 a5 a6 a7 => .node (a0.mv b k vk w) (a1.mv b k vk w) (a2.mv b k vk w) (a3.mv b k vk w) (a4.mv b k vk w) (a5.mv b k vk w) (a6.mv b k vk w) (a7.mv b k vk w)
def Env.mv (b k vk w : Nat) (E : Env) : Env := ⟨E.n, E.na, E.t.mv b k vk w⟩
theorem Tr.mv_get (b k vk w : Nat) (t : Tr) (j : Nat) : (t.mv b k vk w).get j = (t.get j).mv b k vk w := by
  rcases Nat.lt_or_ge j 8 with hj | hj
  · have hj' : j = 0 ∨ j = 1 ∨ j = 2 ∨ j = 3 ∨ j = 4 ∨ j = 5 ∨ j = 6 ∨ j = 7 := by omega
    cases t <;> rcases hj' with rfl | rfl | rfl | rfl | rfl | rfl | rfl | rfl <;> rfl
  · rw [Tr.get_big _ _ hj, Tr.get_big _ _ hj]; rfl
theorem Tr.mv_ent (b k vk w : Nat) (t : Tr) : (t.mv b k vk w).ent = ⟨t.ent.cond && (match t.ent.v with | .t _ => false | _ => true), t.ent.v.mv b k vk w⟩ := by
  cases t <;> rfl
section
variable {G : Gh} {σ : List OB} {w : World} {b k sb vb sk vk : Nat} {Tb Tk : TypeId} {eb ek : List (List CV)} {ob ok : OG}
def mvG (G : Gh) (b k : Nat) (ob ok : OG) : Gh := { G with own := (G.own.set k none).set b (some { ok with ver := ob.ver + 1 }) }
theorem zp (hbk : b ≠ k) (hk : G.own[k]? = some (some ok)) (hb : G.own[b]? = some (some ob)) (x : Nat) :
    (mvG G b k ob ok).own[x]? = if x = b then some (some { ok with ver := ob.ver + 1 }) else if x = k then some none else G.own[x]? := by
  have h1 := (List.getElem?_eq_some_iff.1 hb).1
  have h2 := (List.getElem?_eq_some_iff.1 hk).1
  simp only [mvG]
  by_cases e : x = b
  · subst e; rw [iP rfl]; simp [h1]
  · rw [iN e, List.getElem?_set_ne (Ne.symm e)]
    by_cases e2 : x = k
    · subst e2; rw [iP rfl]; simp [h2]
    · rw [iN e2, List.getElem?_set_ne (Ne.symm e2)]
theorem Bi (hbk : b ≠ k) (hk : G.own[k]? = some (some ok)) (hb : G.own[b]? = some (some ob)) : bD G.own (mvG G b k ob ok).own := by
  intro x oo h
  rw [zp hbk hk hb]
  by_cases e : x = b
  · subst e
    rw [hb] at h
    simp only [sJ] at h
    exact ⟨_, by rw [iP rfl], fun o' e => ⟨ob, h.symm, by simp only [sJ] at e; subst e; right; show _ < _ + 1; omega⟩⟩
  · rw [iN e]
    by_cases e2 : x = k
    · exact ⟨none, by rw [iP e2], fun o' e => by cases e⟩
    · exact ⟨oo, by rw [iN e2]; exact h, fun o' ho' => ⟨o', ho', .inl rfl⟩⟩
theorem ir (hbk : b ≠ k) (hk : G.own[k]? = some (some ok)) (hb : G.own[b]? = some (some ob)) (hvk : ok.ver = vk) {c : CV} {v : Value} (h : dc G c v) :
    dc (mvG G b k ob ok) (c.mvO b k vk (ob.ver + 1)) v := by
  have h1 : v.oneCell' = true := dc.one h
  have hm : ∀ {c}, dc G c v → dc (mvG G b k ob ok) c v := fun h => dc.mono (G := G) (G' := mvG G b k ob ok) (fun _ _ h => h) (Bi hbk hk hb) h
  have junk : dc (mvG G b k ob ok) .junk v := .junk v h1
  have hat : (mvG G b k ob ok).own[b]? = some (some { ok with ver := ob.ver + 1 }) := by rw [zp hbk hk hb, iP rfl]
  cases c <;> simp only [CV.mvO] <;> try exact hm h
  case optr b' off =>
    split
    · exact junk
    · exact hm h
  case oel b' v' i j =>
    split
    · rename_i e
      subst e
      split
      · rename_i e2
        subst e2
        obtain ⟨_, oo, k1, k2⟩ := h
        rw [hk] at k1
        simp only [sJ] at k1
        obtain ⟨q1, q2⟩ := k2 ok k1.symm
        refine ⟨h1, _, hat, fun o e => ?_⟩
        simp only [sJ] at e; subst e
        exact ⟨Nat.le_refl _, fun _ => q2 hvk.symm⟩
      · exact junk
    · exact hm h
  case osl b' v' lo len =>
    split
    · rename_i e
      subst e
      split
      · rename_i e2
        subst e2
        obtain ⟨_, oo, k1, k2⟩ := h
        rw [hk] at k1
        simp only [sJ] at k1
        obtain ⟨q1, q2⟩ := k2 ok k1.symm
        refine ⟨h1, _, hat, fun o e => ?_⟩
        simp only [sJ] at e; subst e
        exact ⟨Nat.le_refl _, fun _ => q2 hvk.symm⟩
      · exact junk
    · exact hm h
theorem Bj (hbk : b ≠ k) (hk : G.own[k]? = some (some ok)) (hb : G.own[b]? = some (some ob)) (hvk : ok.ver = vk) {c : CV} {v : Value} (h : Rep G c v) :
    Rep (mvG G b k ob ok) (c.mv b k vk (ob.ver + 1)) v := by
  cases c
  case fn f caps =>
    obtain ⟨vs, rfl, h2⟩ := h
    refine ⟨vs, rfl, ?_⟩
    induction caps generalizing vs with
    | nil => cases vs <;> simp_all [aR]
    | cons c cs ih =>
      cases vs with
      | nil => simp [aR] at h2
      | cons v vs => exact ⟨ir hbk hk hb hvk h2.1, ih vs h2.2⟩
  all_goals first
    | exact ir hbk hk hb hvk (c := .junk) h
    | exact ir hbk hk hb hvk (c := .bool _) h
    | exact ir hbk hk hb hvk (c := .int _ _) h
    | exact ir hbk hk hb hvk (c := .str _) h
    | exact ir hbk hk hb hvk (c := .nilp) h
    | exact ir hbk hk hb hvk (c := .nils) h
    | exact ir hbk hk hb hvk (c := .nilf) h
    | exact ir hbk hk hb hvk (c := .nili) h
    | exact ir hbk hk hb hvk (c := .emp) h
    | exact ir hbk hk hb hvk (c := .emn) h
    | exact ir hbk hk hb hvk (c := .tree _ _) h
    | exact ir hbk hk hb hvk (c := .tptr _ _ _ _) h
    | exact ir hbk hk hb hvk (c := .ifc _ _ _) h
    | skip
  case optr b' off =>
    have := ir hbk hk hb hvk (c := .optr b' off) h
    simp only [CV.mv]
    by_cases e : b' = k <;> simp only [CV.mvO, e, if_true, if_false] at this ⊢ <;> exact this
  case osl b' v' lo len =>
    have := ir hbk hk hb hvk (c := .osl b' v' lo len) h
    simp only [CV.mv]
    by_cases e : b' = k
    · by_cases e2 : v' = vk <;> simp only [CV.mvO, e, e2, if_true, if_false] at this ⊢ <;> exact this
    · simp only [CV.mvO, e, if_false] at this ⊢; exact this
  case oel b' v' i j =>
    have := ir hbk hk hb hvk (c := .oel b' v' i j) h
    simp only [CV.mv]
    by_cases e : b' = k
    · by_cases e2 : v' = vk <;> simp only [CV.mvO, e, e2, if_true, if_false] at this ⊢ <;> exact this
    · simp only [CV.mvO, e, if_false] at this ⊢; exact this
theorem zq (hbk : b ≠ k) (hk : G.own[k]? = some (some ok)) (hb : G.own[b]? = some (some ob)) (hvk : ok.ver = vk) : ∀ {cs : List CV} {vs : List Value}, aR (Rep G) cs vs → aR (Rep (mvG G b k ob ok)) (cs.map (CV.mv b k vk (ob.ver + 1))) vs
  | [], [], _ => trivial
  | _ :: _, _ :: _, h => ⟨Bj hbk hk hb hvk h.1, zq hbk hk hb hvk h.2⟩
end
theorem ku {E : Env} {σ : List OB} (b k : Nat) {sb vb sk vk : Nat} {Tb Tk : TypeId} {eb ek : List (List CV)} (hbk : b ≠ k) (hσb : σ[b]? = some (.arr sb vb Tb eb)) (hσk : σ[k]? = some (.arr sk vk Tk ek)) :
    fD E σ (E.mv b k vk (vb + 1)) (((σ.set k .dead).set b (.arr sk (vb + 1) Tk ek)).map (OB.mv b k vk (vb + 1))) := by
  intro G a w hs
  have hi := hs.inv
  obtain ⟨ob, hob, hvb, _⟩ := hi.own b _ hσb
  obtain ⟨ok, hok, hvk, r3, r4, r5, r6, r7, r8, r9⟩ := hi.own k _ hσk
  subst hvb
  have hat := zp (G := G) hbk hok hob
  have hle := Bi (G := G) hbk hok hob
  have hne : ∀ (x : Nat) (o' : OG), (mvG G b k ob ok).own[x]? = some (some o') → (x = b ∧ o' = { ok with ver := ob.ver + 1 }) ∨ (x ≠ b ∧ x ≠ k ∧ G.own[x]? = some (some o')) := by
    intro x o' h
    rw [hat] at h
    split at h
    · rename_i e; simp only [sJ] at h; exact .inl ⟨e, h.symm⟩
    · rename_i e
      split at h
      · simp at h
      · rename_i e2; exact .inr ⟨e, e2, h⟩
  refine ⟨mvG G b k ob ok, .mk' ⟨fun _ _ h => h, rfl, rfl, rfl⟩ hle, ⟨hi.hH, hi.hF, hi.HF, by simp [mvG, hi.len], ?_, ?_, ?_, hi.os, hi.tape, hi.output, hi.grow⟩, hs.defers, hs.size, hs.na, fun i hc => ?_⟩
  · intro x obx h
    rw [List.getElem?_map, Option.map_eq_some_iff] at h
    obtain ⟨ob', h1, rfl⟩ := h
    have hlb : b < σ.length := (List.getElem?_eq_some_iff.1 hσb).1
    have hlk : k < σ.length := (List.getElem?_eq_some_iff.1 hσk).1
    by_cases e : x = b
    · subst e
      rw [List.getElem?_set_self (by simpa using hlb)] at h1
      simp only [sJ] at h1
      subst h1
      exact ⟨{ ok with ver := ob.ver + 1 }, by rw [hat, iP rfl], rfl, r3, r4, r5, r6, r7, r8, r9⟩
    · rw [List.getElem?_set_ne (Ne.symm e)] at h1
      by_cases e2 : x = k
      · subst e2
        rw [List.getElem?_set_self hlk] at h1
        simp only [sJ] at h1
        subst h1
        show (mvG G b x ob ok).own[x]? = some none
        rw [hat, iN e, iP rfl]
      · rw [List.getElem?_set_ne (Ne.symm e2)] at h1
        have hx : (mvG G b k ob ok).own[x]? = G.own[x]? := by rw [hat, iN e, iN e2]
        have hokx := hi.own x ob' h1
        cases ob' with
        | dead => simpa [OB.mv, jm, hx] using hokx
        | box cs =>
          obtain ⟨o', c, T', g1, g2, g3, g4, g5⟩ := hokx
          exact ⟨o', c, T', hx.trans g1, g2, g3, g4, zq hbk hok hob hvk g5⟩
        | arr s' v' T' e' =>
          obtain ⟨o', g1, g2, g3, g4, g5, g6, g7, g8, g9⟩ := hokx
          exact ⟨o', hx.trans g1, g2, g3, g4, g5, g6, g7, g8, g9⟩
        | mp P k m =>
          obtain ⟨o', g1, rest⟩ := hokx
          exact ⟨o', hx.trans g1, rest⟩
  · intro x x' o1 o2 h1 h2 hh1 hh2 he
    rcases hne x o1 h1 with ⟨e1, f1⟩ | ⟨e1, e1', f1⟩ <;> rcases hne x' o2 h2 with ⟨e2, f2⟩ | ⟨e2, e2', f2⟩
    · omega
    · subst f1
      have := hi.inj k x' ok o2 hok f2 hh1 hh2 he
      omega
    · subst f2
      have := hi.inj x k o1 ok f1 hok hh1 hh2 he
      omega
    · exact hi.inj x x' o1 o2 f1 f2 hh1 hh2 he
  · intro x o' h hh
    rcases hne x o' h with ⟨e1, f1⟩ | ⟨e1, e1', f1⟩
    · subst f1; exact hi.sep k ok hok hh
    · exact hi.sep x o' f1 hh
  · have hget : (E.mv b k vk (ob.ver + 1)).get i = ⟨(E.get i).cond && (match (E.get i).v with | .t _ => false | _ => true), (E.get i).v.mv b k vk (ob.ver + 1)⟩ := by
      unfold Env.get Env.mv
      simp only
      rw [Tr.mv_get, Tr.mv_get, Tr.mv_get, Tr.mv_ent]
    rw [hget] at hc ⊢
    simp only [Bool.and_eq_true] at hc
    have hr := hs.slot i hc.1
    cases hv : (E.get i).v with
    | x => trivial
    | c y => rw [hv] at hr; exact Bj hbk hok hob hvk hr
    | a ys => rw [hv] at hr; obtain ⟨vs, e, h2⟩ := hr; exact ⟨vs, e, zq hbk hok hob hvk h2⟩
    | t ps => rw [hv] at hc; simp at hc
theorem C9 :
    ((∀ b k v w n na t, Env.mv b k v w ⟨n, na, t⟩ = ⟨n, na, t.mv b k v w⟩) ∧ (∀ b k v w, Tr.mv b k v w .nil = .nil) ∧ (∀ b k v w c y, Tr.mv b k v w (.leaf ⟨c, .c y⟩) = .leaf ⟨c, .c (y.mv b k v w)⟩) ∧ (∀ b k v w c ys, Tr.mv b k v w (.leaf ⟨c, .a ys⟩) = .leaf ⟨c, .a (ys.map (CV.mv b k v w))⟩) ∧
     (∀ b k v w c ps, Tr.mv b k v w (.leaf ⟨c, .t ps⟩) = .leaf ⟨false, .x⟩) ∧ (∀ b k v w c, Tr.mv b k v w (.leaf ⟨c, .x⟩) = .leaf ⟨c, .x⟩) ∧
     (∀ b k v w a0 a1 a2 a3 a4 a5 a6 a7, Tr.mv b k v w (.node a0 a1 a2 a3 a4 a5 a6 a7) = .node (a0.mv b k v w) (a1.mv b k v w) (a2.mv b k v w) (a3.mv b k v w) (a4.mv b k v w) (a5.mv b k v w) (a6.mv b k v w) (a7.mv b k v w))) ∧
    ((∀ b k v w, OB.mv b k v w .dead = .dead) ∧ (∀ b k v w cs, OB.mv b k v w (.box cs) = .box (cs.map (CV.mv b k v w))) ∧ (∀ b k v w s' v' T e, OB.mv b k v w (.arr s' v' T e) = .arr s' v' T e) ∧ (∀ b k v w P k' m, OB.mv b k v w (.mp P k' m) = .mp P k' m)) ∧
    ((∀ b k v w x, CV.mv b k v w (.bool x) = .bool x) ∧ (∀ b k v w q n, CV.mv b k v w (.int q n) = .int q n) ∧ (∀ b k v w x, CV.mv b k v w (.str x) = .str x) ∧ (∀ b k v w, CV.mv b k v w .nilp = .nilp) ∧ (∀ b k v w, CV.mv b k v w .nils = .nils) ∧
     (∀ b k v w, CV.mv b k v w .nilf = .nilf) ∧ (∀ b k v w, CV.mv b k v w .nili = .nili) ∧ (∀ b k v w, CV.mv b k v w .emp = .emp) ∧ (∀ b k v w, CV.mv b k v w .emn = .emn) ∧ (∀ b k v w, CV.mv b k v w .junk = .junk) ∧ (∀ b k v w s' e', CV.mv b k v w (.tree s' e') = .tree s' e') ∧
     (∀ b k v w s' e' i j, CV.mv b k v w (.tptr s' e' i j) = .tptr s' e' i j) ∧ (∀ b k v w T g cs, CV.mv b k v w (.ifc T g cs) = .ifc T g cs)) ∧
    ((∀ b k v w b' v' lo len, CV.mv b k v w (.osl b' v' lo len) = if b' = k then (if v' = v then .osl b w lo len else .junk) else .osl b' v' lo len) ∧
     (∀ b k v w b' v' i j, CV.mv b k v w (.oel b' v' i j) = if b' = k then (if v' = v then .oel b w i j else .junk) else .oel b' v' i j) ∧ (∀ b k v w b' off, CV.mv b k v w (.optr b' off) = if b' = k then .junk else .optr b' off) ∧
     (∀ b k v w f caps, CV.mv b k v w (.fn f caps) = .fn f (caps.map (CV.mvO b k v w)))) := by
  refine ⟨⟨?_, ?_, ?_, ?_, ?_, ?_, ?_⟩, ⟨?_, ?_, ?_, ?_⟩, ⟨?_, ?_, ?_, ?_, ?_, ?_, ?_, ?_, ?_, ?_, ?_, ?_, ?_⟩, ?_, ?_, ?_, ?_⟩
  all_goals intros
  all_goals first | rfl | (simp [Tr.mv, PV.mv]; done)
theorem pA {E : Env} {σ : List OB} (b j s : Nat) (T : TypeId) {cs : List CV} (hs : 0 < s) (hσ : σ[b]? = some (.box cs)) (hj : cs[j]? = some .nils) :
    fD E σ E (σ.set b (.box (cs.set j (.osl σ.length 0 0 0))) ++ [.arr s 0 T []]) := by
  intro G a w hs'
  have hi := hs'.inv
  have hi2 := hi.nil s T hs
  have hle : bD G.own (G.own ++ [some ⟨0, s, 0, 0, false, 0⟩]) := bD.append _ _
  have hlt : b < σ.length := (List.getElem?_eq_some_iff.1 hσ).1
  refine ⟨{ G with own := G.own ++ [some ⟨0, s, 0, 0, false, 0⟩] }, .mk' ⟨fun _ _ h => h, rfl, rfl, rfl⟩ hle, ?_, hs'.defers, hs'.size, hs'.na, fun i hc => aX.mono (G := G) (G' := { G with own := G.own ++ [some ⟨0, s, 0, 0, false, 0⟩] }) (fun _ _ h => h) hle (hs'.slot i hc)⟩
  have hset : σ.set b (.box (cs.set j (.osl σ.length 0 0 0))) ++ [.arr s 0 T []] = (σ ++ [OB.arr s 0 T []]).set b (.box (cs.set j (.osl σ.length 0 0 0))) := by
    rw [List.set_append_left _ _ hlt]
  rw [hset]
  refine ⟨hi2.hH, hi2.hF, hi2.HF, by simpa using hi2.len, fun x ob hx => ?_, hi2.inj, hi2.sep, hi2.os, hi2.tape, hi2.output, hi2.grow⟩
  by_cases hxb : x = b
  · subst hxb
    rw [List.getElem?_set_self (by simp; omega)] at hx
    simp only [sJ] at hx; subst hx
    obtain ⟨o, c, T', h1, h2, h3, h4, h5⟩ := hi2.own x (.box cs) (by rw [List.getElem?_append_left hlt]; exact hσ)
    refine ⟨o, c, T', h1, h2, h3, h4, ?_⟩
    have hlen := h5.length
    refine aR.of_get (by simpa using hlen) fun i y v hy hv => ?_
    by_cases e : i = j
    · subst e
      have hl : i < cs.length := (List.getElem?_eq_some_iff.1 hj).1
      rw [List.getElem?_set_self hl] at hy
      simp only [sJ] at hy; subst hy
      obtain ⟨v', hv', hr⟩ := h5.get i _ hj
      rw [hv] at hv'
      simp only [sJ] at hv'; subst hv'
      exact xx hi s (v := v) hr
    · rw [List.getElem?_set_ne (Ne.symm e)] at hy
      obtain ⟨v', hv', hr⟩ := h5.get i _ hy
      rw [hv] at hv'
      simp only [sJ] at hv'; subst hv'
      exact hr
  · rw [List.getElem?_set_ne (Ne.symm hxb)] at hx
    exact hi2.own x ob hx
theorem wC {E : Env} {σ : List OB} (b n : Nat) {s ver : Nat} {T : TypeId} {es : List (List CV)} (hσ : σ[b]? = some (.arr s ver T es)) : fD E σ E (σ.set b (.arr s ver T (es.take n))) := by
  intro G a w hs'
  have hi := hs'.inv
  have hlt : b < σ.length := (List.getElem?_eq_some_iff.1 hσ).1
  refine ⟨G, Gle.refl G, ?_, hs'.defers, hs'.size, hs'.na, hs'.slot⟩
  refine ⟨hi.hH, hi.hF, hi.HF, by simpa using hi.len, fun k ob hk => ?_, hi.inj, hi.sep, hi.os, hi.tape, hi.output, hi.grow⟩
  by_cases hkb : k = b
  · subst hkb
    rw [List.getElem?_set_self hlt] at hk
    simp only [sJ] at hk; subst hk
    obtain ⟨o, g1, g2, g3, g4, g5, g6, g7, g8, g9⟩ := hi.own k _ hσ
    refine ⟨o, g1, g2, g3, g4, by simp; omega, g6, fun e he => g7 e (List.mem_of_mem_take he), g8, fun hh => ?_⟩
    obtain ⟨c, fz, r1, r2, r3, r4⟩ := g9 hh
    refine ⟨c, fz, r1, r2, r3, fun i j e x he hx => r4 i j e x ?_ hx⟩
    rw [List.getElem?_take] at he
    split at he
    · exact he
    · cases he
  · rw [List.getElem?_set_ne (Ne.symm hkb)] at hk
    exact hi.own k ob hk
def CV.dnO (b k : Nat) : CV → CV
  | .osl b' v lo len => if b' = k then .osl b v lo len else if b' = b then .junk else .osl b' v lo len
  | .oel b' v i j => if b' = k then .oel b v i j else if b' = b then .junk else .oel b' v i j
  | .optr b' off => if b' = k then .optr b off else if b' = b then .junk else .optr b' off
  | .fn f caps => .fn f caps
  | .junk => .junk
  | .bool x => .bool x
  | .int k n => .int k n
  | .str x => .str x
  | .nilp => .nilp
  | .nils => .nils
  | .nilf => .nilf
  | .nili => .nili
  | .emp => .emp
  | .emn => .emn
  | .tree s' es' => .tree s' es'
  | .tptr s' es' i j => .tptr s' es' i j
  | .ifc T g cs => .ifc T g cs
def CV.dn (b k : Nat) : CV → CV
  | .fn f caps => .fn f (caps.map (CV.dnO b k))
  | c => c.dnO b k
def PV.dn (b k : Nat) : PV → PV
  | .x => .x
  | .c y => .c (y.dn b k)
  | .a ys => .a (ys.map (CV.dn b k))
  | .t _ => .x
def OB.dn (b k : Nat) : OB → OB
  | .box cs => .box (cs.map (CV.dn b k))
  | .arr s' v T e => .arr s' v T e
  | .dead => .dead
  | .mp P k m => .mp P k m
def Tr.dn (b k : Nat) : Tr → Tr
  | .nil => .nil
  | .leaf e => .leaf ⟨e.cond && (match e.v with | .t _ => false | _ => true), e.v.dn b k⟩
  | .node a0 a1 a2 a3 a4 a5 a6 a7 => .node (a0.dn b k) (a1.dn b k) (a2.dn b k) (a3.dn b k) (a4.dn b k) (a5.dn b k) (a6.dn b k) (a7.dn b k)
def Env.dn (b k : Nat) (E : Env) : Env := ⟨E.n, E.na, E.t.dn b k⟩
theorem Tr.dn_get (b k : Nat) (t : Tr) (j : Nat) : (t.dn b k).get j = (t.get j).dn b k := by
  rcases Nat.lt_or_ge j 8 with hj | hj
  · have hj' : j = 0 ∨ j = 1 ∨ j = 2 ∨ j = 3 ∨ j = 4 ∨ j = 5 ∨ j = 6 ∨ j = 7 := by omega
    cases t <;> rcases hj' with rfl | rfl | rfl | rfl | rfl | rfl | rfl | rfl <;> rfl
  · rw [Tr.get_big _ _ hj, Tr.get_big _ _ hj]; rfl
theorem Tr.dn_ent (b k : Nat) (t : Tr) : (t.dn b k).ent = ⟨t.ent.cond && (match t.ent.v with | .t _ => false | _ => true), t.ent.v.dn b k⟩ := by
  cases t <;> rfl
section
variable {G : Gh} {σ : List OB} {w : World} {b k : Nat} {oo : Option OG}
def dnG (G : Gh) (b k : Nat) (oo : Option OG) : Gh := { G with own := (G.own.set k none).set b oo }
theorem Bk (hbk : b ≠ k) (hk : G.own[k]? = some oo) (hb : G.own[b]? = some none) (x : Nat) :
    (dnG G b k oo).own[x]? = if x = b then some oo else if x = k then some none else G.own[x]? := by
  have h1 := (List.getElem?_eq_some_iff.1 hb).1
  have h2 := (List.getElem?_eq_some_iff.1 hk).1
  simp only [dnG]
  by_cases e : x = b
  · subst e; rw [iP rfl]; simp [h1]
  · rw [iN e, List.getElem?_set_ne (Ne.symm e)]
    by_cases e2 : x = k
    · subst e2; rw [iP rfl]; simp [h2]
    · rw [iN e2, List.getElem?_set_ne (Ne.symm e2)]
theorem it (hbk : b ≠ k) (hk : G.own[k]? = some oo) (hb : G.own[b]? = some none) {c : CV} {v : Value} (h : dc G c v) : dc (dnG G b k oo) (c.dnO b k) v := by
  have h1 : v.oneCell' = true := dc.one h
  have hat := Bk hbk hk hb
  have junk : dc (dnG G b k oo) .junk v := .junk v h1
  have hm : ∀ {x : Nat} {Q : OG → Prop}, x ≠ b → x ≠ k → (∃ oo, G.own[x]? = some oo ∧ ∀ o, oo = some o → Q o) → ∃ oo', (dnG G b k oo).own[x]? = some oo' ∧ ∀ o, oo' = some o → Q o := by
    rintro x Q e1 e2 ⟨o1, h1, h2⟩
    exact ⟨o1, by rw [hat, iN e1, iN e2]; exact h1, h2⟩
  have hmk : ∀ {Q : OG → Prop}, (∃ oo, G.own[k]? = some oo ∧ ∀ o, oo = some o → Q o) → ∃ oo', (dnG G b k oo).own[b]? = some oo' ∧ ∀ o, oo' = some o → Q o := by
    rintro Q ⟨o1, h1, h2⟩
    rw [hk] at h1
    simp only [sJ] at h1
    subst h1
    exact ⟨oo, by rw [hat, iP rfl], h2⟩
  cases c <;> simp only [CV.dnO] <;> try exact h
  case optr b' off =>
    split
    · rename_i e; subst e; exact ⟨h.1, hmk h.2⟩
    · split
      · exact junk
      · rename_i e1 e2; exact ⟨h.1, hm e2 e1 h.2⟩
  case oel b' v' i j =>
    split
    · rename_i e; subst e; exact ⟨h.1, hmk h.2⟩
    · split
      · exact junk
      · rename_i e1 e2; exact ⟨h.1, hm e2 e1 h.2⟩
  case osl b' v' lo len =>
    split
    · rename_i e; subst e; exact ⟨h.1, hmk h.2⟩
    · split
      · exact junk
      · rename_i e1 e2; exact ⟨h.1, hm e2 e1 h.2⟩
theorem Bl (hbk : b ≠ k) (hk : G.own[k]? = some oo) (hb : G.own[b]? = some none) {c : CV} {v : Value} (h : Rep G c v) : Rep (dnG G b k oo) (c.dn b k) v := by
  cases c
  case fn f caps =>
    obtain ⟨vs, rfl, h2⟩ := h
    refine ⟨vs, rfl, ?_⟩
    induction caps generalizing vs with
    | nil => cases vs <;> simp_all [aR]
    | cons c cs ih =>
      cases vs with
      | nil => simp [aR] at h2
      | cons v vs => exact ⟨it hbk hk hb h2.1, ih vs h2.2⟩
  all_goals first
    | exact it hbk hk hb (c := .junk) h
    | exact it hbk hk hb (c := .bool _) h
    | exact it hbk hk hb (c := .int _ _) h
    | exact it hbk hk hb (c := .str _) h
    | exact it hbk hk hb (c := .nilp) h
    | exact it hbk hk hb (c := .nils) h
    | exact it hbk hk hb (c := .nilf) h
    | exact it hbk hk hb (c := .nili) h
    | exact it hbk hk hb (c := .emp) h
    | exact it hbk hk hb (c := .emn) h
    | exact it hbk hk hb (c := .tree _ _) h
    | exact it hbk hk hb (c := .tptr _ _ _ _) h
    | exact it hbk hk hb (c := .ifc _ _ _) h
    | skip
  case optr b' off =>
    have := it hbk hk hb (c := .optr b' off) h
    simp only [CV.dn]
    by_cases e : b' = k
    · simp only [CV.dnO, e, if_true] at this ⊢; exact this
    · by_cases e2 : b' = b <;> simp only [CV.dnO, e, e2, hbk, if_true, if_false] at this ⊢ <;> exact this
  case osl b' v' lo len =>
    have := it hbk hk hb (c := .osl b' v' lo len) h
    simp only [CV.dn]
    by_cases e : b' = k
    · simp only [CV.dnO, e, if_true] at this ⊢; exact this
    · by_cases e2 : b' = b <;> simp only [CV.dnO, e, e2, hbk, if_true, if_false] at this ⊢ <;> exact this
  case oel b' v' i j =>
    have := it hbk hk hb (c := .oel b' v' i j) h
    simp only [CV.dn]
    by_cases e : b' = k
    · simp only [CV.dnO, e, if_true] at this ⊢; exact this
    · by_cases e2 : b' = b <;> simp only [CV.dnO, e, e2, hbk, if_true, if_false] at this ⊢ <;> exact this
theorem zr (hbk : b ≠ k) (hk : G.own[k]? = some oo) (hb : G.own[b]? = some none) : ∀ {cs : List CV} {vs : List Value}, aR (Rep G) cs vs → aR (Rep (dnG G b k oo)) (cs.map (CV.dn b k)) vs
  | [], [], _ => trivial
  | _ :: _, _ :: _, h => ⟨Bl hbk hk hb h.1, zr hbk hk hb h.2⟩
end
theorem lD {E : Env} {σ : List OB} (b k : Nat) {ob : OB} (hbk : b ≠ k) (hna : E.na ≤ b) (hnk : E.na ≤ k) (hσb : σ[b]? = some .dead) (hσk : σ[k]? = some ob) :
    fD E σ (E.dn b k) (((σ.set k .dead).set b ob).map (OB.dn b k)) := by
  intro G a w hs
  have hi := hs.inv
  have hob : G.own[b]? = some none := hi.own b _ hσb
  have hlk : k < σ.length := (List.getElem?_eq_some_iff.1 hσk).1
  have hlb : b < σ.length := (List.getElem?_eq_some_iff.1 hσb).1
  obtain ⟨oo, hok⟩ : ∃ oo, G.own[k]? = some oo := ⟨_, List.getElem?_eq_getElem (by rw [hi.len]; exact hlk)⟩
  have hat := Bk (G := G) hbk hok hob
  have hne : ∀ (x : Nat) (o' : OG), (dnG G b k oo).own[x]? = some (some o') → (x = b ∧ G.own[k]? = some (some o')) ∨ (x ≠ b ∧ x ≠ k ∧ G.own[x]? = some (some o')) := by
    intro x o' h
    rw [hat] at h
    split at h
    · rename_i e; simp only [sJ] at h; exact .inl ⟨e, by rw [hok, h]⟩
    · rename_i e
      split at h
      · simp at h
      · rename_i e2; exact .inr ⟨e, e2, h⟩
  refine ⟨dnG G b k oo, ⟨⟨fun _ _ h => h, rfl, rfl, rfl⟩, fun x o1 hx h1 => ?_⟩, ⟨hi.hH, hi.hF, hi.HF, by simp [dnG, hi.len], ?_, ?_, ?_, hi.os, hi.tape, hi.output, hi.grow⟩, hs.defers, hs.size, hs.na, fun i hc => ?_⟩
  · have := hs.na
    refine ⟨o1, by rw [hat, iN (by omega), iN (by omega)]; exact h1, fun o' e => ⟨o', e, .inl rfl⟩⟩
  · intro x obx h
    rw [List.getElem?_map, Option.map_eq_some_iff] at h
    obtain ⟨ob', h1, rfl⟩ := h
    have conv : ∀ (y : Nat) (ob' : OB), jm G w y ob' → (dnG G b k oo).own[x]? = G.own[y]? → jm (dnG G b k oo) w x (ob'.dn b k) := by
      intro y ob' hokx hx
      cases ob' with
      | dead => simpa [OB.dn, jm, hx] using hokx
      | box cs =>
        obtain ⟨o', c, T', g1, g2, g3, g4, g5⟩ := hokx
        exact ⟨o', c, T', hx.trans g1, g2, g3, g4, zr hbk hok hob g5⟩
      | arr s' v' T' e' =>
        obtain ⟨o', g1, g2, g3, g4, g5, g6, g7, g8, g9⟩ := hokx
        exact ⟨o', hx.trans g1, g2, g3, g4, g5, g6, g7, g8, g9⟩
      | mp P k m =>
        obtain ⟨o', g1, rest⟩ := hokx
        exact ⟨o', hx.trans g1, rest⟩
    by_cases e : x = b
    · subst e
      rw [List.getElem?_set_self (by simpa using hlb)] at h1
      simp only [sJ] at h1
      subst h1
      exact conv k _ (hi.own k _ hσk) (by rw [hat, iP rfl, hok])
    · rw [List.getElem?_set_ne (Ne.symm e)] at h1
      by_cases e2 : x = k
      · subst e2
        rw [List.getElem?_set_self hlk] at h1
        simp only [sJ] at h1
        subst h1
        show (dnG G b x oo).own[x]? = some none
        rw [hat, iN e, iP rfl]
      · rw [List.getElem?_set_ne (Ne.symm e2)] at h1
        exact conv x _ (hi.own x ob' h1) (by rw [hat, iN e, iN e2])
  · intro x x' o1 o2 h1 h2 hh1 hh2 he
    rcases hne x o1 h1 with ⟨e1, f1⟩ | ⟨e1, e1', f1⟩ <;> rcases hne x' o2 h2 with ⟨e2, f2⟩ | ⟨e2, e2', f2⟩
    · omega
    · have := hi.inj k x' o1 o2 f1 f2 hh1 hh2 he; omega
    · have := hi.inj x k o1 o2 f1 f2 hh1 hh2 he; omega
    · exact hi.inj x x' o1 o2 f1 f2 hh1 hh2 he
  · intro x o' h hh
    rcases hne x o' h with ⟨e1, f1⟩ | ⟨e1, e1', f1⟩
    · exact hi.sep k o' f1 hh
    · exact hi.sep x o' f1 hh
  · have hget : (E.dn b k).get i = ⟨(E.get i).cond && (match (E.get i).v with | .t _ => false | _ => true), (E.get i).v.dn b k⟩ := by
      unfold Env.get Env.dn
      simp only
      rw [Tr.dn_get, Tr.dn_get, Tr.dn_get, Tr.dn_ent]
    rw [hget] at hc ⊢
    simp only [Bool.and_eq_true] at hc
    have hr := hs.slot i hc.1
    cases hv : (E.get i).v with
    | x => trivial
    | c y => rw [hv] at hr; exact Bl hbk hok hob hr
    | a ys => rw [hv] at hr; obtain ⟨vs, e, h2⟩ := hr; exact ⟨vs, e, zr hbk hok hob h2⟩
    | t ps => rw [hv] at hc; simp at hc
theorem Da :
    ((∀ b k n na t, Env.dn b k ⟨n, na, t⟩ = ⟨n, na, t.dn b k⟩) ∧ (∀ b k, Tr.dn b k .nil = .nil) ∧ (∀ b k c y, Tr.dn b k (.leaf ⟨c, .c y⟩) = .leaf ⟨c, .c (y.dn b k)⟩) ∧ (∀ b k c ys, Tr.dn b k (.leaf ⟨c, .a ys⟩) = .leaf ⟨c, .a (ys.map (CV.dn b k))⟩) ∧
     (∀ b k c ps, Tr.dn b k (.leaf ⟨c, .t ps⟩) = .leaf ⟨false, .x⟩) ∧ (∀ b k c, Tr.dn b k (.leaf ⟨c, .x⟩) = .leaf ⟨c, .x⟩) ∧
     (∀ b k a0 a1 a2 a3 a4 a5 a6 a7, Tr.dn b k (.node a0 a1 a2 a3 a4 a5 a6 a7) = .node (a0.dn b k) (a1.dn b k) (a2.dn b k) (a3.dn b k) (a4.dn b k) (a5.dn b k) (a6.dn b k) (a7.dn b k))) ∧
    ((∀ b k, OB.dn b k .dead = .dead) ∧ (∀ b k cs, OB.dn b k (.box cs) = .box (cs.map (CV.dn b k))) ∧ (∀ b k s' v' T e, OB.dn b k (.arr s' v' T e) = .arr s' v' T e) ∧ (∀ b k P k' m, OB.dn b k (.mp P k' m) = .mp P k' m)) ∧
    ((∀ b k x, CV.dn b k (.bool x) = .bool x) ∧ (∀ b k q n, CV.dn b k (.int q n) = .int q n) ∧ (∀ b k x, CV.dn b k (.str x) = .str x) ∧ (∀ b k, CV.dn b k .nilp = .nilp) ∧ (∀ b k, CV.dn b k .nils = .nils) ∧
     (∀ b k, CV.dn b k .nilf = .nilf) ∧ (∀ b k, CV.dn b k .nili = .nili) ∧ (∀ b k, CV.dn b k .emp = .emp) ∧ (∀ b k, CV.dn b k .emn = .emn) ∧ (∀ b k, CV.dn b k .junk = .junk) ∧ (∀ b k s' e', CV.dn b k (.tree s' e') = .tree s' e') ∧
     (∀ b k s' e' i j, CV.dn b k (.tptr s' e' i j) = .tptr s' e' i j) ∧ (∀ b k T g cs, CV.dn b k (.ifc T g cs) = .ifc T g cs)) ∧
    ((∀ b k b' v' lo len, CV.dn b k (.osl b' v' lo len) = if b' = k then .osl b v' lo len else if b' = b then .junk else .osl b' v' lo len) ∧
     (∀ b k b' v' i j, CV.dn b k (.oel b' v' i j) = if b' = k then .oel b v' i j else if b' = b then .junk else .oel b' v' i j) ∧ (∀ b k b' off, CV.dn b k (.optr b' off) = if b' = k then .optr b off else if b' = b then .junk else .optr b' off) ∧
     (∀ b k f caps, CV.dn b k (.fn f caps) = .fn f (caps.map (CV.dnO b k)))) := by
  refine ⟨⟨?_, ?_, ?_, ?_, ?_, ?_, ?_⟩, ⟨?_, ?_, ?_, ?_⟩, ⟨?_, ?_, ?_, ?_, ?_, ?_, ?_, ?_, ?_, ?_, ?_, ?_, ?_⟩, ?_, ?_, ?_, ?_⟩
  all_goals intros
  all_goals first | rfl | (simp [Tr.dn, PV.dn]; done)
theorem li {E : Env} {σ : List OB} (s : Nat) (T : TypeId) (hs : 0 < s) : fD E σ E (σ ++ [.arr s 0 T []]) := by
  intro G a w hs'
  exact ⟨{ G with own := G.own ++ [some ⟨0, s, 0, 0, false, 0⟩] }, .mk' ⟨fun _ _ h => h, rfl, rfl, rfl⟩ (bD.append _ _), hs'.inv.nil s T hs, hs'.defers, hs'.size, hs'.na,
    fun j hc => aX.mono (G := G) (G' := { G with own := G.own ++ [some ⟨0, s, 0, 0, false, 0⟩] }) (fun _ _ h => h) (bD.append _ _) (hs'.slot j hc)⟩
theorem zs {α : Type} (l : List α) (n : Nat) (h : l.length ≤ n) : (lit l).take n = lit l := List.take_of_length_le h
theorem uy {α β : Type} (f : α → β) (l : List α) (n : Nat) (h : l.length ≤ n) : ((lit l).map f).take n = (lit l).map f := List.take_of_length_le (by simpa [lit] using h)
end Pam
namespace Pam
open Go
theorem cy {α:Type} {f:α→List CV} {l:List α} {n:Nat} (h:∀ x,(f x).length = n):∀ e∈l.map f,e.length = n:=by
 intro e he
 obtain ⟨x,_,rfl⟩:=List.mem_map.1 he
 exact h x
theorem CK:(∀ y,PV.capOk (.c y) = (match y with | .fn _ _=>false | _=>true))∧(∀ b o,CV.flat (.optr b o) = false)∧(∀ b,CV.flat (.bool b) = true)∧(∀ k n,CV.flat (.int k n) = true)∧(∀ s,CV.flat (.str s) = true)∧(∀ s e,CV.flat (.tree s e) = true)∧CV.flat .nils = true∧CV.flat .nilp = true∧CV.flat .nilf = true∧CV.flat .nili = true∧CV.flat .emp = true∧(∀ b v l n,CV.flat (.osl b v l n) = false)∧(∀ b v l n,CV.flat (.oel b v l n) = false):=by
 refine ⟨?_,?_,?_,?_,?_,?_,?_,?_,?_,?_,?_,?_,?_⟩ <;> intros <;> first | rfl | skip
 rename_i y;cases y <;> rfl
def bL:=(And.intro (And.intro (And.intro (And.intro (And.intro @List.mem_cons.{0} (And.intro @List.not_mem_nil.{0} @forall_eq_or_imp.{1})) (And.intro (And.intro @List.getElem?_cons_zero.{0} @List.getElem?_cons_succ.{0}) (And.intro @List.getElem?_nil.{0} @List.length_cons.{0}))) (And.intro (And.intro (And.intro @List.length_nil.{0} @List.length_map.{0,0}) (And.intro @List.set_cons_zero.{0} @List.set_cons_succ.{0})) (And.intro (And.intro @List.drop_zero.{0} @List.drop_succ_cons.{0}) (And.intro @List.take_succ_cons.{0} @List.take_zero.{0})))) (And.intro (And.intro (And.intro (And.intro @List.headD_cons.{0} @List.cons_append.{0}) (And.intro @List.nil_append.{0} @List.map_cons.{0,0})) (And.intro (And.intro @List.map_nil.{0,0} @List.tail_cons.{0}) (And.intro @List.getD_cons_zero.{0} @List.getD_cons_succ.{0}))) (And.intro (And.intro (And.intro @true_and @and_true) (And.intro @eq_self.{1} @forall_const.{1})) (And.intro (And.intro @if_true.{0} @forall_eq.{1}) (And.intro @imp_self @implies_true.{1}))))) (And.intro (And.intro (And.intro (And.intro (And.intro @true_or @or_true) (And.intro @false_or @or_false)) (And.intro (And.intro @Nat.zero_add @Nat.add_zero) (And.intro @tN @Option.map_some.{0,0}))) (And.intro (And.intro (And.intro @Option.map_none.{0,0} @beq_self_eq_true.{0}) (And.intro @Bool.true_eq_false @Bool.false_eq_true)) (And.intro (And.intro @false_implies @not_false_eq_true) (And.intro @Nat.le_refl @List.all_cons.{0})))) (And.intro (And.intro (And.intro (And.intro @List.all_nil.{0} @List.replicate_succ.{0}) (And.intro @List.replicate_zero.{0} @List.flatten_cons.{0})) (And.intro (And.intro @List.flatten_nil.{0} @List.append_nil.{0}) (And.intro @Bool.and_true @List.foldr_cons.{0,0}))) (And.intro (And.intro (And.intro @List.foldr_nil.{0,0} @Option.isSome_some.{0}) (And.intro @Option.isSome_none.{0} @eK.eq_1)) (And.intro (And.intro @eB.eq_1 @eS.eq_1) (And.intro @eL.eq_1 CK))))))
def bM:=(And.intro (And.intro (And.intro (And.intro (And.intro AC (And.intro CG zh)) (And.intro zi (And.intro zj C6))) (And.intro (And.intro CC (And.intro Be CD)) (And.intro CE (And.intro C7 @xq)))) (And.intro (And.intro (And.intro @tJ (And.intro @jI Bh)) (And.intro ux (And.intro CJ CI))) (And.intro (And.intro @iM.eq_1 (And.intro @kh.eq_1 @qT.eq_1)) (And.intro (And.intro @qT.eq_2 @qT.eq_3) (And.intro @qT.eq_4 @qT.eq_5))))) (And.intro (And.intro (And.intro (And.intro @gJ.eq_1 (And.intro @kM.eq_1 @kM.eq_3)) (And.intro @tz.eq_1 (And.intro @bnd.eq_1 @bnd.eq_2))) (And.intro (And.intro @rN.eq_1 (And.intro @rN.eq_2 @rN.eq_3)) (And.intro (And.intro @rN.eq_4 @rN.eq_5) (And.intro @rN.eq_6 @rN.eq_7)))) (And.intro (And.intro (And.intro @tb.eq_1 (And.intro @tb.eq_2 @eqC.eq_1)) (And.intro @eqC.eq_2 (And.intro @eqC.eq_3 @ft.eq_1))) (And.intro (And.intro @mW.eq_1 (And.intro @fv.eq_1 @ny.eq_1)) (And.intro (And.intro @ny.eq_2 @qU.eq_1) (And.intro @cut.eq_1 @cut.eq_2))))))
def bR:=And.intro (And.intro (And.intro @fa.eq_1 @fa.eq_2) bL) (And.intro bM (And.intro (And.intro @o9.eq_1 @o9.eq_2) (And.intro @o9.eq_3 @o9.eq_4)))
def bA:=And.intro (And.intro (And.intro (And.intro @gl.eq_1 @gl.eq_2) (And.intro @nK.eq_1 (And.intro @nK.eq_2 @nK.eq_3))) bL) (And.intro bM (And.intro (And.intro @tI.eq_1 @tI.eq_2) (And.intro @tI.eq_3 @tI.eq_4)))
def bE:=And.intro (And.intro zl CG) (And.intro zh (And.intro zi zj))
def bS:=And.intro (And.intro pW (And.intro Bf @jI)) (And.intro bE (And.intro bL ux))
def bF:=And.intro (And.intro CF AE) (And.intro (And.intro zl Bf) (And.intro (And.intro Be zh) (And.intro (And.intro zi zj) (And.intro (And.intro @xq @tJ) (And.intro bL ux)))))
def bZ:=And.intro (And.intro (And.intro C8 C9) (And.intro Da Bh)) (And.intro ux (And.intro (And.intro @jI (And.intro @zs @uy)) bE))
end Pam
namespace Pam
open Go
section
variable {P:Program} {ops:Array Oper} {E E' E1 E2:Env} {σ σ' σ1 σ2:List OB} {k:Env→List OB→Prop} {kp:PV→Env→List OB→Prop} {l:List Oper} {K:Kt} {c y:Code}
theorem em {α:Type} [Inhabited α] (f:α→List CV) (xs:List α) (i:Nat) (h:i < xs.length:=by first | omega | (simp only [jI,List.length_cons,List.length_nil,List.length_append,List.length_set,List.length_replicate,List.length_map,List.length_take,List.length_drop];omega)):elt (xs.map f) i = f (xs.getD i default):=xr f xs i h
structure Bx (p:Prop):Prop where
 h:p
theorem sd {p q:Prop} (hq:q) (hp:p:=by first | omega | assumption | decide | exact cy fun _=>rfl | (intro _;omega) | rfl | exact fun e=>absurd (List.map_eq_nil_iff.1 e) (by assumption) | (and_intros <;> first | omega | assumption | decide | exact cy fun _=>rfl)):p∧q:=⟨hp,hq⟩
theorem a2 {p q:Prop} (h:p) (i:q):p∧q:=⟨h,i⟩
theorem go {p q:Prop} (hq:q) (h:Bx q→p:=by
  intro hq
  simp only [bR,bT,tab,bX,reduceIte,↓reduceIte,reduceCtorEq,Int.reduceToNat,Nat.reduceDiv,Nat.reduceMod,Nat.reduceLT,Nat.reduceLeDiff,Nat.reduceAdd,Nat.reduceSub,Nat.reduceMul,Nat.reduceEqDiff,Nat.reduceBEq,Nat.reduceBNe,Nat.reduceGT]
  repeat refine sd ?_
  exact hq.1):p:=h ⟨hq⟩
theorem gox {p q F:Prop} (fx:F) (hq:q) (h:F→Bx q→p:=by
  intro fx hq
  simp only [bR,bT,tab,bX,reduceIte,↓reduceIte,reduceCtorEq,Int.reduceToNat,Nat.reduceDiv,Nat.reduceMod,Nat.reduceLT,Nat.reduceLeDiff,Nat.reduceAdd,Nat.reduceSub,Nat.reduceMul,Nat.reduceEqDiff,Nat.reduceBEq,Nat.reduceBNe,Nat.reduceGT,fx]
  repeat refine sd ?_
  exact hq.1):p:=h fx ⟨hq⟩
theorem ga {p q:Prop} (hq:q) (h:Bx q→p:=by
  intro hq
  simp only [bA,bT,tab,bX,reduceIte,↓reduceIte,reduceCtorEq,Int.reduceToNat,Nat.reduceDiv,Nat.reduceMod,Nat.reduceLT,Nat.reduceLeDiff,Nat.reduceAdd,Nat.reduceSub,Nat.reduceMul,Nat.reduceEqDiff,Nat.reduceBEq,Nat.reduceBNe,Nat.reduceGT]
  repeat refine sd ?_
  exact hq.1):p:=h ⟨hq⟩
theorem gax {p q F:Prop} (fx:F) (hq:q) (h:F→Bx q→p:=by
  intro fx hq
  simp only [bA,bT,tab,bX,reduceIte,↓reduceIte,reduceCtorEq,Int.reduceToNat,Nat.reduceDiv,Nat.reduceMod,Nat.reduceLT,Nat.reduceLeDiff,Nat.reduceAdd,Nat.reduceSub,Nat.reduceMul,Nat.reduceEqDiff,Nat.reduceBEq,Nat.reduceBNe,Nat.reduceGT,fx]
  repeat refine sd ?_
  exact hq.1):p:=h fx ⟨hq⟩
theorem gz {p q:Prop} (hq:q) (h:Bx q→p:=by
  intro hq
  simp only [bZ,bL,reduceIte,↓reduceIte,reduceCtorEq,Int.reduceToNat,Nat.reduceDiv,Nat.reduceMod,Nat.reduceLT,Nat.reduceLeDiff,Nat.reduceAdd,Nat.reduceSub,Nat.reduceMul,Nat.reduceEqDiff,Nat.reduceBEq,Nat.reduceBNe,Nat.reduceGT]
  exact hq.1):p:=h ⟨hq⟩
theorem en {p:Prop} (h:p:=by simp only [bF,bT,tab,bX,Sum.elim_inl,Sum.elim_inr,reduceIte,↓reduceIte,reduceCtorEq,Int.reduceToNat,Nat.reduceDiv,Nat.reduceMod,Nat.reduceLT,Nat.reduceLeDiff,Nat.reduceAdd,Nat.reduceSub,Nat.reduceMul,Nat.reduceEqDiff,Nat.reduceBEq,Nat.reduceBNe,Nat.reduceGT] <;> first | done | rfl | (and_intros <;> first | rfl | omega | (simp;done) | (simp [eK,eB,eS,eL];done))):p:=h
theorem ls {p:Prop} (h:p:=by simp only [bS,bX,reduceIte,↓reduceIte,reduceCtorEq,Int.reduceToNat,Nat.reduceDiv,Nat.reduceMod,Nat.reduceLT,Nat.reduceLeDiff,Nat.reduceAdd,Nat.reduceSub,Nat.reduceMul,Nat.reduceEqDiff,Nat.reduceBEq,Nat.reduceBNe,Nat.reduceGT] <;> first | done | (and_intros <;> first | rfl | (simp;done) | omega | (simp [lit,bX,eK,eB,eS,eL];done) | (simp only [jI,List.length_cons,List.length_nil,List.length_append,List.length_set,List.length_replicate,List.length_map,List.length_take,List.length_drop];omega))):p:=h
theorem am {id:Nat} (ms:List Nat) (next:W P y K E' σ') (h:∀ (k:Env→List OB→Prop) (kp:PV→Env→List OB→Prop),k E' σ'→fa P l.toArray l E σ (fun E σ=>k (E.forget ms) σ) kp:=by
  intro k kp hk
  refine go ?_
  exact hk):W P (.seq (.region id l.toArray false) y) K E σ:=aI ms fun k kp hk _=>h k kp (hk _ _ next)
theorem bn {id:Nat} (next:K .normal E' σ') (h:∀ (k:Env→List OB→Prop) (kp:PV→Env→List OB→Prop),k E' σ'→fa P l.toArray l E σ k kp:=by
  intro k kp hk
  refine go ?_
  exact hk):W P (.region id l.toArray false) K E σ:=e8 fun k kp hk _=>h k kp (hk _ _ next)
theorem zw {id:Nat} (ms:List Nat) (masks:List Nat) (bs:List Bool) (next:W P y K E' σ') (hm:P.follows .mixedOrders = true:=by kernel_rfl) (hc:chk l.toArray l masks bs = true:=by kernel_rfl)
  (h:∀ (k:Env→List OB→Prop),k E' σ'→gl P l.toArray l bs E σ (fun E σ=>k (E.forget ms) σ):=by
  intro k hk
  refine ga ?_
  exact hk):W P (.seq (.region id l.toArray true) y) K E σ:=kP ms hm masks bs hc fun k hk=>h k (hk _ _ next)
theorem Db {id:Nat} (masks:List Nat) (bs:List Bool) (next:K .normal E' σ') (hm:P.follows .mixedOrders = true:=by kernel_rfl) (hc:chk l.toArray l masks bs = true:=by kernel_rfl)
  (h:∀ (k:Env→List OB→Prop),k E' σ'→gl P l.toArray l bs E σ k:=by
  intro k hk
  refine ga ?_
  exact hk):W P (.region id l.toArray true) K E σ:=ra hm masks bs hc fun k hk=>h k (hk _ _ next)
theorem bj {F:Prop} (fx:F) {id:Nat} (ms:List Nat) (next:W P y K E' σ') (h:F→∀ (k:Env→List OB→Prop) (kp:PV→Env→List OB→Prop),k E' σ'→fa P l.toArray l E σ (fun E σ=>k (E.forget ms) σ) kp:=by
  intro fx k kp hk
  refine gox fx ?_
  exact hk):W P (.seq (.region id l.toArray false) y) K E σ:=aI ms fun k kp hk _=>h fx k kp (hk _ _ next)
theorem kv {F:Prop} (fx:F) {id:Nat} (next:K .normal E' σ') (h:F→∀ (k:Env→List OB→Prop) (kp:PV→Env→List OB→Prop),k E' σ'→fa P l.toArray l E σ k kp:=by
  intro fx k kp hk
  refine gox fx ?_
  exact hk):W P (.region id l.toArray false) K E σ:=e8 fun k kp hk _=>h fx k kp (hk _ _ next)
theorem lE {F:Prop} (fx:F) {id:Nat} (ms:List Nat) (masks:List Nat) (bs:List Bool) (next:W P y K E' σ') (hm:P.follows .mixedOrders = true:=by kernel_rfl) (hc:chk l.toArray l masks bs = true:=by kernel_rfl)
  (h:F→∀ (k:Env→List OB→Prop),k E' σ'→gl P l.toArray l bs E σ (fun E σ=>k (E.forget ms) σ):=by
  intro fx k hk
  refine gax fx ?_
  exact hk):W P (.seq (.region id l.toArray true) y) K E σ:=kP ms hm masks bs hc fun k hk=>h fx k (hk _ _ next)
theorem xz {F:Prop} (fx:F) {id:Nat} (masks:List Nat) (bs:List Bool) (next:K .normal E' σ') (hm:P.follows .mixedOrders = true:=by kernel_rfl) (hc:chk l.toArray l masks bs = true:=by kernel_rfl)
  (h:F→∀ (k:Env→List OB→Prop),k E' σ'→gl P l.toArray l bs E σ k:=by
  intro fx k hk
  refine gax fx ?_
  exact hk):W P (.region id l.toArray true) K E σ:=ra hm masks bs hc fun k hk=>h fx k (hk _ _ next)
theorem eP (hg:fD E σ E1 σ1) (next:W P c K E2 σ2) (h:W P c K E2 σ2→W P c K E1 σ1:=by
  intro hq
  simp only [bZ,bL,reduceIte,↓reduceIte,reduceCtorEq,Int.reduceToNat,Nat.reduceDiv,Nat.reduceMod,Nat.reduceLT,Nat.reduceLeDiff,Nat.reduceAdd,Nat.reduceSub,Nat.reduceMul,Nat.reduceEqDiff,Nat.reduceBEq,Nat.reduceBNe,Nat.reduceGT]
  exact hq):W P c K E σ:=cG hg (h next)
theorem nD (next:W P c K E' σ) (h:E = E':=by simp only [bE,Nat.reduceDiv,Nat.reduceMod,Nat.reduceLT,Nat.reduceLeDiff,Nat.reduceAdd,Nat.reduceSub,Nat.reduceMul,Nat.reduceEqDiff,Nat.reduceBEq,Nat.reduceBNe,Nat.reduceGT,Int.reduceToNat];rfl):W P c K E σ:=nC h rfl next
theorem aJ (next:W P c K E' σ') (h:E = E':=by simp only [bE,Nat.reduceDiv,Nat.reduceMod,Nat.reduceLT,Nat.reduceLeDiff,Nat.reduceAdd,Nat.reduceSub,Nat.reduceMul,Nat.reduceEqDiff,Nat.reduceBEq,Nat.reduceBNe,Nat.reduceGT,Int.reduceToNat];rfl) (h2:σ = σ':=by first | (dsimp only;rfl) | rfl):W P c K E σ:=nC h h2 next
theorem bP (next:W P c K E' σ') (h:E = E':=by simp only [i6,Env.ofList,List.length_nil,List.length_cons,bE,Nat.reduceDiv,Nat.reduceMod,Nat.reduceLT,Nat.reduceLeDiff,Nat.reduceAdd,Nat.reduceSub,Nat.reduceMul,Nat.reduceEqDiff,Nat.reduceBEq,Nat.reduceBNe,Nat.reduceGT,Int.reduceToNat];rfl) (h2:σ = σ':=by rfl):W P c K E σ:=nC h h2 next
theorem nE (next:W P c K E' σ') (h:E = E':=by simp only [bE,Nat.reduceDiv,Nat.reduceMod,Nat.reduceLT,Nat.reduceLeDiff,Nat.reduceAdd,Nat.reduceSub,Nat.reduceMul,Nat.reduceEqDiff,Nat.reduceBEq,Nat.reduceBNe,Nat.reduceGT,Int.reduceToNat,List.length_cons,List.length_nil,List.length_append,List.cons_append,List.nil_append];rfl) (h2:σ = σ':=by simp only [List.length_cons,List.length_nil,List.length_append,List.cons_append,List.nil_append];rfl):W P c K E σ:=nC h h2 next
theorem f9 (σ':List OB) (next:W P c K E σ') (h:σ = σ':=by first | rfl | (simp only [List.take_of_length_le,List.length_map,List.length_append,List.length_cons,List.length_nil,List.length_replicate,List.length_set,List.map_append,List.map_cons,List.map_nil,List.map_replicate,List.map_set,Nat.le_refl,Nat.zero_add,List.nil_append,List.set_cons_zero,List.set_cons_succ,bX,eK,eB,eS,eL];done) | (simp only [List.take_of_length_le,List.length_map,List.length_append,List.length_cons,List.length_nil,List.length_replicate,List.length_set,List.map_append,List.map_cons,List.map_nil,List.map_replicate,List.map_set,Nat.le_refl,Nat.zero_add,List.nil_append,List.set_cons_zero,List.set_cons_succ,bX,eK,eB,eS,eL];rfl) | (simp;done)):W P c K E σ:=nC rfl h next
theorem RP {γ:Bool} {C:Prop} {f:FuncId} {args:List PV} {o:Oper} {r:List Oper} {res:PV} (hs:γ = true→cd P f args res) (next:gK P ops r (E.putD o.dst ⟨γ,res⟩) σ k kp)
  (hd:dk E o.dst:=by first | trivial | exact kQ rfl) (hC:γ = true→C:=by first | trivial | (intro _;first | trivial | simp [aN]) | simp [aN]) (hargs:args.all PV.noOwn = true:=by exact rfl) (hres:res.ren (df σ.length []) = res:=by exact rfl):lZ P ops γ C f args o r E σ k kp:=ti hs hd hC hargs hres next
theorem AP {γ:Bool} {C:Prop} {f:FuncId} {args:List PV} {o:Oper} {r:List Oper} {bs:List Bool} {res:PV} (hs:γ = true→cd P f args res) (next:gl P ops r bs.tail (E.putD o.dst ⟨γ,res⟩) σ k)
  (hd:dk E o.dst:=by first | trivial | exact kQ rfl) (hC:γ = true→C:=by first | trivial | (intro _;first | trivial | simp [aN]) | simp [aN]) (hargs:args.all PV.noOwn = true:=by exact rfl) (hres:∀ n,res.ren (df n []) = res:=by exact fun _=>rfl):kW P ops γ C f args o r bs E σ k:=uv hs hd hC hargs hres next
theorem RA {C:Prop} {f:FuncId} {args:List PV} {o:Oper} {r:List Oper} {args':List PV} {σc:List OB} {post:PV→List OB→Prop} (hs:eD P f args' σc post (fun _ _=>False)) (ρ:List Nat)
  (next:∀ p σ',post p σ'→ρ.length ≤ σ'.length→gK P ops r (E.putD o.dst ⟨true,p.ren (df σ.length ρ)⟩) (cV σ ρ (σ'.map (OB.ren (df σ.length ρ)))) k kp)
  (hd:dk E o.dst:=by first | trivial | exact kQ rfl) (hC:C:=by first | trivial | (intro _;first | trivial | simp [aN]) | simp [aN]) (hnd:ρ.Nodup:=by simp) (hlt:∀ b∈ρ,b < σ.length:=by simp)
  (hargs:args = args'.map (PV.ren (df σ.length ρ)):=by exact rfl) (hσ:ρ.map (fun b=>σ[b]?) = σc.map (fun ob=>some (ob.ren (df σ.length ρ))):=by exact rfl) (hu:fC ρ.length args':=by first | trivial | (simp [bX,eK,eB,eS,eL,pW,fC,PV.under,CV.under,ck,OB.under,cQ];done)) (hub:ck ρ.length σc:=by first | trivial | (simp [bX,eK,eB,eS,eL,pW,fC,PV.under,CV.under,ck,OB.under,cQ];done)) :
  lZ P ops true C f args o r E σ k kp:=vq hs ρ hd hC hnd hlt hargs hσ hu hub next (fun _ _ h _=>h.elim)
theorem RS {o:Oper} {r:List Oper} {v:PV} (hx:pd P E σ o v σ') (next:gK P ops r (E.putD o.dst ⟨true,v⟩) σ' k kp) (hg:dZ ops E o.guard = some true:=by first | rfl | (simp only [bR,bT,tab,bX,reduceIte,↓reduceIte,reduceCtorEq,Int.reduceToNat,Nat.reduceDiv,Nat.reduceMod,Nat.reduceLT,Nat.reduceLeDiff,Nat.reduceAdd,Nat.reduceSub,Nat.reduceMul,Nat.reduceEqDiff,Nat.reduceBEq,Nat.reduceBNe,Nat.reduceGT];done)) (hd:dk E o.dst:=by first | trivial | exact kQ rfl) :
  gK P ops (o :: r) E σ k kp:=pX hx hg hd next
end
end Pam
